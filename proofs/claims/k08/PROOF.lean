import PyProof.Rows.All
import HandS.ForMost
import HandS.ForExc
import HandS.Wide
import HandS.IsInst
import HandS.Zip
import HandS.Style
import HandS.CallSlots
import HandS.TupAny
import HandS.TupMul
import HandS.Deep
import HandS.Iter
import HandS.Star
import HandS.MethStar
import PyProof.ReprRoads
import KE.GoesMore
import KE.GoesZip
import KE.GoesEnum
import PyProof.EnumMake
import HandS.Rev
import KE.KRevSl
import HandS.Exc
import HandS.ExcIs
import HandS.ExcField
import KE.KExcIs
import Open.SpecLaws
import KE.OsGo
import HandS.ForSpec
import HandS.SetFor
import HandS.Strs
import KE.KDictZip
import KE.KItemsList
import HandS.ListItems
import HandS.EndBits
import PySem.Challenge.RW_onenumber_k08_arguments_by_names
import Wide.All
import OpenK.AllK
import Wide.FinOn
set_option Elab.async false
set_option linter.all false
set_option maxRecDepth 100000
/-! Plain data, a small expression language and its evaluation. -/
namespace PD
open PySem
noncomputable section
/-- how far a range may go; told so that nobody works it out -/
theorem lim_ex : ∃ x : Int, x = 2 ^ 62 := ⟨_, rfl⟩
def lim62 : Int := 2 ^ 62
theorem lim62_eq : lim62 = 2 ^ 62 := rfl

/-- plain data. lst: a list that nobody writes any more; own (in slots alone): one that its def still writes; ref: an object of the heap -/
inductive D where
  | non | bl (b : Bool) | int (i : Int) | str (s : Str) | tup (ds : List D) | lst (ds : List D) | ref (n : Nat) | scr (ns : List Int) | own (ds : List D) | err (c : Nat) (x : D) | emp
inductive O where
  | lst (ds : List D)
  | dct (kvs : List (Str × D))
abbrev Hh := List O
abbrev En := List (Option D)
inductive R (α : Type) where
  | ok (a : α) (h : Hh) | exc (c : Nat) (x : D) (h : Hh) | bad
def bnd {α β : Type} (r : R α) (f : α → Hh → R β) : R β := match r with
  | .ok a h => f a h
  | .exc c x h => .exc c x h
  | .bad => .bad
def optR {α β : Type} (o : Option α) (f : α → R β) : R β := match o with
  | some a => f a
  | none => .bad
theorem optR_some {α β : Type} (a : α) (f : α → R β) : optR (some a) f = f a := rfl
theorem optR_none {α β : Type} (f : α → R β) : optR none f = .bad := rfl
theorem bnd_ok {α β : Type} (a : α) (h : Hh) (f : α → Hh → R β) : bnd (.ok a h) f = f a h := rfl

inductive Bi where
  | len | abs | int | list | tuple | all | any | sum | repr
  deriving DecidableEq
/-- methods of a list -/
inductive Me where
  | append | extend | insert | pop
  deriving DecidableEq
inductive Ty where
  | int | bool | str | tuple | list | dict
  deriving DecidableEq
mutual
inductive Ex where
  | con (d : D) | var (i : Nat) | bor (i : Nat) | own (e : Ex) | new (es : Exs) | tup (es : Exs) | lst (es : Exs)
  | bin (op : Operator) (a b : Ex) | neg (a : Ex) | not (a : Ex)
  | cmp (op : CmpOp) (a b : Ex) | chain (op op' : CmpOp) (a b c : Ex)
  | and (a b : Ex) | or (a b : Ex) | ite (c a b : Ex)
  | call (f : Nat) (es : Exs) | callO (f : Nat) (es : Exs) | bi (b : Bi) (e : Ex) | isi (e : Ex) (t : Ty)
  | ix (a i : Ex) | sl (a : Ex) (lo hi : Ox)
  | comp (it : Ix) (t : Tg) (c e : Ex) (own : List Nat)
  | comp2 (it : Ix) (t : Tg) (it1 : Ix) (t1 : Tg) (c e : Ex) (own own1 : List Nat)
  | isis (e : Ex) (ts : List Ty)
  | tupS (fl : List Bool) (es : Exs) | lstS (fl : List Bool) (es : Exs)
  | errV (i : Nat) | errIs (i : Nat) (cs ds : List Nat) | emp | slS (a k : Ex) | mm (b : Bool) (x y : Ex) | srt (e : Ex) | dix (a : Ex) (k : Str) | newD (k1 k2 : Str) (i j : Nat) | callK (f : Nat) (π : List Nat) (es ks : Exs) | popR (a : Ex) (es : Exs) | newL (e : Ex) | lzip (a b : Ex)
  | bad
inductive Exs where
  | nil | cons (e : Ex) (es : Exs)
inductive Ox where
  | none | some (e : Ex)
inductive Ix where
  | seq (e : Ex) | rng1 (a : Ex) | rng2 (a b : Ex) | rng3 (es : Exs) | enum (e : Ex) | zip (a b : Ex) | rev (e : Ex)
inductive Tg where
  | name (i : Nat) | tup (ts : Tgs) | sub (o i : Ex) | dsub (o : Ex) (k : Str)
inductive Tgs where
  | nil | cons (t : Tg) (ts : Tgs)
end
inductive Sx where
  | asg (t : Tg) (e : Ex) | par (is : List Nat) (es : Exs) | aug (i : Nat) (op : Operator) (e : Ex) | expr (e : Ex) | ret (e : Ex) | retO (e : Ex) | retN
  | ife (c : Ex) (a b : Sx) | whl (c : Ex) (b : Sx) | for_ (it : Ix) (t : Tg) (b : Sx) | forC (k : Bool) (a : Ex) (t : Tg) (b : Sx)
  | brk | cont | skip | seq (a b : Sx) | raise (c : Nat) (e : Ex)
  | mut (m : Me) (i : Nat) (es : Exs) | popO (t : Tg) (i : Nat) (es : Exs) | setO (i : Nat) (ix e : Ex) | appP (i j : Nat) (es : Exs) | asgB (j i : Nat) (e : Ex) | frz (is : List Nat) | tryS (b : Sx) (cs ds : List Nat) (i : Nat) (hb : Sx) | bad

/-! ### operations -/
def lstOf (h : Hh) (n : Nat) : Option (List D) := match h[n]? with
  | some (.lst ds) => some ds
  | some (.dct _) => none
  | none => none
def dctOf (h : Hh) (n : Nat) : Option (List (Str × D)) := match h[n]? with
  | some (.dct kvs) => some kvs
  | some (.lst _) => none
  | none => none
/-- what stands by a key; put in its place -/
def valD (kvs : List (Str × D)) (k : Str) : Option D := (kvs.find? fun kv => decide (kv.1 = k)).map (·.2)
def putD (kvs : List (Str × D)) (k : Str) (v : D) : List (Str × D) := kvs.map fun kv => if kv.1 = k then (kv.1, v) else kv
/-- a list's items: one of ours, or the script -/
def seqOf (h : Hh) : D → Option (List D)
  | .lst ds => some ds
  | .ref n => lstOf h n
  | .scr ns => some (ns.map .int)
  | _ => none
def allO {A B : Type} (f : A → Option B) : List A → Option (List B)
  | [] => some []
  | a :: as => match f a, allO f as with
    | some b, some bs => some (b :: bs)
    | _, _ => none
/-- what is to be compared: data through the heap -/
def toPy : Nat → Hh → D → Option PyData
  | 0, _, _ => none
  | _ + 1, _, .non => some .none
  | _ + 1, _, .bl b => some (.bool b)
  | _ + 1, _, .int i => some (.int i)
  | _ + 1, _, .str s => some (.str s)
  | n + 1, h, .tup ds => (allO (toPy n h) ds).map .tuple
  | n + 1, h, .lst ds => (allO (toPy n h) ds).map .list
  | n + 1, h, .ref a => (lstOf h a).bind fun ds => (allO (toPy n h) ds).map .list
  | _ + 1, _, .own _ => none
  | _ + 1, _, .err _ _ => none
  | _ + 1, _, .emp => none
  | _ + 1, _, .scr ns => some (.list (ns.map .int))
/-- the one deep, the other not -/
def eqW (h : Hh) (x y : D) : Option Bool := match toPy 200 h x, toPy 200 h y with
  | some a, some b => if (a.canLay0 && b.canLay0 && decide (min a.depth b.depth ≤ 64)) = true then some (PyData.eqv a b) else none
  | _, _ => none
def eqD (h : Hh) (x y : D) : Option Bool := match toPy 66 h x, toPy 66 h y with
  | some a, some b => if (SeqAt.shaped a && SeqAt.shaped b) = true then some (PyData.eqv a b) else eqW h x y
  | _, _ => eqW h x y
/-- what is to be shown: an empty dict, too -/
def toPyE : Nat → Hh → D → Option PyData
  | 0, _, _ => none
  | _ + 1, _, .non => some .none
  | _ + 1, _, .bl b => some (.bool b)
  | _ + 1, _, .int i => some (.int i)
  | _ + 1, _, .str s => some (.str s)
  | n + 1, h, .tup ds => (allO (toPyE n h) ds).map .tuple
  | n + 1, h, .lst ds => (allO (toPyE n h) ds).map .list
  | n + 1, h, .ref a => (lstOf h a).bind fun ds => (allO (toPyE n h) ds).map .list
  | _ + 1, _, .own _ => none
  | _ + 1, _, .err _ _ => none
  | _ + 1, _, .emp => some (.dict [])
  | _ + 1, _, .scr ns => some (.list (ns.map .int))
/-- how it is shown -/
def reprW (h : Hh) (x : D) : Option Str := match toPyE 200 h x with
  | some d => if (decide (d.depth ≤ 195) && d.showable && decide (d.shown.length ≤ sizeLine)) = true then some d.shown else none
  | none => none
def reprD (h : Hh) (x : D) : Option Str := match toPyE 66 h x with
  | some d => if (decide (d.depth ≤ 64) && d.showable && decide (d.shown.length ≤ sizeLine)) = true then some d.shown else reprW h x
  | none => reprW h x
/-- is it among the items? -/
def inD (h : Hh) (x y : D) : Option Bool := match toPy 66 h x, toPy 66 h y with
  | some a, some (.list bs) => if (SeqAt.shaped a && SeqAt.shaped (.list bs)) = true then some (bs.any fun z => PyData.eqv z a) else none
  | some a, some (.tuple bs) => if (SeqAt.shaped a && SeqAt.shaped (.tuple bs)) = true then some (bs.any fun z => PyData.eqv z a) else none
  | _, _ => none
def binOp : Operator → D → D → Hh → R D
  | .Add, .int a, .int b, h => .ok (.int (a + b)) h
  | .Sub, .int a, .int b, h => .ok (.int (a - b)) h
  | .Mult, .int a, .int b, h => if a.natAbs.log2 + b.natAbs.log2 < 1000000 then .ok (.int (a * b)) h else if a.natAbs.log2 + b.natAbs.log2 < 100000000 then .ok (.int (a * b)) h else .bad
  | .Mult, .lst x, .int b, h => if -(2 ^ 63) ≤ b ∧ b < 2 ^ 63 ∧ x.length * b.toNat ≤ sizeLine then .ok (.lst (List.replicate b.toNat x).flatten) h else .bad
  | .Mult, .tup x, .int b, h => if x ≠ [] ∧ 2 ≤ b ∧ b ≤ 1000 ∧ x.length ≤ 1000 then .ok (.tup (List.replicate b.toNat x).flatten) h else if b = 1 then .ok (.tup x) h else if x ≠ [] ∧ -(2 ^ 63) ≤ b ∧ b ≤ 0 then .ok (.tup []) h else .bad
  | .FloorDiv, .int a, .int b, h => if b ≠ 0 ∧ b.natAbs.log2 < 9000 then .ok (.int (a.fdiv b)) h else .bad
  | .Mod, .int a, .int b, h => if b ≠ 0 then .ok (.int (a.fmod b)) h else .bad
  | .Pow, .int a, .int b, h => if 0 ≤ b ∧ b ≤ 1000000 ∧ a.natAbs < 2 ^ 64 then .ok (.int (a ^ b.toNat)) h else if 0 ≤ b ∧ (a.natAbs.log2 + 1) * b.toNat ≤ 100000000 then .ok (.int (a ^ b.toNat)) h else .bad
  | .Add, .str a, .str b, h => if a.length + b.length ≤ sizeLine then .ok (.str (a ++ b)) h else .bad
  | .Add, .tup a, .tup b, h => if a.length + b.length ≤ sizeLine then .ok (.tup (a ++ b)) h else .bad
  | .Add, .lst x, .lst y, h => if x.length + y.length ≤ sizeLine then .ok (.lst (x ++ y)) h else .bad
  | _, _, _, _ => .bad
/-- a dict of the heap is asked, written -/
def dGet : D → Str → Hh → R D
  | .ref n, k, h => optR ((dctOf h n).bind fun kvs => valD kvs k) fun d => .ok d h
  | _, _, _ => .bad
/-- a sum of two lists, as a new list -/
def addF : D → D → Hh → R (List D)
  | .lst x, .lst y, h => if x.length + y.length ≤ sizeLine then .ok (x ++ y) h else .bad
  | _, _, _ => .bad
def isNon : D → Bool
  | .non => true
  | _ => false
def cmpOp : CmpOp → D → D → Hh → R D
  | .Lt, .int a, .int b, h => .ok (.bl (decide (a < b))) h
  | .LtE, .int a, .int b, h => .ok (.bl (decide (a ≤ b))) h
  | .Gt, .int a, .int b, h => .ok (.bl (decide (b < a))) h
  | .GtE, .int a, .int b, h => .ok (.bl (decide (b ≤ a))) h
  | .Eq, x, y, h => optR (eqD h x y) fun b => .ok (.bl b) h
  | .NotEq, x, y, h => optR (eqD h x y) fun b => .ok (.bl (!b)) h
  | .In, x, y, h => optR (inD h x y) fun b => .ok (.bl b) h
  | .NotIn, x, y, h => optR (inD h x y) fun b => .ok (.bl (!b)) h
  | .Is, x, .non, h => .ok (.bl (isNon x)) h
  | .Is, .bl a, .bl b, h => .ok (.bl (decide (a = b))) h
  | .IsNot, x, .non, h => .ok (.bl (!isNon x)) h
  | _, _, _, _ => .bad
def unNeg : D → Hh → R D
  | .int i, h => .ok (.int (-i)) h
  | _, _ => .bad
def ixOp : D → D → Hh → R D
  | .tup ds, .int i, h => optR (L2.atI ds i) fun d => .ok d h
  | x, .int i, h => optR ((seqOf h x).bind (fun ds => L2.atI ds i)) fun d => .ok d h
  | _, _, _ => .bad
def cutD (xs : List D) (lo hi : Option Int) : List D := (xs.drop (HT.sIx xs.length 0 lo)).take (HT.sIx xs.length xs.length hi - HT.sIx xs.length 0 lo)
def slOp : D → Option Int → Option Int → Hh → R D
  | .tup ds, lo, hi, h => .ok (.tup (cutD ds lo hi)) h
  | x, lo, hi, h => optR (seqOf h x) fun ds => .ok (.lst (cutD ds lo hi)) h
/-- x[::-1] -/
def stOp : D → D → Hh → R D
  | .tup ds, .int i, h => if i = -1 then .ok (.tup ds.reverse) h else .bad
  | x, .int i, h => if i = -1 then optR (seqOf h x) fun ds => .ok (.lst ds.reverse) h else .bad
  | _, _, _ => .bad
def mmOp : Bool → D → D → Hh → R D
  | true, .int i, .int j, h => .ok (.int (if j > i then j else i)) h
  | false, .int i, .int j, h => .ok (.int (if j < i then j else i)) h
  | _, _, _, _ => .bad
def boolsOf : List D → Option (List Bool)
  | [] => some []
  | .bl b :: r => (boolsOf r).map (b :: ·)
  | _ => none
def intsOf : List D → Option (List Int)
  | [] => some []
  | .int i :: r => (intsOf r).map (i :: ·)
  | _ => none
/-- the items of a tuple or a list -/
def itemsOf (h : Hh) : D → Option (List D)
  | .tup ds => some ds
  | x => seqOf h x
def biOp : Bi → D → Hh → R D
  | .len, .tup ds, h => .ok (.int ds.length) h
  | .len, x, h => optR (seqOf h x) fun ds => .ok (.int ds.length) h
  | .abs, .int i, h => .ok (.int (if i < 0 then -i else i)) h
  | .int, .int i, h => .ok (.int i) h
  | .int, .bl k, h => .ok (.int (if k then 1 else 0)) h
  | .list, x, h => optR (itemsOf h x) fun ds => .ok (.lst ds) h
  | .tuple, .tup ds, h => .ok (.tup ds) h
  | .tuple, x, h => optR (seqOf h x) fun ds => .ok (.tup ds) h
  | .all, x, h => optR ((seqOf h x).bind boolsOf) fun bs => .ok (.bl (bs.all id)) h
  | .any, x, h => optR ((seqOf h x).bind boolsOf) fun bs => .ok (.bl (bs.any id)) h
  | .sum, x, h => optR ((seqOf h x).bind intsOf) fun bs => .ok (.int bs.sum) h
  | .repr, x, h => optR (reprD h x) fun b => .ok (.str b) h
  | _, _, _ => .bad
inductive Kd where
  | non | bool | int | str | tuple | list | odd | dict
def kd : D → Kd
  | .non => .non
  | .bl _ => .bool
  | .int _ => .int
  | .str _ => .str
  | .tup _ => .tuple
  | .lst _ => .list
  | .ref _ => .list
  | .scr _ => .list
  | .own _ => .odd
  | .err _ _ => .odd
  | .emp => .dict
def isK : Ty → Kd → Bool
  | .int, .int => true
  | .int, .bool => true
  | .bool, .bool => true
  | .str, .str => true
  | .tuple, .tuple => true
  | .list, .list => true
  | .dict, .dict => true
  | _, _ => false
def isTy (t : Ty) (d : D) : Bool := isK t (kd d)
/-- a dict of the heap -/
def dctB (h : Hh) : D → Bool
  | .ref n => (dctOf h n).isSome
  | _ => false
def isTyH (h : Hh) (t : Ty) (d : D) : Bool := isK t (if dctB h d = true then .dict else kd d)
def isOdd : D → Bool
  | .own _ => true
  | .err _ _ => true
  | _ => false
/-- a list's method: what it leaves, what it returns -/
def mutOp : Me → List D → List D → Option (List D × D)
  | .append, xs, [y] => if xs.length < sizeLine then some (xs ++ [y], .non) else none
  | .extend, xs, [.lst zs] => if xs.length + zs.length ≤ sizeLine then some (xs ++ zs, .non) else none
  | .insert, xs, [.int i, y] => if xs.length < sizeLine ∧ 0 ≤ i ∧ i < 2 ^ 63 then some (xs.take i.toNat ++ [y] ++ xs.drop i.toNat, .non) else none
  | .pop, xs, [] => match xs[xs.length - 1]? with
    | some y => some (xs.dropLast, y)
    | none => none
  | .pop, xs, [.int i] => if -(2 ^ 63) ≤ i ∧ i < 2 ^ 63 then (match seqIndex? i xs.length with
    | some k => (match xs[k]? with
      | some y => some (xs.eraseIdx k, y)
      | none => none)
    | none => none) else none
  | _, _, _ => none
/-- in rising order, each once -/
def insU (i : Int) : List Int → List Int
  | [] => [i]
  | j :: r => if i < j then i :: j :: r else if i = j then j :: r else j :: insU i r
def sortU : List Int → List Int
  | [] => []
  | i :: r => insU i (sortU r)
/-- iterables: what they bring, one after the other -/
abbrev It := List D
def enumD : Nat → List D → List D
  | _, [] => []
  | i, d :: ds => .tup [.int i, d] :: enumD (i + 1) ds
def zipD : List D → List D → List D
  | d :: ds, e :: es => .tup [d, e] :: zipD ds es
  | _, _ => []
def rngD (lo st : Int) (n : Nat) : List D := (List.range n).map fun (i : Nat) => .int (lo + (i : Int) * st)
/-- items that nobody writes meanwhile -/
def fixOf : D → Option (List D)
  | .tup ds => some ds
  | .lst ds => some ds
  | .scr ns => some (ns.map .int)
  | _ => none
def seqIt (x : D) (h : Hh) : R It := optR (fixOf x) fun ds => .ok ds h
def enumIt (x : D) (h : Hh) : R It := optR (fixOf x) fun ds => .ok (enumD 0 ds) h
def zipIt (x y : D) (h : Hh) : R It := optR (fixOf x) fun ds => optR (fixOf y) fun es => .ok (zipD ds es) h
def revIt (x : D) (h : Hh) : R It := optR (fixOf x) fun ds => .ok ds.reverse h
def rngIt : Int → D → Hh → R It
  | lo, .int hi, h => if -lim62 ≤ lo ∧ lo < lim62 ∧ -lim62 ≤ hi ∧ hi < lim62 then .ok (rngD lo 1 (hi - lo).toNat) h else .bad
  | _, _, _ => .bad
def rngIt3 : List D → Hh → R It
  | [.int lo, .int hi, .int st], h => if -lim62 ≤ lo ∧ lo < lim62 ∧ -lim62 ≤ hi ∧ hi < lim62 ∧ st = -1 then .ok (rngD lo st (lo - hi).toNat) h else .bad
  | _, _ => .bad
def toBool : D → Hh → R Bool
  | .bl b, h => .ok b h
  | _, _ => .bad
def toInt : D → Hh → R Int
  | .int b, h => .ok b h
  | _, _ => .bad
def setAt : D → D → D → Hh → R Unit
  | .ref n, .int k, v, h => optR (lstOf h n) fun ds => optR (L2.ixN ds.length k) fun j => .ok () (h.set n (.lst (ds.set j v)))
  | _, _, _, _ => .bad
def dPut : D → Str → D → Hh → R Unit
  | .ref n, k, v, h => optR (dctOf h n) fun kvs => optR (valD kvs k) fun _ => if kvs.length < sizeLine then .ok () (h.set n (.dct (putD kvs k v))) else .bad
  | _, _, _, _ => .bad
def getE (en : En) (i : Nat) : Option D := match en[i]? with
  | some (some d) => if isOdd d = true then none else some d
  | _ => none
/-- read where nothing is kept of it -/
def getB (en : En) (i : Nat) : Option D := match en[i]? with
  | some (some (.own ds)) => some (.lst ds)
  | some (some (.err _ _)) => none
  | some (some d) => some d
  | _ => none
/-- a list of the def's own -/
def getO (en : En) (i : Nat) : Option (List D) := match en[i]? with
  | some (some (.own ds)) => some ds
  | _ => none
/-- the exception that the suite holds -/
def getX (en : En) (i : Nat) : Option (Nat × D) := match en[i]? with
  | some (some (.err c x)) => some (c, x)
  | _ => none
/-- it is not written any more -/
def frzE (en : En) : List Nat → En
  | [] => en
  | i :: is => match getO en i with
    | some ds => frzE (en.set i (some (.lst ds))) is
    | none => frzE en is
/-! may it be that a list is not the one that is lent? -/
def apL (xs ys : List D) : Bool := if xs.length = ys.length then (match xs, ys with
  | .tup _ :: _, .int _ :: _ => true
  | .int _ :: _, .tup _ :: _ => true
  | _, _ => false) else true
mutual
def apD (xs : List D) : D → Bool
  | .tup ds => apA xs ds
  | .lst ds => apL xs ds && apA xs ds
  | .own _ => false
  | .err _ _ => false
  | _ => true
def apA (xs : List D) : List D → Bool
  | [] => true
  | d :: ds => apD xs d && apA xs ds
end
def apO (xs : List D) : O → Bool
  | .lst ds => apA xs ds
  | .dct kvs => apA xs (kvs.map (·.2))
def apS (xs : List D) : Option D → Bool
  | none => true
  | some (.own es) => apA xs es
  | some d => apD xs d
def apE (xs : List D) (i : Nat) : Nat → En → Bool
  | _, [] => true
  | k, o :: r => (decide (k = i) || apS xs o) && apE xs i (k + 1) r
def lendOk (xs : List D) (i : Nat) (en : En) (h : Hh) : Bool := apE xs i 0 en && apA xs xs && h.all (apO xs)
def wipeE (en : En) : List Nat → En
  | [] => en
  | v :: vs => (wipeE en vs).set v none
/-- the turns of a comprehension -/
def compL (body : D → Hh → R (Option D)) : List D → Hh → R (List D)
  | [], h => .ok [] h
  | d :: ds, h => bnd (body d h) fun o h1 => bnd (compL body ds h1) fun r h2 => .ok (match o with | some x => x :: r | none => r) h2
/-- the turns of two loops, the one in the other; n: how many items there is room for -/
def comp2L {A : Type} (hd : D → Hh → R (A × It)) (body : A → D → Hh → R (Option D)) : Nat → List D → Hh → R (List D)
  | _, [], h => .ok [] h
  | n, d :: ds, h => bnd (hd d h) fun p h1 => if p.2.length ≤ n then bnd (compL (body p.1) p.2 h1) fun r h2 => bnd (comp2L hd body (n - r.length) ds h2) fun r' h3 => .ok (r ++ r') h3 else .bad
/-- more turns than any loop takes -/
def turns : Nat := 1000000000000
/-- a list of the heap is asked for one of its items -/
def cellOf : D → Hh → Option Nat
  | .ref n, h => (lstOf h n).map fun _ => n
  | _, _ => none
def popH (n : Nat) (ds : List D) (h : Hh) : R D := optR ((lstOf h n).bind fun xs => mutOp .pop xs ds) fun p => .ok p.2 (h.set n (.lst p.1))
/-- list(zip(x, y)) of lists -/
def zipL (x y : D) (h : Hh) : R (List D) := optR (seqOf h x) fun xs => optR (seqOf h y) fun ys => if min xs.length ys.length ≤ sizeLine then .ok (zipD xs ys) h else .bad
def noExc {α : Type} : R α → R α
  | .exc _ _ _ => .bad
  | r => r
abbrev EvD := En → Hh → R D
/-- of an expression: its value, its truth, the items of the new list that it is -/
structure Ev where
  v : EvD
  t : En → Hh → R Bool
  f : En → Hh → R (List D)
/-- what has no test of its own: its value's truth -/
def pl (f : EvD) : Ev := ⟨f, fun en h => bnd (f en h) toBool, fun _ _ => .bad⟩
/-- a new list -/
def pf (f : En → Hh → R (List D)) : Ev := ⟨fun en h => bnd (f en h) fun ds h1 => .ok (.lst ds) h1, fun en h => bnd (bnd (f en h) fun ds h1 => .ok (.lst ds) h1) toBool, f⟩
def ownOfD : D → Hh → R (List D)
  | .own xs, h => .ok xs h
  | _, _ => .bad
/-- keywords in the parameters' order -/
def kwD (π : List Nat) (ds zs : List D) : List D := ds ++ π.map fun j => zs.getD j .non
mutual
def evt (cl : Nat → List D → Hh → R D) : Ex → Ev
  | .con d => pl fun _ h => .ok d h
  | .var i => pl fun en h => optR (getE en i) fun d => .ok d h
  | .bor i => pl fun en h => optR (getB en i) fun d => .ok d h
  | .own e => pl fun en h => bnd ((evt cl e).f en h) fun ds h1 => .ok (.own ds) h1
  | .new es => pl fun en h => bnd (evs cl es en h) fun ds h1 => if ds.length ≤ sizeLine then .ok (.ref h1.length) (h1 ++ [.lst ds]) else .bad
  | .tup es => pl fun en h => bnd (evs cl es en h) fun ds h1 => if ds.length ≤ sizeLine then .ok (.tup ds) h1 else .bad
  | .lst es => pf fun en h => bnd (evs cl es en h) fun ds h1 => if ds.length ≤ sizeLine then .ok ds h1 else .bad
  | .bin op a b => ⟨fun en h => bnd ((evt cl a).v en h) fun x h1 => bnd ((evt cl b).v en h1) fun y h2 => binOp op x y h2, fun en h => bnd (bnd ((evt cl a).v en h) fun x h1 => bnd ((evt cl b).v en h1) fun y h2 => binOp op x y h2) toBool, fun en h => if op = .Add then bnd ((evt cl a).v en h) fun x h1 => bnd ((evt cl b).v en h1) fun y h2 => addF x y h2 else .bad⟩
  | .neg a => pl fun en h => bnd ((evt cl a).v en h) unNeg
  | .not a => ⟨fun en h => bnd ((evt cl a).v en h) fun x h1 => bnd (toBool x h1) fun b h2 => .ok (.bl (!b)) h2, fun en h => bnd ((evt cl a).t en h) fun b h1 => .ok (!b) h1, fun _ _ => .bad⟩
  | .cmp op a b => pl fun en h => bnd ((evt cl a).v en h) fun x h1 => bnd ((evt cl b).v en h1) fun y h2 => cmpOp op x y h2
  | .chain op op' a b c => pl fun en h => bnd ((evt cl a).v en h) fun x h1 => bnd ((evt cl b).v en h1) fun y h2 => bnd (cmpOp op x y h2) fun z h3 => bnd (toBool z h3) fun k h4 =>
      if k = true then bnd ((evt cl c).v en h4) fun w h5 => cmpOp op' y w h5 else .ok (.bl false) h4
  | .and a b => ⟨fun en h => bnd ((evt cl a).v en h) fun x h1 => bnd (toBool x h1) fun k h2 => if k = true then (evt cl b).v en h2 else .ok (.bl false) h2, fun en h => bnd ((evt cl a).t en h) fun k h1 => if k = true then (evt cl b).t en h1 else .ok false h1, fun _ _ => .bad⟩
  | .or a b => ⟨fun en h => bnd ((evt cl a).v en h) fun x h1 => bnd (toBool x h1) fun k h2 => if k = true then .ok (.bl true) h2 else (evt cl b).v en h2, fun en h => bnd ((evt cl a).t en h) fun k h1 => if k = true then .ok true h1 else (evt cl b).t en h1, fun _ _ => .bad⟩
  | .ite c a b => ⟨fun en h => bnd ((evt cl c).t en h) fun k h1 => if k = true then (evt cl a).v en h1 else (evt cl b).v en h1, fun _ _ => .bad, fun en h => bnd ((evt cl c).t en h) fun k h1 => if k = true then (evt cl a).f en h1 else (evt cl b).f en h1⟩
  | .call f es => pl fun en h => bnd (evs cl es en h) fun ds h1 => cl f ds h1
  | .callK f π es ks => pl fun en h => bnd (evs cl es en h) fun ds h1 => bnd (evs cl ks en h1) fun zs h2 => if zs.length = π.length then cl f (kwD π ds zs) h2 else .bad
  | .callO f es => pf fun en h => bnd (evs cl es en h) fun ds h1 => bnd (cl f ds h1) ownOfD
  | .bi b e => ⟨fun en h => bnd ((evt cl e).v en h) (biOp b), fun en h => bnd (bnd ((evt cl e).v en h) (biOp b)) toBool, fun en h => if b = .list then bnd ((evt cl e).v en h) fun x h1 => optR (itemsOf h1 x) fun ds => .ok ds h1 else .bad⟩
  | .isi e t => pl fun en h => bnd ((evt cl e).v en h) fun x h1 => .ok (.bl (isTyH h1 t x)) h1
  | .ix a i => pl fun en h => bnd ((evt cl a).v en h) fun x h1 => bnd ((evt cl i).v en h1) fun y h2 => ixOp x y h2
  | .sl a lo hi => pl fun en h => bnd ((evt cl a).v en h) fun x h1 => bnd (evo cl lo en h1) fun l h2 => bnd (evo cl hi en h2) fun u h3 => slOp x l u h3
  | .comp it t c e own => pf fun en h => bnd (evi cl it en h) fun I h1 => if I.length ≤ sizeLine then noExc (compL (fun d h2 => bnd (asgn cl t d (wipeE en own) h2) fun en3 h3 => bnd ((evt cl c).t en3 h3) fun k h4 =>
      if k = true then bnd ((evt cl e).v en3 h4) fun y h5 => .ok (some y) h5 else .ok none h4) I h1) else .bad
  | .comp2 it t it1 t1 c e own own1 => pf fun en h => bnd (evi cl it en h) fun I h1 => noExc (comp2L (fun d h2 => bnd (asgn cl t d (wipeE en own) h2) fun en3 h3 => bnd (evi cl it1 en3 h3) fun J h4 => .ok (en3, J) h4)
      (fun en3 d h2 => bnd (asgn cl t1 d (wipeE en3 own1) h2) fun en4 h4 => bnd ((evt cl c).t en4 h4) fun k h5 =>
      if k = true then bnd ((evt cl e).v en4 h5) fun y h6 => .ok (some y) h6 else .ok none h5) sizeLine I h1)
  | .isis e ts => pl fun en h => bnd ((evt cl e).v en h) fun x h1 => .ok (.bl (ts.any fun t => isTyH h1 t x)) h1
  | .tupS fl es => pl fun en h => bnd (evS cl es fl en h) fun ds h1 => if ds.length ≤ sizeLine then .ok (.tup ds) h1 else .bad
  | .lstS fl es => pf fun en h => bnd (evS cl es fl en h) fun ds h1 => if ds.length ≤ sizeLine then .ok ds h1 else .bad
  | .errV i => pl fun en h => optR (getX en i) fun p => .ok p.2 h
  | .errIs i cs ds => pl fun en h => optR (getX en i) fun p => if cs.contains p.1 = true then .ok (.bl true) h else if ds.contains p.1 = true then .ok (.bl false) h else .bad
  | .emp => pl fun _ h => .ok .emp h
  | .slS a k => pl fun en h => bnd ((evt cl a).v en h) fun x h1 => bnd ((evt cl k).v en h1) fun y h2 => stOp x y h2
  | .mm b x y => pl fun en h => bnd ((evt cl x).v en h) fun x h1 => bnd ((evt cl y).v en h1) fun y h2 => mmOp b x y h2
  | .srt e => pf fun en h => bnd ((evt cl e).v en h) fun x h1 => optR ((seqOf h1 x).bind intsOf) fun is => if is.length < 64 then .ok ((sortU is).map .int) h1 else .bad
  | .dix a k => pl fun en h => bnd ((evt cl a).v en h) fun x h1 => dGet x k h1
  | .newD k1 k2 i j => pl fun en h => optR (getE en i) fun x => optR (getE en j) fun y => if k1 = k2 then .bad else .ok (.ref h.length) (h ++ [.dct [(k1, x), (k2, y)]])
  | .popR a es => pl fun en h => bnd ((evt cl a).v en h) fun x h1 => optR (cellOf x h1) fun n => bnd (evs cl es en h1) fun ds h2 => popH n ds h2
  | .newL e => pl fun en h => bnd ((evt cl e).f en h) fun ds h1 => .ok (.ref h1.length) (h1 ++ [.lst ds])
  | .lzip a b => pf fun en h => bnd ((evt cl a).v en h) fun x h1 => bnd ((evt cl b).v en h1) fun y h2 => zipL x y h2
  | .bad => pl fun _ _ => .bad
def evS (cl : Nat → List D → Hh → R D) : Exs → List Bool → En → Hh → R (List D)
  | .nil => fun _ _ h => .ok [] h
  | .cons e es => fun fl en h => match fl with
    | true :: fl => bnd ((evt cl e).v en h) fun d h1 => optR (itemsOf h1 d) fun xs => bnd (evS cl es fl en h1) fun ds h2 => .ok (xs ++ ds) h2
    | false :: fl => bnd ((evt cl e).v en h) fun d h1 => bnd (evS cl es fl en h1) fun ds h2 => .ok (d :: ds) h2
    | [] => .bad
def evs (cl : Nat → List D → Hh → R D) : Exs → En → Hh → R (List D)
  | .nil => fun _ h => .ok [] h
  | .cons e es => fun en h => bnd ((evt cl e).v en h) fun d h1 => bnd (evs cl es en h1) fun ds h2 => .ok (d :: ds) h2
def evo (cl : Nat → List D → Hh → R D) : Ox → En → Hh → R (Option Int)
  | .none => fun _ h => .ok none h
  | .some e => fun en h => bnd ((evt cl e).v en h) fun d h1 => bnd (toInt d h1) fun i h2 => .ok (some i) h2
def evi (cl : Nat → List D → Hh → R D) : Ix → En → Hh → R It
  | .seq e => fun en h => bnd ((evt cl e).v en h) seqIt
  | .rng1 a => fun en h => bnd ((evt cl a).v en h) fun x h1 => rngIt 0 x h1
  | .rng2 a b => fun en h => bnd ((evt cl a).v en h) fun x h1 => bnd ((evt cl b).v en h1) fun y h2 => bnd (toInt x h2) fun lo h3 => rngIt lo y h3
  | .rng3 es => fun en h => bnd (evs cl es en h) rngIt3
  | .enum e => fun en h => bnd ((evt cl e).v en h) enumIt
  | .zip a b => fun en h => bnd ((evt cl a).v en h) fun x h1 => bnd ((evt cl b).v en h1) fun y h2 => zipIt x y h2
  | .rev e => fun en h => bnd ((evt cl e).v en h) revIt
def asgn (cl : Nat → List D → Hh → R D) : Tg → D → En → Hh → R En
  | .name i => fun d en h => .ok (en.set i (some d)) h
  | .tup ts => fun d en h => match d with
    | .tup ds => asgns cl ts ds en h
    | x => optR (seqOf h x) fun ds => asgns cl ts ds en h
  | .sub o i => fun d en h => bnd ((evt cl o).v en h) fun x h1 => bnd ((evt cl i).v en h1) fun y h2 => bnd (setAt x y d h2) fun _ h3 => .ok en h3
  | .dsub o k => fun d en h => bnd ((evt cl o).v en h) fun x h1 => bnd (dPut x k d h1) fun _ h2 => .ok en h2
def asgns (cl : Nat → List D → Hh → R D) : Tgs → List D → En → Hh → R En
  | .nil => fun ds en h => match ds with
    | [] => .ok en h
    | _ => .bad
  | .cons t ts => fun ds en h => match ds with
    | d :: ds => bnd (asgn cl t d en h) fun en1 h1 => asgns cl ts ds en1 h1
    | [] => .bad
end
def ev (cl : Nat → List D → Hh → R D) (e : Ex) : EvD := (evt cl e).v
def test (cl : Nat → List D → Hh → R D) (e : Ex) : En → Hh → R Bool := (evt cl e).t
def evf (cl : Nat → List D → Hh → R D) (e : Ex) : En → Hh → R (List D) := (evt cl e).f
/-! ### statements -/
inductive RS where
  | nx (en : En) (h : Hh) | rt (d : D) (h : Hh) | ro (ds : List D) (h : Hh) | bk (en : En) (h : Hh) | ct (en : En) (h : Hh) | exc (c : Nat) (x : D) (en : En) (h : Hh) | bad
def bndS {α : Type} (r : R α) (en : En) (f : α → Hh → RS) : RS := match r with
  | .ok a h => f a h
  | .exc c x h => .exc c x en h
  | .bad => .bad
def thenS (r : RS) (f : En → Hh → RS) : RS := match r with
  | .nx en h => f en h
  | r => r
def whileLoop (tst : En → Hh → R Bool) (body : En → Hh → RS) : Nat → En → Hh → RS
  | 0, _, _ => .bad
  | f + 1, en, h => bndS (tst en h) en fun k h1 => if k = true then
      (match body en h1 with
        | .nx en' h' => whileLoop tst body f en' h'
        | .ct en' h' => whileLoop tst body f en' h'
        | .bk en' h' => .nx en' h'
        | r => r)
    else .nx en h1
def forL (asg : D → En → Hh → R En) (body : En → Hh → RS) : List D → En → Hh → RS
  | [], en, h => .nx en h
  | d :: ds, en, h => bndS (noExc (asg d en h)) en fun en1 h1 =>
      match body en1 h1 with
        | .nx en' h' => forL asg body ds en' h'
        | .ct en' h' => forL asg body ds en' h'
        | .bk en' h' => .nx en' h'
        | r => r
/-- over a list of the heap that may be written meanwhile -/
def forCL (k : Bool) (n : Nat) (asg : D → En → Hh → R En) (body : En → Hh → RS) : Nat → Nat → En → Hh → RS
  | 0, _, _, _ => .bad
  | f + 1, i, en, h => match lstOf h n with
    | none => .bad
    | some xs => match xs[i]? with
      | none => if i ≤ xs.length then .nx en h else .bad
      | some d => bndS (noExc (asg (if k = true then .tup [.int ((i : Nat) : Int), d] else d) en h)) en fun en1 h1 =>
        match body en1 h1 with
          | .nx en' h' => forCL k n asg body f (i + 1) en' h'
          | .ct en' h' => forCL k n asg body f (i + 1) en' h'
          | .bk en' h' => .nx en' h'
          | r => r
def forCx (k : Bool) (asg : D → En → Hh → R En) (body : En → Hh → RS) (en : En) (x : D) (h : Hh) : RS := match cellOf x h with
  | some n => forCL k n asg body (((lstOf h n).getD []).length + 1) 0 en h
  | none => .bad
def parSet : List Nat → List D → En → Option En
  | [], [], en => some en
  | i :: is, d :: ds, en => parSet is ds (en.set i (some d))
  | _, _, _ => none
def augOp : Operator → D → D → Option D
  | .Add, .int a, .int b => some (.int (a + b))
  | .Sub, .int a, .int b => some (.int (a - b))
  | _, _, _ => none
/-- behind the suite of an except clause its name is gone -/
def unS (i : Nat) : RS → RS
  | .nx en h => .nx (en.set i none) h
  | .bk en h => .bk (en.set i none) h
  | .ct en h => .ct (en.set i none) h
  | .exc _ _ _ _ => .bad
  | r => r
/-- cs: the classes that are caught, ds: the others -/
def catchS (r : RS) (cs ds : List Nat) (i : Nat) (f : En → Hh → RS) : RS := match r with
  | .exc c x en h => if cs.contains c = true then unS i (f (en.set i (some (.err c x))) h) else if ds.contains c = true then .exc c x en h else .bad
  | r => r
def exec (cl : Nat → List D → Hh → R D) : Sx → En → Hh → RS
  | .asg t e, en, h => bndS (ev cl e en h) en fun d h1 => bndS (noExc (asgn cl t d en h1)) en fun en2 h2 => .nx en2 h2
  | .par is es, en, h => bndS (evs cl es en h) en fun ds h1 => match parSet is ds en with
    | some en' => .nx en' h1
    | none => .bad
  | .aug i op e, en, h => match getE en i with
    | some x => bndS (ev cl e en h) en fun y h1 => match augOp op x y with
      | some z => .nx (en.set i (some z)) h1
      | none => .bad
    | none => .bad
  | .expr e, en, h => bndS (ev cl e en h) en fun _ h1 => .nx en h1
  | .ret e, en, h => bndS (ev cl e en h) en fun d h1 => .rt d h1
  | .retO e, en, h => bndS (evf cl e en h) en fun ds h1 => .ro ds h1
  | .retN, _, h => .rt .non h
  | .ife c a b, en, h => bndS (test cl c en h) en fun k h1 => if k = true then exec cl a en h1 else exec cl b en h1
  | .whl c b, en, h => whileLoop (test cl c) (exec cl b) turns en h
  | .for_ it t b, en, h => bndS (evi cl it en h) en fun I h1 => forL (asgn cl t) (exec cl b) I en h1
  | .forC k a t b, en, h => bndS (ev cl a en h) en (forCx k (asgn cl t) (exec cl b) en)
  | .brk, en, h => .bk en h
  | .cont, en, h => .ct en h
  | .skip, en, h => .nx en h
  | .seq a b, en, h => thenS (exec cl a en h) (exec cl b)
  | .raise c e, en, h => bndS (ev cl e en h) en fun d h1 => .exc c d en h1
  | .mut m i es, en, h => match getO en i with
    | some xs => bndS (evs cl es en h) en fun ds h1 => match mutOp m xs ds with
      | some p => .nx (en.set i (some (.own p.1))) h1
      | none => .bad
    | none => .bad
  | .popO t i es, en, h => match getO en i with
    | some xs => bndS (evs cl es en h) en fun ds h1 => match mutOp .pop xs ds with
      | some p => bndS (noExc (asgn cl t p.2 (en.set i (some (.own p.1))) h1)) en fun en2 h2 => .nx en2 h2
      | none => .bad
    | none => .bad
  | .setO i x e, en, h => bndS (ev cl e en h) en fun d h1 => match getO en i with
    | some xs => bndS (ev cl x en h1) en fun y h2 => match y with
      | .int k => (match L2.ixN xs.length k with
        | some j => .nx (en.set i (some (.own (xs.set j d)))) h2
        | none => .bad)
      | _ => .bad
    | none => .bad
  | .appP i j es, en, h => match getO en i, getO en j with
    | some xs, some ys => bndS (evs cl es en h) en fun ds h1 => match mutOp .pop ys ds with
      | some p => (match mutOp .append xs [p.2] with
        | some q => .nx ((en.set j (some (.own p.1))).set i (some (.own q.1))) h1
        | none => .bad)
      | none => .bad
    | _, _ => .bad
  | .asgB j i e, en, h => match getO en i with
    | some xs => (match ev cl e (en.set i (some (.lst xs))) h with
      | .ok d h1 => if lendOk xs i (en.set j (some d)) h1 = true then .nx (en.set j (some d)) h1 else .bad
      | _ => .bad)
    | none => .bad
  | .frz is, en, h => .nx (frzE en is) h
  | .tryS b cs ds i hb, en, h => catchS (exec cl b en h) cs ds i (exec cl hb)
  | .bad, _, _ => .bad
structure Fn where
  id : Nat
  name : Str
  own : Bool
  N : List Str
  ps : List Str
  body : Sx
def endOf : Bool → RS → R D
  | _, .nx _ h => .ok .non h
  | _, .rt d h => .ok d h
  | true, .ro ds h => .ok (.own ds) h
  | _, .exc c x _ h => .exc c x h
  | _, _ => .bad
def startE (N : List Str) (ds : List D) : En := ds.map some ++ List.replicate (N.length - ds.length) none
def fget (fs : List Fn) (i : Nat) : Option Fn := fs.find? fun f => f.id == i
def callF (fs : List Fn) : Nat → Nat → List D → Hh → R D
  | 0, _, _, _ => .bad
  | k + 1, i, ds, h => match fget fs i with
    | none => .bad
    | some f => if ds.length = f.ps.length then endOf f.own (exec (callF fs k) f.body (startE f.N ds) h) else .bad
end
end PD

set_option Elab.async false
set_option linter.all false
set_option maxRecDepth 100000
set_option maxHeartbeats 1000000
/-! zip over two sequences of any kind, enumerate over a tuple. -/
namespace PD
open PySem PySem.Spec PyProof.Rows L2
/-- a tuple (true) or a list (false) -/
def sqK (k : Bool) (K : PySem.W.Frag) (H : Hp) (a : Addr) (xs : List V) : Prop := match k with
  | true => SqT K H a xs
  | false => SqL K H a xs
def itK (k : Bool) (h : Heap) (it a : Addr) (i : Nat) : Prop := match k with
  | true => h.IsTupleIter it a i
  | false => h.IsListIter it a i
def laidK (k : Bool) (h : Heap) (a : Addr) (items : Array Value) : Prop := match k with
  | true => h.IsTuple a items
  | false => h.IsList a items
def obK (k : Bool) (a : Addr) : Obj := match k with
  | true => { cls := .type "tuple_iterator", data := .fields #[.ref a, .int 0 0] }
  | false => { cls := .type "list_iterator", data := .fields #[.ref a, .int 0 0] }
theorem drawsK {P : Program} {w : World} {A : Around} (k : Bool) (hh : A.handled = none) (it a : Addr) (hne : a ≠ it) (items : Array Value) :
    Draws P w A it [it, a] items.size (fun i v => items[i]? = some v) (fun i h => itK k h it a i ∧ laidK k h a items) := by
  cases k
  · exact Draws.list hh it a hne items
  · exact Draws.tuple hh it a hne items
theorem beginsK (k : Bool) (a : Addr) (items : Array Value) : Begins (.ref a) (obK k a) fun h => laidK k h a items := by
  cases k
  · exact begins_list a items
  · exact begins_tuple a items
section
variable {X : Cx} {pins : List (Addr × Obj)} {σ : L2.St} {H : Hp} {s : Shared} {a : Addr} {xs ys : List V} {k : Bool}
theorem invK (I : Inv X pins σ H s) (h : sqK k X.K H a xs) : ∃ its : List Value, Vals xs its ∧ laidK k s.heap a its.toArray ∧ ∃ o, s.heap.get? a = some o := by
  cases k
  · obtain ⟨its, rv, p, _⟩ := I.list h
    obtain ⟨o, ho, _⟩ := id p.isList
    exact ⟨its, rv, p.isList, o, ho⟩
  · obtain ⟨its, rv, p, _⟩ := I.tuple h
    obtain ⟨o, ho, _⟩ := id p
    exact ⟨its, rv, p, o, ho⟩
theorem injK (I : Inv X pins σ H s) (h : sqK k X.K H a xs) (h' : sqK k X.K H a ys) : xs = ys := by
  cases k
  · exact I.list_inj h h'
  · exact I.tuple_inj h h'
end
theorem itK_obj {k : Bool} {h : Heap} {it a : Addr} {i : Nat} (x : itK k h it a i) : ∃ o, h.get? it = some o ∧ ∀ v, o.data ≠ .cell v := by
  cases k
  · obtain ⟨o, e, _, d⟩ := x
    exact ⟨o, e, fun v q => by rw [d] at q; cases q⟩
  · obtain ⟨o, e, _, d⟩ := x
    exact ⟨o, e, fun v q => by rw [d] at q; cases q⟩
theorem itK_at {k : Bool} {h h' : Heap} {it a : Addr} {i : Nat} (x : itK k h it a i) (kk : ∀ o, h.get? it = some o → h'.get? it = some o) : itK k h' it a i := by
  cases k
  · exact Heap.IsListIter.at x kk
  · exact Heap.IsTupleIter.at x kk
theorem obK_it {k : Bool} {h : Heap} {it a : Addr} (e : h.get? it = some (obK k a)) : itK k h it a 0 := by
  cases k
  · exact ⟨_, e, rfl, rfl⟩
  · exact ⟨_, e, rfl, rfl⟩
def Itz2 (k1 k2 : Bool) (K : PySem.W.Frag) (a b : Addr) : L2.It :=
  ⟨fun i H => ∃ (us vs : List V) (x y : V), sqK k1 K H a us ∧ sqK k2 K H b vs ∧ us[i]? = some x ∧ vs[i]? = some y,
   fun i H v H' => ∃ T x y, v = .ref T ∧ H T = none ∧ H' = upd H T (.tup [x, y]) ∧ (∀ us, sqK k1 K H a us → us[i]? = some x) ∧ ∀ vs, sqK k2 K H b vs → vs[i]? = some y,
   fun i H => ∃ us vs : List V, sqK k1 K H a us ∧ sqK k2 K H b vs ∧ i ≤ us.length ∧ i ≤ vs.length ∧ (i = us.length ∨ i = vs.length)⟩
theorem sep_of {z TI TO i1 i2 a b : Addr} (D : ZipApart z TI TO i1 i2 a b) (h1 : b ≠ i1) (h2 : a ≠ i2) : ZipSep2 z TI TO i1 i2 [i1, a] [i2, b] := by
  refine ⟨D.TIz, D.TOz, D.TITO, D.TIi1, by simp, ?_, ?_, D.TIi2, by simp, ?_, ?_, ?_, ?_⟩
  all_goals simp only [List.mem_cons, List.mem_nil_iff, List.not_mem_nil, or_false, not_or]
  · exact ⟨D.i1z.symm, D.l1z.symm⟩
  · exact ⟨D.TOi1, D.l1TO.symm⟩
  · exact ⟨D.i2z.symm, D.l2z.symm⟩
  · exact ⟨D.TOi2, D.l2TO.symm⟩
  · exact ⟨D.i12, h1.symm⟩
  · exact ⟨D.i12.symm, h2.symm⟩
theorem turn_zip2 {P : Program} {w : World} {K : PySem.W.Frag} {elts : List Expr} {kk : Nat} {tpos : Pos} {k1 k2 : Bool} {a b z TI TO i1 i2 : Addr} (D : ZipApart z TI TO i1 i2 a b) (hb1 : b ≠ i1) (ha2 : a ≠ i2) :
    Turn P w K (.Tuple elts kk tpos) (Itz2 k1 k2 K a b) [z, TI, TO, i1, i2] z (fun i h => IsZip h z TI TO .none ∧ IsTupOf2 h TI (.ref i1) (.ref i2) ∧ (∃ x y, IsTupOf2 h TO x y) ∧ itK k1 h i1 a i ∧ itK k2 h i2 b i) where
  mem := by simp
  obj := fun i h st c hc => by
    obtain ⟨hz, hTI, ⟨x, y, hTO⟩, w1, w2⟩ := st
    simp only [List.mem_cons, List.not_mem_nil, or_false] at hc
    rcases hc with rfl | rfl | rfl | rfl | rfl
    · exact ⟨_, hz, fun v q => nomatch q⟩
    · exact ⟨_, hTI, fun v q => nomatch q⟩
    · exact ⟨_, hTO, fun v q => nomatch q⟩
    · exact itK_obj w1
    · exact itK_obj w2
  keep := fun i h h' st kp => by
    obtain ⟨hz, hTI, ⟨x, y, hTO⟩, w1, w2⟩ := st
    exact ⟨kp z (by simp) _ hz, kp TI (by simp) _ hTI, ⟨x, y, kp TO (by simp) _ hTO⟩, itK_at w1 fun o q => kp i1 (by simp) o q, itK_at w2 fun o q => kp i2 (by simp) o q⟩
  item := fun X hP hw hK hc i pins s σ H E I hf st hg => by
    subst hP hw hK
    obtain ⟨hz, hTI, ⟨x0, y0, hTO⟩, w1, w2⟩ := st
    obtain ⟨us, vs, x, y, hqx, hqy, hx, hy⟩ := hg
    obtain ⟨its, rv, p1, o1, ho1⟩ := invK I hqx
    obtain ⟨its2, rv2, p2, o2, ho2⟩ := invK I hqy
    obtain ⟨u, hu, ru⟩ := rv.get hx
    obtain ⟨u2, hu2, ru2⟩ := rv2.get hy
    have hzl : z < s.heap.objs.size := Heap.lt_size hz
    have hh : X.A.in1.handled = none := I.ok.hd hc
    refine wpAny_pyNext_zipD2_item (sep_of D hb1 ha2) (drawsK k1 hh i1 a D.l1i1 its.toArray) (drawsK k2 hh i2 b D.l2i2 its2.toArray) hz hTI hTO ⟨w1, p1⟩ ⟨w2, p2⟩ (by simpa using (List.getElem?_eq_some_iff.mp hu).1) (by simpa using (List.getElem?_eq_some_iff.mp hu2).1) fun x1 x2 h' tk e1 e2 z' TO' h1' h2' hT hsz hk => ?_
    have e1' : x1 = u := by
      rw [List.getElem?_toArray, hu] at e1
      exact (Option.some.inj e1).symm
    have e2' : x2 = u2 := by
      rw [List.getElem?_toArray, hu2] at e2
      exact (Option.some.inj e2).symm
    subst e1' e2'
    refine ⟨_, rfl, wpAny_letOwnedTupleGo_zip (s := { s with heap := h', toks := tk }) z' fun h'' z'' sb => ?_⟩
    have gT : h''.get? s.heap.objs.size = some { cls := .type "tuple", data := .seq #[x1, x2] } := (sb.2 _ (Nat.ne_of_gt hzl)).trans hT
    have made : ObjOk X.prog X.w (upd H s.heap.objs.size (.tup [x, y])) h'' s.heap.objs.size (.tup [x, y]) := ⟨by show 2 ≤ sizeLine; decide, [x1, x2], .cons ru (.cons ru2 .nil), ⟨_, gT, rfl, _, rfl⟩⟩
    have I1 : Inv X pins σ (upd H s.heap.objs.size (.tup [x, y])) { s with heap := h'', toks := tk } :=
      I.turnedNew (t' := tk) (ch := [z, TI, TO, i1, i2]) (fun c o hb q => (sb.2 c fun q' => hb (by simp [q'])).trans (hk c o (fun q' => hb (by simp [q'])) (fun q' => hb (by simp [q'])) (fun q' => hb (by simp [q'])) (fun q' => hb (by simp [q'])) q)) hf (Nat.le_refl _) made
    refine ⟨.ref s.heap.objs.size, _, I1, rfl, ⟨_, x, y, rfl, I.hok.fresh (Nat.le_refl _), rfl, fun l hl => by rw [injK I hl hqx]; exact hx, fun l hl => by rw [injK I hl hqy]; exact hy⟩, ⟨z'', ?_, ⟨x1, x2, ?_⟩, ?_, ?_⟩, fun c hcm => ?_⟩
    · exact (sb.2 _ D.TIz).trans (hk _ _ D.TIz D.TITO D.TIi1 D.TIi2 hTI)
    · exact (sb.2 _ D.TOz).trans TO'
    · exact itK_at h1'.1 fun o q => (sb.2 _ D.i1z).trans q
    · exact itK_at h2'.1 fun o q => (sb.2 _ D.i2z).trans q
    · have hlt : c < s.heap.objs.size := by
        simp only [List.mem_cons, List.not_mem_nil, or_false] at hcm
        rcases hcm with rfl | rfl | rfl | rfl | rfl
        · exact hzl
        · exact Heap.lt_size hTI
        · exact Heap.lt_size hTO
        · exact let ⟨_, g, _⟩ := itK_obj w1; Heap.lt_size g
        · exact let ⟨_, g, _⟩ := itK_obj w2; Heap.lt_size g
      rw [upd_ne (Nat.ne_of_lt hlt)]
      exact (hf c hcm).1
  done := fun X hP hw hK hc i pins s σ H E I hf st hg => by
    subst hP hw hK
    obtain ⟨hz, hTI, ⟨x0, y0, hTO⟩, w1, w2⟩ := st
    obtain ⟨us, vs, hqx, hqy, c1, c2, c3⟩ := hg
    obtain ⟨its, rv, p1, o1, ho1⟩ := invK I hqx
    obtain ⟨its2, rv2, p2, o2, ho2⟩ := invK I hqy
    have l1 := rv.length
    have l2 := rv2.length
    have hh : X.A.in1.handled = none := I.ok.hd hc
    refine wpAny_pyNext_zipD2_end (i := i) (sep_of D hb1 ha2) (drawsK k1 hh i1 a D.l1i1 its.toArray) (drawsK k2 hh i2 b D.l2i2 its2.toArray) hz hTI hTO ⟨w1, p1⟩ ⟨w2, p2⟩ (by simp; omega) (by simp; omega) (by simp; omega) fun h' tk hk => ⟨rfl, I.turnedL (t' := tk) (ch := [z, TI, TO, i1, i2]) (fun c o hb q =>
      hk c o (fun q' => hb (by simp [q'])) (fun q' => hb (by simp [q'])) (fun q' => hb (by simp [q'])) (fun q' => hb (by simp [q'])) q) hf⟩
  self := fun A i s Q E st h => wpAny_pyIter_zip st.1 h
def iZip2 (K : PySem.W.Frag) (ta : TA) : TI := fun σ H R => ta σ H fun vs H1 => ∃ k1 k2 a b us ws, vs = [.ref a, .ref b] ∧ sqK k1 K H1 a us ∧ sqK k2 K H1 b ws ∧ R (Itz2 k1 k2 K a b) H1
theorem pi_zip2 {X : Cx} {e e2 : Expr} {ta : TA} {p pos tpos : Pos} {elts : List Expr} {kk : Nat} (hg : Gl X "zip") (hm : X.mg "zip" = none) (ha : PA X [e, e2] ta)
    (hs : starEach [e, e2] X.env = (false, eval e X.env) :: starEach [e2] X.env) (hpl : (backTo pos (starEach [e2] X.env)).any (·.1) = false) :
    PI X (.Tuple elts kk tpos) (.Call (.Name "zip" p) [e, e2] [] pos) (iZip2 X.K ta) := ⟨fun pins s σ H R I h => by
  refine Call_ (ld_blt I hg hm PyProof.Rows.boot_zip (PyProof.Rows.callWith_type1 (thn (ha.run pos pins s σ H _ I h) fun us s1 ⟨vs, H1, I1, r1, q1⟩ => ?_) hs hpl))
  obtain ⟨k1, k2, a, b, xs, ys, rfl, hqx, hqy, q⟩ := q1
  obtain ⟨u1, u2, rfl, r1, r2⟩ := r1.two
  cases r1
  cases r2
  obtain ⟨its, rv, p1, o1, ho1⟩ := invK I1 hqx
  obtain ⟨its2, rv2, p2, o2, ho2⟩ := invK I1 hqy
  have la := Heap.lt_size ho1
  have lb := Heap.lt_size ho2
  refine zip_begins2 (beginsK k1 a its.toArray) (beginsK k2 b its2.toArray) p1 p2 fun h' hz hTI hTO g1 g2 hsz hk => wpAny_pyIter_zip hz ?_
  refine ⟨s1.heap.objs.size + 4, [s1.heap.objs.size + 4, s1.heap.objs.size + 2, s1.heap.objs.size + 3, s1.heap.objs.size, s1.heap.objs.size + 1], _, _, H1, rfl, I1.kept (t' := s1.toks) hk, turn_zip2 (PySem.W.ktu_apart s1.heap.objs.size a b la lb) (Nat.ne_of_lt lb) (Nat.ne_of_lt (Nat.lt_succ_of_lt la)), ⟨hz, hTI, ⟨_, _, hTO⟩, obK_it g1, obK_it g2⟩, fun c hcm => ?_, q⟩
  have hle : s1.heap.objs.size ≤ c := by
    simp only [List.mem_cons, List.not_mem_nil, or_false] at hcm
    rcases hcm with rfl | rfl | rfl | rfl | rfl <;> first | exact Nat.le_add_right _ _ | exact Nat.le_refl _
  exact I1.fpOk hle (I1.hok.fresh hle)⟩
end PD

set_option Elab.async false
set_option linter.all false
set_option maxRecDepth 100000
set_option maxHeartbeats 1000000
/-! enumerate over a tuple or a list. -/
namespace PD
open PySem PySem.Spec PyProof.Rows L2
theorem meets_enum1 {v : Value} {o : Obj} {H : Heap → Prop} (B : Begins v o H) :
    Meets (Builtin.«enumerate.__new__» ⟨[.type "enumerate", v], []⟩) (fun _ R s => H s.heap ∧ R (.ok (.ret (.ref (s.heap.push o).objs.size)))
      { s with heap := (s.heap.push o).push { cls := .type "enumerate", data := .fields #[.none, .bool false, .ref s.heap.objs.size, rawInt 0, .none, .none] } }) := .of_wp fun prog w A R s ⟨z1, z2⟩ => by
  obtain ⟨hp, gn, dd, tk, os⟩ := s
  have hsub := sub_enumerate
  have it : ∀ {A' : Around} {E : Value → Shared → Prop} {Q : Value → Shared → Prop}, Q (.ref hp.objs.size) ⟨hp.push o, gn, dd, tk, os⟩ → wpAny (model prog w) A' (pyIter v) Q E ⟨hp, gn, dd, tk, os⟩ := fun q => B.iter prog w _ _ ⟨hp, gn, dd, tk, os⟩ _ z1 q
  wp_walk using it
  refine wpAny_stack_any fun st => wpAny_pure ?_
  split
  · rename_i c _ _ _ _ _
    cases (c == Value.type "enumerate") <;> (wp_walk using it; exact ⟨_, rfl, z2⟩)
  · wp_walk using it
    exact ⟨_, rfl, z2⟩
theorem call_enum1 {prog : Program} {w : World} {A : Around} {E : Value → Shared → Prop} {s : Shared} {v : Value} {o : Obj} {H : Heap → Prop} {Q : Value → Shared → Prop} (B : Begins v o H) (h1 : H s.heap)
    (z : ∀ h', IsEnum h' (s.heap.objs.size + 1) s.heap.objs.size 0 .none → h'.get? s.heap.objs.size = some o → (∀ b o, s.heap.get? b = some o → h'.get? b = some o) → Q (.ref (s.heap.objs.size + 1)) { s with heap := h' }) :
    wpAny (model prog w) A (call (.type "enumerate") [v]) Q E s := by
  refine callType_new F.called_enumerate (by decide) (F.typeCall_enumerate_1 _) (F.newCall_enumerate_1 _) (fun obj => F.args_object_init_2 obj _) F.entry_enumerate_new (meets_enum1 B) ⟨h1, ?_⟩
  have n1 : (s.heap.push o).objs.size = s.heap.objs.size + 1 := Heap.size_push ..
  have en := Heap.get?_push_size (s.heap.push o) (o := { cls := .type "enumerate", data := .fields #[.none, .bool false, .ref s.heap.objs.size, rawInt 0, .none, .none] }) rfl
  rw [n1] at en ⊢
  exact ⟨⟨_, en, rfl⟩, z _ en (Heap.get?_push_of_some _ (Heap.get?_push_size _ B.free)) fun b o q => Heap.get?_push_of_some _ (Heap.get?_push_of_some _ q)⟩
def IteK (k : Bool) (K : PySem.W.Frag) (a : Addr) : L2.It :=
  ⟨fun i H => ∃ (us : List V) (x : V), sqK k K H a us ∧ us[i]? = some x, fun i H v H' => ∃ T x, v = .ref T ∧ H T = none ∧ H' = upd H T (.tup [.int (i : Nat), x]) ∧ ∀ us, sqK k K H a us → us[i]? = some x, fun i H => ∃ us : List V, sqK k K H a us ∧ us.length = i⟩
theorem turn_enumK {P : Program} {w : World} {K : PySem.W.Frag} {elts : List Expr} {kk : Nat} {tpos : Pos} {k : Bool} {a e it : Addr} (hae : a ≠ e) (hai : a ≠ it) (hne : e ≠ it) :
    Turn P w K (.Tuple elts kk tpos) (IteK k K a) [e, it] e (fun i h => (∃ old, IsEnum h e it ((i : Nat) : Int) old) ∧ itK k h it a i) where
  mem := by simp
  obj := fun i h ⟨⟨old, he⟩, w1⟩ c hc => by
    simp only [List.mem_cons, List.not_mem_nil, or_false] at hc
    rcases hc with rfl | rfl
    · exact ⟨_, he, fun v q => nomatch q⟩
    · exact itK_obj w1
  keep := fun i h h' ⟨⟨old, he⟩, w1⟩ kp => ⟨⟨old, kp e (by simp) _ he⟩, itK_at w1 fun o q => kp it (by simp) o q⟩
  item := fun X hP hw hK hc i pins s σ H E I hf ⟨⟨old, he⟩, w1⟩ ⟨us, x, hqx, hx⟩ => by
    subst hP hw hK
    obtain ⟨its, rv, p1, o1, ho1⟩ := invK I hqx
    obtain ⟨u, hu, ru⟩ := rv.get hx
    have hel : e < s.heap.objs.size := Heap.lt_size he
    have hil : it < s.heap.objs.size := let ⟨_, g, _⟩ := itK_obj w1; Heap.lt_size g
    have hh : X.A.in1.handled = none := I.ok.hd hc
    refine wpAny_pyNext_enum_itemD (drawsK k hh it a hai its.toArray) he ⟨w1, p1⟩ (by simpa using (List.getElem?_eq_some_iff.mp hu).1) hne (by simp [hne, Ne.symm hae]) fun x1 h' tk e1 ho w2 hT hsz hk => ?_
    have e1' : x1 = u := by
      rw [List.getElem?_toArray, hu] at e1
      exact (Option.some.inj e1).symm
    subst e1'
    refine ⟨_, rfl, wpAny_letOwnedTupleGo_enum (s := { s with heap := h', toks := tk + 1 }) ho fun h'' he' sb => ?_⟩
    have gT : h''.get? s.heap.objs.size = some { cls := .type "tuple", data := .seq #[.int i tk, x1] } := (sb.2 _ (Nat.ne_of_gt hel)).trans hT
    have made : ObjOk X.prog X.w (upd H s.heap.objs.size (.tup [.int (i : Nat), x])) h'' s.heap.objs.size (.tup [.int (i : Nat), x]) := ⟨by show 2 ≤ sizeLine; decide, [.int i tk, x1], .cons ⟨_, rfl⟩ (.cons ru .nil), ⟨_, gT, rfl, _, rfl⟩⟩
    have I1 : Inv X pins σ (upd H s.heap.objs.size (.tup [.int (i : Nat), x])) { s with heap := h'', toks := tk + 1 } :=
      I.turnedNew (t' := tk + 1) (ch := [e, it]) (fun c o hb q => (sb.2 c fun q' => hb (by simp [q'])).trans (hk c o (fun q' => hb (by simp [q'])) (fun q' => hb (by simp [q'])) q)) hf (Nat.le_refl _) made
    refine ⟨.ref s.heap.objs.size, _, I1, rfl, ⟨_, x, rfl, I.hok.fresh (Nat.le_refl _), rfl, fun l hl => by rw [injK I hl hqx]; exact hx⟩, ⟨⟨x1, ?_⟩, itK_at w2.1 fun o q => (sb.2 it (Ne.symm hne)).trans q⟩, fun c hcm => ?_⟩
    · have e2 : ((i + 1 : Nat) : Int) = (i : Int) + 1 := by omega
      rw [e2]; exact he'
    · have hlt : c < s.heap.objs.size := by
        simp only [List.mem_cons, List.not_mem_nil, or_false] at hcm
        rcases hcm with rfl | rfl
        · exact hel
        · exact hil
      rw [upd_ne (Nat.ne_of_lt hlt)]
      exact (hf c hcm).1
  done := fun X hP hw hK hc i pins s σ H E I hf ⟨⟨old, he⟩, w1⟩ ⟨us, hqx, hx⟩ => by
    subst hP hw hK
    obtain ⟨its, rv, p1, o1, ho1⟩ := invK I hqx
    have l1 := rv.length
    have hh : X.A.in1.handled = none := I.ok.hd hc
    have z : its.toArray.size = i := by simp; omega
    obtain ⟨f0, f1, f2, f3, f4, f5⟩ := hf it (by simp)
    exact wpAny_pyNext_enum_endD (drawsK k hh it a hai its.toArray) he ⟨by rw [z]; exact w1, p1⟩ fun h' eb => ⟨rfl, I.turned (t' := s.toks) (fun b o hb q => eb b o hb q) f0 f1 f3 f4 f5⟩
  self := fun A i s Q E ⟨⟨_, he⟩, _⟩ h => wpAny_pyIter_enum he h
def iEnumK (K : PySem.W.Frag) (ta : TA) : TI := fun σ H R => ta σ H fun vs H1 => ∃ k a us, vs = [.ref a] ∧ sqK k K H1 a us ∧ R (IteK k K a) H1
theorem pi_enumK {X : Cx} {e : Expr} {ta : TA} {p pos tpos : Pos} {elts : List Expr} {kk : Nat} (hg : Gl X "enumerate") (hm : X.mg "enumerate" = none) (ha : PA X [e] ta) (hs : starEach [e] X.env = [(false, eval e X.env)]) :
    PI X (.Tuple elts kk tpos) (.Call (.Name "enumerate" p) [e] [] pos) (iEnumK X.K ta) := ⟨fun pins s σ H R I h => by
  refine Call_ (ld_blt I hg hm boot_enumerate (PyProof.Rows.callWith_type1 (thn (ha.run pos pins s σ H _ I h) fun us s1 ⟨vs, H1, I1, r1, q1⟩ => ?_) hs rfl))
  obtain ⟨k, a, xs, rfl, hqx, q⟩ := q1
  obtain ⟨u, rfl, ru⟩ := vals1 r1
  cases ru
  obtain ⟨its, rv, p1, o1, ho1⟩ := invK I1 hqx
  have la := Heap.lt_size ho1
  refine call_enum1 (beginsK k a its.toArray) p1 fun h' he g1 hk => wpAny_pyIter_enum he ?_
  refine ⟨s1.heap.objs.size + 1, [s1.heap.objs.size + 1, s1.heap.objs.size], _, _, H1, rfl, I1.kept (t' := s1.toks) hk, turn_enumK (Nat.ne_of_lt (Nat.lt_succ_of_lt la)) (Nat.ne_of_lt la) (Nat.succ_ne_self _), ⟨⟨.none, he⟩, obK_it g1⟩, fun c hcm => ?_, q⟩
  have hle : s1.heap.objs.size ≤ c := by
    simp only [List.mem_cons, List.not_mem_nil, or_false] at hcm
    rcases hcm with rfl | rfl <;> first | exact Nat.le_add_right _ _ | exact Nat.le_refl _
  exact I1.fpOk hle (I1.hok.fresh hle)⟩
end PD

set_option Elab.async false
set_option linter.all false
set_option maxRecDepth 100000
/-! How plain data lie in the layer's heap. -/
namespace PD
open PySem PySem.Spec PyProof.Rows L2

/-- xs: the exception that the suite holds: where it lies, its class, its dict, its slot -/
structure Wd where
  K : PySem.W.Frag
  ca : Nat → Addr
  xs : Option (Addr × Nat × Addr × Nat)
/-- addresses: c the cells of our heap; o lists that this def still writes; b those of the defs that wait -/
structure Al where
  c : List Addr
  o : List Addr
  b : List Addr

/-- a list that nobody writes: the script -/
def RoL (K : PySem.W.Frag) (H : Hp) (a : Addr) (xs : List V) : Prop :=
  (∃ o, H a = some (.frz o (.lst xs))) ∨
    ∃ (o : Obj) (its : Array Value) (n : Nat), K.lookup a = some o ∧ o.cls = .type "list" ∧ o.dict = none ∧ o.data = .seq its n ∧ its.size ≤ sizeLine ∧ Vals xs its.toList
theorem RoL.sq {K : PySem.W.Frag} {H : Hp} {a : Addr} {xs : List V} (h : RoL K H a xs) : SqL K H a xs := by
  rcases h with h | h
  · exact .inl (.inr h)
  · exact .inr h
mutual
inductive Rep (K : PySem.W.Frag) (α : Al) (H : Hp) : D → V → Prop
  | non : Rep K α H .non .non
  | bl (b : Bool) : Rep K α H (.bl b) (.bl b)
  | int (i : Int) : Rep K α H (.int i) (.int i)
  | str (x : Str) : Rep K α H (.str x) (.str x)
  | tup {a : Addr} {vs : List V} {ds : List D} : SqT K H a vs → Reps K α H ds vs → Rep K α H (.tup ds) (.ref a)
  | lst {a : Addr} {vs : List V} {ds : List D} : H a = some (.lst vs) → a ∉ α.c → a ∉ α.o → a ∉ α.b → Reps K α H ds vs → Rep K α H (.lst ds) (.ref a)
  | ref {n : Nat} {a : Addr} : α.c[n]? = some a → Rep K α H (.ref n) (.ref a)
  | scr {ns : List Int} {a : Addr} : RoL K H a (ns.map V.int) → Rep K α H (.scr ns) (.ref a)
  | emp {a : Addr} : H a = some (.dK []) → a ∉ α.c → a ∉ α.o → a ∉ α.b → Rep K α H .emp (.ref a)
inductive Reps (K : PySem.W.Frag) (α : Al) (H : Hp) : List D → List V → Prop
  | nil : Reps K α H [] []
  | cons {d : D} {ds : List D} {v : V} {vs : List V} : Rep K α H d v → Reps K α H ds vs → Reps K α H (d :: ds) (v :: vs)
end

/-- what lies as data stays so -/
structure Ext (K : PySem.W.Frag) (α : Al) (H : Hp) (α' : Al) (H' : Hp) : Prop where
  pre : ∃ β, α'.c = α.c ++ β
  tup : ∀ a xs, SqT K H a xs → SqT K H' a xs
  ro : ∀ a xs, RoL K H a xs → RoL K H' a xs
  fz : ∀ a xs, H a = some xs → a ∉ α.c → a ∉ α.o → a ∉ α.b → H' a = some xs ∧ a ∉ α'.c ∧ a ∉ α'.o ∧ a ∉ α'.b
/-- an evaluation: all but the cells stays -/
structure Step (K : PySem.W.Frag) (α : Al) (H : Hp) (α' : Al) (H' : Hp) : Prop extends Ext K α H α' H' where
  ho : α'.o = α.o
  hb : α'.b = α.b
  new : ∀ a, a ∈ α'.c → a ∈ α.c ∨ H a = none
  frm : ∀ a o, a ∉ α.c → H a = some o → H' a = some o
/-- a statement: all but the cells and the def's own lists stays -/
structure Stp (K : PySem.W.Frag) (α : Al) (H : Hp) (α' : Al) (H' : Hp) : Prop extends Ext K α H α' H' where
  hb : α'.b = α.b
  new : ∀ a, a ∈ α'.c ∨ a ∈ α'.o → (a ∈ α.c ∨ a ∈ α.o) ∨ H a = none
  frm : ∀ a o, a ∉ α.c → a ∉ α.o → H a = some o → H' a = some o
/-- an evaluation that ends in a new list at q -/
structure StepF (K : PySem.W.Frag) (α : Al) (H : Hp) (α' : Al) (H' : Hp) (q : Addr) : Prop extends Ext K α H α' H' where
  ho : α'.o = q :: α.o
  hb : α'.b = α.b
  q0 : H q = none
  new : ∀ a, a ∈ α'.c → a ∈ α.c ∨ H a = none
  frm : ∀ a o, a ∉ α.c → H a = some o → H' a = some o
theorem Step.of {K : PySem.W.Frag} {α α' : Al} {H H' : Hp} (pre : ∃ β, α'.c = α.c ++ β) (tup : ∀ a xs, SqT K H a xs → SqT K H' a xs) (ro : ∀ a xs, RoL K H a xs → RoL K H' a xs) (ho : α'.o = α.o) (hb : α'.b = α.b)
    (new : ∀ a, a ∈ α'.c → a ∈ α.c ∨ H a = none) (frm : ∀ a o, a ∉ α.c → H a = some o → H' a = some o) : Step K α H α' H' :=
  ⟨⟨pre, tup, ro, fun a xs e h1 h2 h3 => ⟨frm a _ h1 e, fun z => (new a z).elim h1 fun q => (by rw [e] at q; cases q), (by rw [ho]; exact h2), (by rw [hb]; exact h3)⟩⟩, ho, hb, new, frm⟩
theorem Stp.of {K : PySem.W.Frag} {α α' : Al} {H H' : Hp} (pre : ∃ β, α'.c = α.c ++ β) (tup : ∀ a xs, SqT K H a xs → SqT K H' a xs) (ro : ∀ a xs, RoL K H a xs → RoL K H' a xs) (hb : α'.b = α.b)
    (new : ∀ a, a ∈ α'.c ∨ a ∈ α'.o → (a ∈ α.c ∨ a ∈ α.o) ∨ H a = none) (frm : ∀ a o, a ∉ α.c → a ∉ α.o → H a = some o → H' a = some o) : Stp K α H α' H' :=
  ⟨⟨pre, tup, ro, fun a xs e h1 h2 h3 => ⟨frm a _ h1 h2 e, fun z => (new a (.inl z)).elim (fun q => q.elim h1 h2) fun q => (by rw [e] at q; cases q), fun z => (new a (.inr z)).elim (fun q => q.elim h1 h2) fun q => (by rw [e] at q; cases q), (by rw [hb]; exact h3)⟩⟩, hb, new, frm⟩
theorem StepF.of {K : PySem.W.Frag} {α α' : Al} {H H' : Hp} {q : Addr} (pre : ∃ β, α'.c = α.c ++ β) (tup : ∀ a xs, SqT K H a xs → SqT K H' a xs) (ro : ∀ a xs, RoL K H a xs → RoL K H' a xs) (ho : α'.o = q :: α.o) (hb : α'.b = α.b) (q0 : H q = none)
    (new : ∀ a, a ∈ α'.c → a ∈ α.c ∨ H a = none) (frm : ∀ a o, a ∉ α.c → H a = some o → H' a = some o) : StepF K α H α' H' q :=
  ⟨⟨pre, tup, ro, fun a xs e h1 h2 h3 => ⟨frm a _ h1 e, fun z => (new a z).elim h1 fun z => (by rw [e] at z; cases z), by
    rw [ho]
    intro z
    rcases List.mem_cons.mp z with rfl | z
    · rw [q0] at e; cases e
    · exact h2 z, by rw [hb]; exact h3⟩⟩, ho, hb, q0, new, frm⟩
theorem Step.refl {K : PySem.W.Frag} {α : Al} {H : Hp} : Step K α H α H := .of ⟨[], by simp⟩ (fun _ _ h => h) (fun _ _ h => h) rfl rfl (fun _ h => .inl h) fun _ _ _ h => h
theorem Stp.refl {K : PySem.W.Frag} {α : Al} {H : Hp} : Stp K α H α H := .of ⟨[], by simp⟩ (fun _ _ h => h) (fun _ _ h => h) rfl (fun _ h => .inl h) fun _ _ _ _ h => h
theorem Ext.refl {K : PySem.W.Frag} {α : Al} {H : Hp} : Ext K α H α H := Step.refl.toExt
theorem Ext.trans {K : PySem.W.Frag} {α α1 α2 : Al} {H H1 H2 : Hp} (a : Ext K α H α1 H1) (b : Ext K α1 H1 α2 H2) : Ext K α H α2 H2 := by
  refine ⟨?_, fun x xs h => b.tup _ _ (a.tup _ _ h), fun x xs h => b.ro _ _ (a.ro _ _ h), fun x xs e h1 h2 h3 => ?_⟩
  · obtain ⟨β, e⟩ := a.pre
    obtain ⟨γ, e'⟩ := b.pre
    exact ⟨β ++ γ, by rw [e', e, List.append_assoc]⟩
  · obtain ⟨e1, g1, g2, g3⟩ := a.fz x xs e h1 h2 h3
    exact b.fz x xs e1 g1 g2 g3
theorem Step.trans {K : PySem.W.Frag} {α α1 α2 : Al} {H H1 H2 : Hp} (a : Step K α H α1 H1) (b : Step K α1 H1 α2 H2) : Step K α H α2 H2 := by
  refine ⟨a.toExt.trans b.toExt, b.ho.trans a.ho, b.hb.trans a.hb, fun x hx => ?_, fun x o hx e => ?_⟩
  · rcases b.new x hx with h | h
    · exact a.new x h
    · by_cases hm : x ∈ α.c
      · exact .inl hm
      · cases q : H x with
        | none => exact .inr rfl
        | some o =>
          rw [a.frm x o hm q] at h
          cases h
  · refine b.frm x o (fun hm => ?_) (a.frm x o hx e)
    rcases a.new x hm with h | h
    · exact hx h
    · rw [h] at e; cases e
theorem Stp.trans {K : PySem.W.Frag} {α α1 α2 : Al} {H H1 H2 : Hp} (a : Stp K α H α1 H1) (b : Stp K α1 H1 α2 H2) : Stp K α H α2 H2 := by
  refine ⟨a.toExt.trans b.toExt, b.hb.trans a.hb, fun x hx => ?_, fun x o hx hx2 e => ?_⟩
  · rcases b.new x hx with h | h
    · exact a.new x h
    · by_cases hm : x ∈ α.c ∨ x ∈ α.o
      · exact .inl hm
      · cases q : H x with
        | none => exact .inr rfl
        | some o =>
          rw [a.frm x o (fun z => hm (.inl z)) (fun z => hm (.inr z)) q] at h
          cases h
  · have key : ¬ (x ∈ α1.c ∨ x ∈ α1.o) := fun hm => by
      rcases a.new x hm with h | h
      · exact h.elim hx hx2
      · rw [h] at e; cases e
    exact b.frm x o (fun z => key (.inl z)) (fun z => key (.inr z)) (a.frm x o hx hx2 e)
theorem Step.stp {K : PySem.W.Frag} {α α1 : Al} {H H1 : Hp} (a : Step K α H α1 H1) : Stp K α H α1 H1 :=
  ⟨a.toExt, a.hb, fun x hx => hx.elim (fun z => (a.new x z).imp .inl id) fun z => .inl (.inr (by rw [← a.ho]; exact z)), fun x o h _ e => a.frm x o h e⟩
theorem StepF.stp {K : PySem.W.Frag} {α α1 : Al} {H H1 : Hp} {q : Addr} (a : StepF K α H α1 H1 q) : Stp K α H α1 H1 := by
  refine ⟨a.toExt, a.hb, fun x hx => ?_, fun x o h _ e => a.frm x o h e⟩
  rcases hx with z | z
  · exact (a.new x z).imp .inl id
  · rw [a.ho] at z
    rcases List.mem_cons.mp z with rfl | z
    · exact .inr a.q0
    · exact .inl (.inr z)
theorem Step.thenF {K : PySem.W.Frag} {α α1 α2 : Al} {H H1 H2 : Hp} {q : Addr} (a : Step K α H α1 H1) (b : StepF K α1 H1 α2 H2 q) (h : q ∉ α.c) : StepF K α H α2 H2 q := by
  have q0 : H q = none := by
    cases e : H q with
    | none => rfl
    | some o =>
      have := a.frm q o h e
      rw [b.q0] at this
      cases this
  refine ⟨a.toExt.trans b.toExt, by rw [b.ho, a.ho], b.hb.trans a.hb, q0, fun x hx => ?_, fun x o hx e => ?_⟩
  · rcases b.new x hx with h | h
    · exact a.new x h
    · by_cases hm : x ∈ α.c
      · exact .inl hm
      · cases q : H x with
        | none => exact .inr rfl
        | some o =>
          rw [a.frm x o hm q] at h
          cases h
  · refine b.frm x o (fun hm => ?_) (a.frm x o hx e)
    rcases a.new x hm with h | h
    · exact hx h
    · rw [h] at e; cases e
theorem Ext.at {K : PySem.W.Frag} {α α1 : Al} {H H1 : Hp} (a : Ext K α H α1 H1) {n : Nat} {x : Addr} (h : α.c[n]? = some x) : α1.c[n]? = some x := by
  obtain ⟨β, e⟩ := a.pre
  have hn : n < α.c.length := (List.getElem?_eq_some_iff.mp h).1
  rw [e, List.getElem?_append_left hn]
  exact h
/-- fewer are set apart -/
theorem Ext.sub {K : PySem.W.Frag} {α α1 : Al} {H : Hp} (hc : α1.c = α.c) (hs : ∀ a, a ∈ α1.o ∨ a ∈ α1.b → a ∈ α.o ∨ a ∈ α.b) : Ext K α H α1 H :=
  ⟨⟨[], by rw [hc]; simp⟩, fun _ _ h => h, fun _ _ h => h, fun a xs e h1 h2 h3 => ⟨e, by rw [hc]; exact h1, fun z => (hs a (.inl z)).elim h2 h3, fun z => (hs a (.inr z)).elim h2 h3⟩⟩
section
variable {K : PySem.W.Frag} {α α1 : Al} {H H1 : Hp}
mutual
theorem Rep.monoE (a : Ext K α H α1 H1) : ∀ {d : D} {v : V}, Rep K α H d v → Rep K α1 H1 d v
  | _, _, .non => .non
  | _, _, .bl b => .bl b
  | _, _, .int i => .int i
  | _, _, .str x => .str x
  | _, _, .tup h r => .tup (a.tup _ _ h) (Reps.monoE a r)
  | _, _, .lst h h1 h2 h3 r => let ⟨e, g1, g2, g3⟩ := a.fz _ _ h h1 h2 h3; .lst e g1 g2 g3 (Reps.monoE a r)
  | _, _, .ref h => .ref (a.at h)
  | _, _, .scr h => .scr (a.ro _ _ h)
  | _, _, .emp h h1 h2 h3 => let ⟨e, g1, g2, g3⟩ := a.fz _ _ h h1 h2 h3; .emp e g1 g2 g3
theorem Reps.monoE (a : Ext K α H α1 H1) : ∀ {ds : List D} {vs : List V}, Reps K α H ds vs → Reps K α1 H1 ds vs
  | _, _, .nil => .nil
  | _, _, .cons r rs => .cons (Rep.monoE a r) (Reps.monoE a rs)
end
theorem Rep.mono (a : Step K α H α1 H1) {d : D} {v : V} (r : Rep K α H d v) : Rep K α1 H1 d v := r.monoE a.toExt
theorem Reps.mono (a : Step K α H α1 H1) {ds : List D} {vs : List V} (r : Reps K α H ds vs) : Reps K α1 H1 ds vs := r.monoE a.toExt
theorem Rep.plain {d : D} {v : V} (r : Rep K α H d v) : isOdd d = false := by cases r <;> rfl
theorem Reps.length : ∀ {ds : List D} {vs : List V}, Reps K α H ds vs → ds.length = vs.length
  | _, _, .nil => rfl
  | _, _, .cons _ rs => by rw [List.length_cons, List.length_cons, Reps.length rs]
theorem Reps.get : ∀ {ds : List D} {vs : List V} {i : Nat} {d : D}, Reps K α H ds vs → ds[i]? = some d → ∃ v, vs[i]? = some v ∧ Rep K α H d v
  | _, _, _, _, .nil, h => by simp at h
  | _, _, 0, _, .cons r _, h => by simp at h; subst h; exact ⟨_, rfl, r⟩
  | _, _, i + 1, d, .cons _ rs, h => by
    obtain ⟨v, e, q⟩ := Reps.get (i := i) (d := d) rs (by simpa using h)
    exact ⟨v, by simpa using e, q⟩
theorem Reps.append : ∀ {ds ds' : List D} {vs vs' : List V}, Reps K α H ds vs → Reps K α H ds' vs' → Reps K α H (ds ++ ds') (vs ++ vs')
  | _, _, _, _, .nil, h => h
  | _, _, _, _, .cons r rs, h => .cons r (Reps.append rs h)
theorem Reps.set {d : D} {v : V} (r : Rep K α H d v) : ∀ {ds : List D} {vs : List V} (i : Nat), Reps K α H ds vs → Reps K α H (ds.set i d) (vs.set i v)
  | _, _, _, .nil => .nil
  | _, _, 0, .cons _ t => .cons r t
  | _, _, i + 1, .cons q t => .cons q (Reps.set r i t)
theorem Reps.take : ∀ {ds : List D} {vs : List V} (n : Nat), Reps K α H ds vs → Reps K α H (ds.take n) (vs.take n)
  | _, _, 0, _ => .nil
  | _, _, _ + 1, .nil => .nil
  | _, _, n + 1, .cons r t => .cons r (Reps.take n t)
theorem Reps.drop : ∀ {ds : List D} {vs : List V} (n : Nat), Reps K α H ds vs → Reps K α H (ds.drop n) (vs.drop n)
  | _, _, 0, r => r
  | _, _, _ + 1, .nil => .nil
  | _, _, n + 1, .cons _ t => Reps.drop n t
theorem Reps.cut {ds : List D} {vs : List V} (r : Reps K α H ds vs) (lo hi : Option Int) : Reps K α H (cutD ds lo hi) (cutV vs lo hi) := by
  unfold cutD cutV
  rw [r.length]
  exact (r.drop _).take _
theorem Reps.atI {ds : List D} {vs : List V} {i : Int} {d : D} (r : Reps K α H ds vs) (h : L2.atI ds i = some d) : ∃ v, L2.atI vs i = some v ∧ Rep K α H d v := by
  unfold L2.atI at h ⊢
  rw [← r.length]
  cases q : ixN ds.length i with
  | none => rw [q] at h; cases h
  | some j =>
    rw [q] at h
    exact r.get h
theorem nodup_at : ∀ {l : List Addr} {i j : Nat} {x : Addr}, l.Nodup → l[i]? = some x → l[j]? = some x → i = j
  | [], _, _, _, _, h, _ => by simp at h
  | y :: l, 0, 0, _, _, _, _ => rfl
  | y :: l, 0, j + 1, x, nd, h1, h2 => by
    simp at h1 h2; subst h1
    exact absurd (List.mem_of_getElem? h2) (List.nodup_cons.mp nd).1
  | y :: l, i + 1, 0, x, nd, h1, h2 => by
    simp at h1 h2; subst h2
    exact absurd (List.mem_of_getElem? h1) (List.nodup_cons.mp nd).1
  | y :: l, i + 1, j + 1, x, nd, h1, h2 => by
    simp at h1 h2
    rw [nodup_at (List.nodup_cons.mp nd).2 h1 h2]
/-- one object -/
inductive RepK (K : PySem.W.Frag) (α : Al) (H : Hp) : List (Str × D) → List (Key × V) → Prop
  | nil : RepK K α H [] []
  | cons {k : Str} {d : D} {v : V} {ks : List (Str × D)} {vs : List (Key × V)} : Rep K α H d v → RepK K α H ks vs → RepK K α H ((k, d) :: ks) ((.inr k, v) :: vs)
def OR (K : PySem.W.Frag) (α : Al) (H : Hp) (a : Addr) : O → Prop
  | .lst ds => ∃ vs, H a = some (.lst vs) ∧ Reps K α H ds vs
  | .dct kvs => ∃ vs, H a = some (.dK vs) ∧ RepK K α H kvs vs
structure HR (K : PySem.W.Frag) (α : Al) (h : Hh) (H : Hp) : Prop where
  len : α.c.length = h.length
  nd : α.c.Nodup
  dis : ∀ a, a ∈ α.c → a ∉ α.o ∧ a ∉ α.b
  al : ∀ a, a ∈ α.o ∨ a ∈ α.b → H a ≠ none
  obj : ∀ (n : Nat) (a : Addr) (o : O), α.c[n]? = some a → h[n]? = some o → OR K α H a o
variable {h : Hh}
theorem HR.lst (r : HR K α h H) {n : Nat} {a : Addr} {ds : List D} (ha : α.c[n]? = some a) (hl : h[n]? = some (.lst ds)) : ∃ vs, H a = some (.lst vs) ∧ Reps K α H ds vs := r.obj n a _ ha hl
theorem lstOf_some {h : Hh} {n : Nat} {ds : List D} (hl : lstOf h n = some ds) : h[n]? = some (.lst ds) := by
  unfold lstOf at hl
  cases q : h[n]? with
  | none => rw [q] at hl; cases hl
  | some o =>
    rw [q] at hl
    cases o with
    | lst _ => cases hl; rfl
    | dct _ => cases hl
theorem HR.dct (r : HR K α h H) {n : Nat} {a : Addr} {ds : List (Str × D)} (ha : α.c[n]? = some a) (hl : h[n]? = some (.dct ds)) : ∃ vs, H a = some (.dK vs) ∧ RepK K α H ds vs := r.obj n a _ ha hl
theorem dctOf_some {h : Hh} {n : Nat} {ds : List (Str × D)} (hl : dctOf h n = some ds) : h[n]? = some (.dct ds) := by
  unfold dctOf at hl
  cases q : h[n]? with
  | none => rw [q] at hl; cases hl
  | some o =>
    rw [q] at hl
    cases o with
    | lst _ => cases hl
    | dct _ => cases hl; rfl
theorem reps_ints : ∀ ns : List Int, Reps K α H (ns.map D.int) (ns.map V.int)
  | [] => .nil
  | i :: r => .cons (.int i) (reps_ints r)
/-- as Rep, or a list of the def's own, while it is not written -/
inductive RepB (K : PySem.W.Frag) (α : Al) (H : Hp) : D → V → Prop
  | val {d : D} {v : V} : Rep K α H d v → RepB K α H d v
  | own {a : Addr} {vs : List V} {ds : List D} : H a = some (.lst vs) → a ∈ α.o → a ∉ α.c → Reps K α H ds vs → RepB K α H (.lst ds) (.ref a)
theorem RepB.mono (s : Step K α H α1 H1) {d : D} {v : V} (r : RepB K α H d v) : RepB K α1 H1 d v := by
  cases r with
  | val r => exact .val (r.mono s)
  | own e ho hc rs => exact .own (s.frm _ _ hc e) (by rw [s.ho]; exact ho) (fun z => (s.new _ z).elim hc fun q => by rw [e] at q; cases q) (rs.mono s)
theorem HR.seqB (r : HR K α h H) {x : D} {v : V} {ds : List D} (rx : RepB K α H x v) (hl : seqOf h x = some ds) : ∃ a vs, v = .ref a ∧ SqL K H a vs ∧ Reps K α H ds vs := by
  cases rx with
  | val rx =>
    cases rx with
    | ref ha =>
      obtain ⟨vs, e, w⟩ := r.lst ha (lstOf_some hl)
      exact ⟨_, vs, rfl, .inl (.inl e), w⟩
    | lst e _ _ _ rs =>
      cases hl
      exact ⟨_, _, rfl, .inl (.inl e), rs⟩
    | scr hs =>
      cases hl
      exact ⟨_, _, rfl, hs.sq, reps_ints _⟩
    | _ => cases hl
  | own e _ _ rs =>
    cases hl
    exact ⟨_, _, rfl, .inl (.inl e), rs⟩
theorem HR.seq (r : HR K α h H) {x : D} {v : V} {ds : List D} (rx : Rep K α H x v) (hl : seqOf h x = some ds) : ∃ a vs, v = .ref a ∧ SqL K H a vs ∧ Reps K α H ds vs := r.seqB (.val rx) hl
def isTupD : D → Bool
  | .tup _ => true
  | _ => false
theorem HR.itemsB (r : HR K α h H) {x : D} {v : V} {ds : List D} (rx : RepB K α H x v) (hl : itemsOf h x = some ds) : ∃ a vs, v = .ref a ∧ sqK (isTupD x) K H a vs ∧ Reps K α H ds vs := by
  cases rx with
  | val rx =>
    cases rx with
    | tup s rs => cases hl; exact ⟨_, _, rfl, s, rs⟩
    | lst e h1 h2 h3 rs =>
      obtain ⟨a, vs, e, s, rs⟩ := r.seq (.lst e h1 h2 h3 rs) hl
      exact ⟨a, vs, e, s, rs⟩
    | ref ha =>
      obtain ⟨a, vs, e, s, rs⟩ := r.seq (.ref ha) hl
      exact ⟨a, vs, e, s, rs⟩
    | scr hs =>
      obtain ⟨a, vs, e, s, rs⟩ := r.seq (.scr hs) hl
      exact ⟨a, vs, e, s, rs⟩
    | _ => cases hl
  | own e h1 h2 rs =>
    obtain ⟨a, vs, e, s, rs⟩ := r.seqB (.own e h1 h2 rs) hl
    exact ⟨a, vs, e, s, rs⟩
theorem upd_ro {p a : Addr} {o : HO} {xs : List V} (hp : H p = none) (s : RoL K H a xs) : RoL K (upd H p o) a xs := by
  rcases s with ⟨u, s⟩ | s
  · exact .inl ⟨u, by rw [upd_ne (ne_of_none s hp)]; exact s⟩
  · exact .inr s
theorem upd_sqT {p a : Addr} {o : HO} {xs : List V} (hp : H p = none) (s : SqT K H a xs) : SqT K (upd H p o) a xs := by
  rcases s with (s | ⟨u, s⟩) | s
  · exact .inl (.inl (by rw [upd_ne (ne_of_none s hp)]; exact s))
  · exact .inl (.inr ⟨u, by rw [upd_ne (ne_of_none s hp)]; exact s⟩)
  · exact .inr s
theorem upd_sqL {p a : Addr} {o : HO} {xs : List V} (hp : H p = none) (s : SqL K H a xs) : SqL K (upd H p o) a xs := by
  rcases s with (s | ⟨u, s⟩) | s
  · exact .inl (.inl (by rw [upd_ne (ne_of_none s hp)]; exact s))
  · exact .inl (.inr ⟨u, by rw [upd_ne (ne_of_none s hp)]; exact s⟩)
  · exact .inr s
/-- something new that is not one of ours -/
theorem Step.other {p : Addr} {o : HO} (hp : H p = none) : Step K α H α (upd H p o) :=
  .of ⟨[], by simp⟩ (fun _ _ s => upd_sqT hp s) (fun _ _ s => upd_ro hp s) rfl rfl (fun _ h => .inl h) fun a u _ e => by rw [upd_ne (ne_of_none e hp)]; exact e
theorem RepK.monoE {α' : Al} {H' : Hp} (s : Ext K α H α' H') : ∀ {ks : List (Str × D)} {vs : List (Key × V)}, RepK K α H ks vs → RepK K α' H' ks vs
  | _, _, .nil => .nil
  | _, _, .cons r rs => .cons (r.monoE s) (RepK.monoE s rs)
theorem OR.mono {α' : Al} {H' : Hp} {a : Addr} {o : O} (s : Ext K α H α' H') (k1 : ∀ o', H a = some o' → H' a = some o') (x : OR K α H a o) : OR K α' H' a o := by
  cases o with
  | lst ds => obtain ⟨vs, e, r⟩ := x; exact ⟨vs, k1 _ e, r.monoE s⟩
  | dct ds => obtain ⟨vs, e, r⟩ := x; exact ⟨vs, k1 _ e, r.monoE s⟩
theorem HR.other {p : Addr} {o : HO} (r : HR K α h H) (hp : H p = none) : HR K α h (upd H p o) :=
  ⟨r.len, r.nd, r.dis, fun a ha => by
    by_cases z : a = p
    · rw [z, upd_same]; exact fun q => nomatch q
    · rw [upd_ne z]; exact r.al a ha, fun n a u ha hu => (r.obj n a u ha hu).mono (Step.other hp).toExt (fun vs e => by rw [upd_ne (ne_of_none e hp)]; exact e)⟩
theorem HR.fresh {p : Addr} (r : HR K α h H) (hp : H p = none) : p ∉ α.c ∧ p ∉ α.o ∧ p ∉ α.b := by
  refine ⟨fun hm => ?_, fun hm => r.al p (.inl hm) hp, fun hm => r.al p (.inr hm) hp⟩
  obtain ⟨n, hn⟩ := List.mem_iff_getElem?.mp hm
  have hl : n < h.length := by rw [← r.len]; exact (List.getElem?_eq_some_iff.mp hn).1
  have x := r.obj n p _ hn (List.getElem?_eq_getElem hl)
  cases q : h[n] with
  | lst ds =>
    rw [q] at x
    obtain ⟨vs, e, _⟩ := x
    rw [hp] at e
    cases e
  | dct ds =>
    rw [q] at x
    obtain ⟨vs, e, _⟩ := x
    rw [hp] at e
    cases e
/-- fewer are set apart -/
theorem HR.sub {α1 : Al} (r : HR K α h H) (hc : α1.c = α.c) (hs : ∀ a, a ∈ α1.o ∨ a ∈ α1.b → a ∈ α.o ∨ a ∈ α.b) : HR K α1 h H :=
  ⟨by rw [hc]; exact r.len, by rw [hc]; exact r.nd, fun a ha => by
    rw [hc] at ha
    exact ⟨fun z => (hs a (.inl z)).elim (r.dis a ha).1 (r.dis a ha).2, fun z => (hs a (.inr z)).elim (r.dis a ha).1 (r.dis a ha).2⟩, fun a ha => r.al a (hs a ha),
   fun n a o ha ho => by
    rw [hc] at ha
    exact (r.obj n a o ha ho).mono (Ext.sub hc hs) fun _ e => e⟩
/-- a new cell -/
theorem Step.new' {p : Addr} {o : HO} (hp : H p = none) : Step K α H { α with c := α.c ++ [p] } (upd H p o) :=
  .of ⟨[p], rfl⟩ (fun _ _ s => upd_sqT hp s) (fun _ _ s => upd_ro hp s) rfl rfl (fun a ha => by
    rcases List.mem_append.mp ha with h | h
    · exact .inl h
    · rw [List.mem_singleton] at h; subst h; exact .inr hp) fun a u _ e => by rw [upd_ne (ne_of_none e hp)]; exact e
theorem HR.newG {p : Addr} {o : O} {ho : HO} (r : HR K α h H) (hp : H p = none) (x : OR K { α with c := α.c ++ [p] } (upd H p ho) p o) : HR K { α with c := α.c ++ [p] } (h ++ [o]) (upd H p ho) := by
  have st : Step K α H { α with c := α.c ++ [p] } (upd H p ho) := Step.new' hp
  obtain ⟨hq, q2, q3⟩ := r.fresh hp
  refine ⟨by simp [r.len], ?_, fun a ha => ?_, fun a ha => ?_, fun n a u ha hu => ?_⟩
  · show (α.c ++ [p]).Nodup
    rw [List.nodup_append]
    refine ⟨r.nd, by simp, fun a ha b hb => ?_⟩
    rw [List.mem_singleton] at hb
    subst hb
    exact fun e => hq (e ▸ ha)
  · rcases List.mem_append.mp ha with z | z
    · exact r.dis a z
    · rw [List.mem_singleton] at z
      subst z
      exact ⟨q2, q3⟩
  · by_cases z : a = p
    · rw [z, upd_same]; exact fun q => nomatch q
    · rw [upd_ne z]; exact r.al a ha
  · change (α.c ++ [p])[n]? = some a at ha
    by_cases hn : n < α.c.length
    · rw [List.getElem?_append_left hn] at ha
      rw [List.getElem?_append_left (by rw [← r.len]; exact hn)] at hu
      exact (r.obj n a u ha hu).mono st.toExt (fun vs e => by rw [upd_ne (ne_of_none e hp)]; exact e)
    · have hn' : n = α.c.length := by
        have := (List.getElem?_eq_some_iff.mp ha).1
        rw [List.length_append, List.length_singleton] at this
        omega
      subst hn'
      rw [List.getElem?_append_right (Nat.le_refl _), Nat.sub_self] at ha
      rw [r.len, List.getElem?_append_right (Nat.le_refl _), Nat.sub_self] at hu
      cases ha
      cases hu
      exact x
theorem HR.new {p : Addr} {ds : List D} {vs : List V} (r : HR K α h H) (hp : H p = none) (rs : Reps K α H ds vs) : HR K { α with c := α.c ++ [p] } (h ++ [.lst ds]) (upd H p (.lst vs)) :=
  r.newG hp ⟨vs, upd_same, rs.mono (Step.new' hp)⟩
/-- a new list of the def's own -/
theorem StepF.made {p : Addr} {vs : List V} (hp : H p = none) : StepF K α H { α with o := p :: α.o } (upd H p (.lst vs)) p :=
  .of ⟨[], by simp⟩ (fun _ _ s => upd_sqT hp s) (fun _ _ s => upd_ro hp s) rfl rfl hp (fun _ h => .inl h) fun a u _ e => by rw [upd_ne (ne_of_none e hp)]; exact e
theorem HR.newO {p : Addr} {vs : List V} (r : HR K α h H) (hp : H p = none) : HR K { α with o := p :: α.o } h (upd H p (.lst vs)) := by
  obtain ⟨hq, q2, q3⟩ := r.fresh hp
  refine ⟨r.len, r.nd, fun a ha => ⟨fun z => ?_, (r.dis a ha).2⟩, fun a ha => ?_, fun n a u ha hu => (r.obj n a u ha hu).mono (StepF.made hp).toExt (fun vs e => by rw [upd_ne (ne_of_none e hp)]; exact e)⟩
  · rcases List.mem_cons.mp z with rfl | z
    · exact hq ha
    · exact (r.dis a ha).1 z
  · by_cases z : a = p
    · rw [z, upd_same]; exact fun q => nomatch q
    · rw [upd_ne z]
      refine r.al a (ha.imp (fun y => ?_) id)
      exact (List.mem_cons.mp y).resolve_left z
/-- a list over a list -/
theorem over_tup {p : Addr} {vs vs' : List V} (hp : H p = some (.lst vs)) {a : Addr} {xs : List V} (s : SqT K H a xs) : SqT K (upd H p (.lst vs')) a xs := by
  rcases s with (s | ⟨u, s⟩) | s
  · have : a ≠ p := fun z => by subst z; rw [hp] at s; cases s
    exact .inl (.inl (by rw [upd_ne this]; exact s))
  · have : a ≠ p := fun z => by subst z; rw [hp] at s; cases s
    exact .inl (.inr ⟨u, by rw [upd_ne this]; exact s⟩)
  · exact .inr s
theorem over_ro {p : Addr} {vs vs' : List V} (hp : H p = some (.lst vs)) {a : Addr} {xs : List V} (s : RoL K H a xs) : RoL K (upd H p (.lst vs')) a xs := by
  rcases s with ⟨u, s⟩ | s
  · have : a ≠ p := fun z => by subst z; rw [hp] at s; cases s
    exact .inl ⟨u, by rw [upd_ne this]; exact s⟩
  · exact .inr s
theorem Step.set {p : Addr} {vs vs' : List V} (hp : H p = some (.lst vs)) (hm : p ∈ α.c) : Step K α H α (upd H p (.lst vs')) :=
  .of ⟨[], by simp⟩ (fun _ _ s => over_tup hp s) (fun _ _ s => over_ro hp s) rfl rfl (fun _ h => .inl h) fun a u ha e => by
    rw [upd_ne (fun (z : a = p) => ha (by rw [z]; exact hm))]; exact e
/-- a list of the def's own is written -/
theorem Stp.set {p : Addr} {vs vs' : List V} (hp : H p = some (.lst vs)) (hm : p ∈ α.o) : Stp K α H α (upd H p (.lst vs')) :=
  .of ⟨[], by simp⟩ (fun _ _ s => over_tup hp s) (fun _ _ s => over_ro hp s) rfl (fun _ h => .inl h) fun a u _ ha e => by
    rw [upd_ne (fun (z : a = p) => ha (by rw [z]; exact hm))]; exact e
theorem HR.setO {p : Addr} {vs vs' : List V} (r : HR K α h H) (hp : H p = some (.lst vs)) (hm : p ∈ α.o) : HR K α h (upd H p (.lst vs')) :=
  ⟨r.len, r.nd, r.dis, fun a ha => by
    by_cases z : a = p
    · rw [z, upd_same]; exact fun q => nomatch q
    · rw [upd_ne z]; exact r.al a ha, fun n a u ha hu => (r.obj n a u ha hu).mono (Stp.set hp hm).toExt (fun vs e => by
      rw [upd_ne (fun (z : a = p) => (r.dis a (List.mem_of_getElem? ha)).1 (by rw [z]; exact hm))]
      exact e)⟩
theorem HR.set {n : Nat} {p : Addr} {vs vs' : List V} {ds' : List D} (r : HR K α h H) (ha : α.c[n]? = some p) (hp : H p = some (.lst vs)) (rs : Reps K α H ds' vs') : HR K α (h.set n (.lst ds')) (upd H p (.lst vs')) := by
  have hm : p ∈ α.c := List.mem_of_getElem? ha
  have st : Step K α H α (upd H p (.lst vs')) := Step.set hp hm
  have hn : n < h.length := by rw [← r.len]; exact (List.getElem?_eq_some_iff.mp ha).1
  refine ⟨by rw [List.length_set]; exact r.len, r.nd, r.dis, fun a ha => ?_, fun m a u hma hu => ?_⟩
  · by_cases z : a = p
    · rw [z, upd_same]; exact fun q => nomatch q
    · rw [upd_ne z]; exact r.al a ha
  by_cases e : m = n
  · subst e
    rw [ha] at hma
    cases hma
    rw [List.getElem?_set_self hn] at hu
    cases hu
    exact ⟨vs', upd_same, rs.mono st⟩
  · rw [List.getElem?_set_ne (Ne.symm e)] at hu
    have ne : a ≠ p := fun z => by
      subst z
      exact e (nodup_at r.nd hma ha)
    exact (r.obj m a u hma hu).mono st.toExt (fun vs q => by rw [upd_ne ne]; exact q)
/-- a dict over a dict -/
theorem overD_tup {p : Addr} {vs vs' : List (Key × V)} (hp : H p = some (.dK vs)) {a : Addr} {xs : List V} (s : SqT K H a xs) : SqT K (upd H p (.dK vs')) a xs := by
  rcases s with (s | ⟨u, s⟩) | s
  · have : a ≠ p := fun z => by subst z; rw [hp] at s; cases s
    exact .inl (.inl (by rw [upd_ne this]; exact s))
  · have : a ≠ p := fun z => by subst z; rw [hp] at s; cases s
    exact .inl (.inr ⟨u, by rw [upd_ne this]; exact s⟩)
  · exact .inr s
theorem overD_ro {p : Addr} {vs vs' : List (Key × V)} (hp : H p = some (.dK vs)) {a : Addr} {xs : List V} (s : RoL K H a xs) : RoL K (upd H p (.dK vs')) a xs := by
  rcases s with ⟨u, s⟩ | s
  · have : a ≠ p := fun z => by subst z; rw [hp] at s; cases s
    exact .inl ⟨u, by rw [upd_ne this]; exact s⟩
  · exact .inr s
theorem Step.setD {p : Addr} {vs vs' : List (Key × V)} (hp : H p = some (.dK vs)) (hm : p ∈ α.c) : Step K α H α (upd H p (.dK vs')) :=
  .of ⟨[], by simp⟩ (fun _ _ s => overD_tup hp s) (fun _ _ s => overD_ro hp s) rfl rfl (fun _ h => .inl h) fun a u ha e => by
    rw [upd_ne (fun (z : a = p) => ha (by rw [z]; exact hm))]; exact e
theorem HR.setD {n : Nat} {p : Addr} {vs vs' : List (Key × V)} {ds' : List (Str × D)} (r : HR K α h H) (ha : α.c[n]? = some p) (hp : H p = some (.dK vs)) (rs : RepK K α H ds' vs') : HR K α (h.set n (.dct ds')) (upd H p (.dK vs')) := by
  have hm : p ∈ α.c := List.mem_of_getElem? ha
  have st : Step K α H α (upd H p (.dK vs')) := Step.setD hp hm
  have hn : n < h.length := by rw [← r.len]; exact (List.getElem?_eq_some_iff.mp ha).1
  refine ⟨by rw [List.length_set]; exact r.len, r.nd, r.dis, fun a ha => ?_, fun m a u hma hu => ?_⟩
  · by_cases z : a = p
    · rw [z, upd_same]; exact fun q => nomatch q
    · rw [upd_ne z]; exact r.al a ha
  by_cases e : m = n
  · subst e
    rw [ha] at hma
    cases hma
    rw [List.getElem?_set_self hn] at hu
    cases hu
    exact ⟨vs', upd_same, rs.monoE st.toExt⟩
  · rw [List.getElem?_set_ne (Ne.symm e)] at hu
    have ne : a ≠ p := fun z => by
      subst z
      exact e (nodup_at r.nd hma ha)
    exact (r.obj m a u hma hu).mono st.toExt (fun vs q => by rw [upd_ne ne]; exact q)
/-- the new list is not written any more -/
theorem StepF.frz {α' : Al} {H' : Hp} {q : Addr} {ds : List D} {vs : List V} (r0 : HR K α h H) {h' : Hh} (s : StepF K α H α' H' q) (r : HR K α' h' H') (e : H' q = some (.lst vs)) (rs : Reps K α' H' ds vs) :
    Step K α H { α' with o := α.o } H' ∧ HR K { α' with o := α.o } h' H' ∧ Rep K { α' with o := α.o } H' (.lst ds) (.ref q) := by
  have sb : ∀ a, a ∈ ({ α' with o := α.o } : Al).o ∨ a ∈ ({ α' with o := α.o } : Al).b → a ∈ α'.o ∨ a ∈ α'.b := fun a ha => ha.imp (fun z => by rw [s.ho]; exact List.mem_cons_of_mem _ z) id
  have fr := r0.fresh s.q0
  refine ⟨.of s.pre s.tup s.ro rfl s.hb s.new s.frm, r.sub rfl sb, .lst e (fun z => (r.dis q z).1 (by rw [s.ho]; exact List.mem_cons_self ..)) fr.2.1 (by show q ∉ α'.b; rw [s.hb]; exact fr.2.2) (rs.monoE (Ext.sub (α := α') (α1 := { α' with o := α.o }) rfl sb))⟩
end
/-! ### slots -/
inductive RepO (Γ : Wd) (j : Nat) (α : Al) (H : Hp) : D → V → Prop
  | val {d : D} {v : V} : Rep Γ.K α H d v → RepO Γ j α H d v
  | own {a : Addr} {vs : List V} {ds : List D} : H a = some (.lst vs) → a ∈ α.o → a ∉ α.c → a ∉ α.b → Reps Γ.K α H ds vs → RepO Γ j α H (.own ds) (.ref a)
  | err {a dd : Addr} {c : Nat} {v : V} {x : D} : Γ.xs = some (a, c, dd, j) → H dd = some (.xd [(("value" : Str), v)]) → dd ∉ α.c → Rep Γ.K α H x v → RepO Γ j α H (.err c x) (.ref a)
theorem RepO.mono {Γ : Wd} {j : Nat} {α α1 : Al} {H H1 : Hp} (s : Step Γ.K α H α1 H1) {d : D} {v : V} (r : RepO Γ j α H d v) : RepO Γ j α1 H1 d v := by
  cases r with
  | val r => exact .val (r.mono s)
  | err hx e hc r => exact .err hx (s.frm _ _ hc e) (fun z => (s.new _ z).elim hc fun q => by rw [e] at q; cases q) (r.mono s)
  | own e ho hc hb rs => exact .own (s.frm _ _ hc e) (by rw [s.ho]; exact ho) (fun z => (s.new _ z).elim hc fun q => by rw [e] at q; cases q) (by rw [s.hb]; exact hb) (rs.mono s)
theorem RepO.rep {Γ : Wd} {j : Nat} {α : Al} {H : Hp} {d : D} {v : V} (r : RepO Γ j α H d v) (h : isOdd d = false) : Rep Γ.K α H d v := by
  cases r with
  | val r => exact r
  | own => cases h
  | err => cases h
structure ER (Γ : Wd) (α : Al) (H : Hp) (en : En) (σ : L2.St) : Prop where
  len : en.length = σ.length
  get : ∀ (i : Nat) (d : D), en[i]? = some (some d) → ∃ v, σ[i]? = some (some v) ∧ RepO Γ i α H d v
  uq : ∀ (i j : Nat) (a : Addr) (ds ds' : List D), i ≠ j → en[i]? = some (some (.own ds)) → en[j]? = some (some (.own ds')) → σ[i]? = some (some (.ref a)) → σ[j]? ≠ some (some (.ref a))
section
variable {Γ : Wd} {α α1 : Al} {H H1 : Hp} {en : En} {σ : L2.St}
theorem ER.mono (s : Step Γ.K α H α1 H1) (r : ER Γ α H en σ) : ER Γ α1 H1 en σ :=
  ⟨r.len, fun i d h => let ⟨v, e, q⟩ := r.get i d h; ⟨v, e, q.mono s⟩, r.uq⟩
theorem set_get {A : Type} {l : List A} {i j : Nat} {x y : A} (h : (l.set i x)[j]? = some y) : (j = i ∧ y = x ∧ i < l.length) ∨ (j ≠ i ∧ l[j]? = some y) := by
  by_cases hj : j = i
  · subst hj
    have hl : j < l.length := by
      have := (List.getElem?_eq_some_iff.mp h).1
      rw [List.length_set] at this
      exact this
    rw [List.getElem?_set_self hl] at h
    cases h
    exact .inl ⟨rfl, rfl, hl⟩
  · rw [List.getElem?_set_ne (Ne.symm hj)] at h
    exact .inr ⟨hj, h⟩
theorem ER.setG {d : D} {v : V} (r : ER Γ α H en σ) (i : Nat) (q : RepO Γ i α H d v) (u : ∀ (a : Addr) (ds ds' : List D) (j : Nat), d = .own ds → v = .ref a → j ≠ i → en[j]? = some (some (.own ds')) → σ[j]? ≠ some (some (.ref a))) : ER Γ α H (en.set i (some d)) (σ.set i (some v)) := by
  refine ⟨by simp [r.len], fun j e h => ?_, fun j k a ds ds' hjk h1 h2 h3 h4 => ?_⟩
  · rcases set_get h with ⟨rfl, z, hl⟩ | ⟨hj, h⟩
    · cases z
      exact ⟨v, by rw [List.getElem?_set_self (by rw [← r.len]; exact hl)], q⟩
    · rw [List.getElem?_set_ne (Ne.symm hj)]
      exact r.get j e h
  · rcases set_get h1 with ⟨rfl, z, hl⟩ | ⟨hj, h1'⟩
    · rw [List.getElem?_set_self (by rw [← r.len]; exact hl)] at h3
      rw [List.getElem?_set_ne hjk] at h2 h4
      cases z
      cases h3
      exact u a ds ds' k rfl rfl (Ne.symm hjk) h2 h4
    · rw [List.getElem?_set_ne (Ne.symm hj)] at h3
      rcases set_get h2 with ⟨hk, z, hl⟩ | ⟨hk, h2'⟩
      · rw [hk, List.getElem?_set_self (by rw [← r.len]; exact hl)] at h4
        cases z
        cases h4
        exact u a ds' ds j rfl rfl hj h1' h3
      · rw [List.getElem?_set_ne (Ne.symm hk)] at h4
        exact r.uq j k a ds ds' hjk h1' h2' h3 h4
theorem ER.set {d : D} {v : V} (r : ER Γ α H en σ) (i : Nat) (q : Rep Γ.K α H d v) : ER Γ α H (en.set i (some d)) (σ.set i (some v)) :=
  r.setG i (.val q) fun a ds ds' j e _ _ _ => by have := q.plain; rw [e] at this; cases this
theorem ER.unset (r : ER Γ α H en σ) (i : Nat) : ER Γ α H (en.set i none) (σ.set i none) := by
  refine ⟨by simp [r.len], fun j e h => ?_, fun j k a ds ds' hjk h1 h2 h3 h4 => ?_⟩
  · rcases set_get h with ⟨_, z, _⟩ | ⟨hj, h⟩
    · cases z
    · rw [List.getElem?_set_ne (Ne.symm hj)]
      exact r.get j e h
  · rcases set_get h1 with ⟨_, z, _⟩ | ⟨hj, h1⟩
    · cases z
    · rcases set_get h2 with ⟨_, z, _⟩ | ⟨hk, h2⟩
      · cases z
      · rw [List.getElem?_set_ne (Ne.symm hj)] at h3
        rw [List.getElem?_set_ne (Ne.symm hk)] at h4
        exact r.uq j k a ds ds' hjk h1 h2 h3 h4
theorem ER.wipe (r : ER Γ α H en σ) : ∀ vs : List Nat, ER Γ α H (wipeE en vs) (L2.wipe σ vs)
  | [] => r
  | v :: vs => (ER.wipe r vs).unset v
/-- own lists stand at other places than what is new -/
theorem ER.old (r : ER Γ α H en σ) {j : Nat} {ds : List D} {a : Addr} (h1 : en[j]? = some (some (.own ds))) (h2 : σ[j]? = some (some (.ref a))) : ∃ vs, H a = some (.lst vs) := by
  obtain ⟨v, e, q⟩ := r.get j _ h1
  rw [h2] at e
  cases e
  cases q with
  | val q => have := q.plain; cases this
  | own e _ _ _ _ => exact ⟨_, e⟩
end
theorem getE_some {en : En} {i : Nat} {d : D} (h : getE en i = some d) : en[i]? = some (some d) ∧ isOdd d = false := by
  unfold getE at h
  cases q : en[i]? with
  | none => rw [q] at h; cases h
  | some o =>
    cases o with
    | none => rw [q] at h; cases h
    | some d' =>
      rw [q] at h
      dsimp only at h
      by_cases c : isOdd d' = true
      · rw [if_pos c] at h; cases h
      · rw [if_neg c] at h; cases h; exact ⟨rfl, by simpa using c⟩
theorem getO_some {en : En} {i : Nat} {ds : List D} (h : getO en i = some ds) : en[i]? = some (some (.own ds)) := by
  unfold getO at h
  split at h
  · cases h; assumption
  · cases h
theorem ER.getV {Γ : Wd} {α : Al} {H : Hp} {en : En} {σ : L2.St} (r : ER Γ α H en σ) {i : Nat} {d : D} (h : getE en i = some d) : ∃ v, σ[i]? = some (some v) ∧ Rep Γ.K α H d v := by
  obtain ⟨e, o⟩ := getE_some h
  obtain ⟨v, e2, q⟩ := r.get i d e
  exact ⟨v, e2, q.rep o⟩
theorem ER.getB {Γ : Wd} {α : Al} {H : Hp} {en : En} {σ : L2.St} (r : ER Γ α H en σ) {i : Nat} {d : D} (h : PD.getB en i = some d) : ∃ v, σ[i]? = some (some v) ∧ RepB Γ.K α H d v := by
  unfold PD.getB at h
  split at h
  · rename_i ds q
    cases h
    obtain ⟨v, e2, z⟩ := r.get i _ q
    cases z with
    | val z => have := z.plain; cases this
    | own e h1 h2 _ rs => exact ⟨_, e2, .own e h1 h2 rs⟩
  · cases h
  · rename_i d' h1 h2 q
    cases h
    obtain ⟨v, e2, z⟩ := r.get i _ q
    cases z with
    | val z => exact ⟨v, e2, .val z⟩
    | own => exact (h1 _ rfl).elim
    | err => exact (h2 _ _ rfl).elim
  · cases h
theorem ER.getO {Γ : Wd} {α : Al} {H : Hp} {en : En} {σ : L2.St} (r : ER Γ α H en σ) {i : Nat} {ds : List D} (h : PD.getO en i = some ds) : ∃ a vs, σ[i]? = some (some (.ref a)) ∧ H a = some (.lst vs) ∧ a ∈ α.o ∧ a ∉ α.c ∧ a ∉ α.b ∧ Reps Γ.K α H ds vs := by
  obtain ⟨v, e2, z⟩ := r.get i _ (getO_some h)
  cases z with
  | val z => have := z.plain; cases this
  | own e h1 h2 h3 rs => exact ⟨_, _, e2, e, h1, h2, h3, rs⟩

/-! ### what is wanted of an evaluation -/
def XR (Γ : Wd) (α : Al) (H : Hp) (c : Nat) (x : D) (cls : Value) (d : Option Addr) : Prop :=
  ∃ da v, cls = .ref (Γ.ca c) ∧ d = some da ∧ da ∉ α.c ∧ H da = some (.xd [(("value" : Str), v)]) ∧ Rep Γ.K α H x v
def Pst {A B : Type} (Γ : Wd) (Rl : Al → Hp → A → B → Prop) (α : Al) (H : Hp) (r : R A) (Q : B → Hp → Prop) (E : XK) : Prop :=
  match r with
  | .ok a h' => ∀ α' H' b, Step Γ.K α H α' H' → HR Γ.K α' h' H' → Rl α' H' a b → Q b H'
  | .exc c x h' => ∀ α' H' cls d, Step Γ.K α H α' H' → HR Γ.K α' h' H' → XR Γ α' H' c x cls d → E cls d H'
  | .bad => False
/-- a new list -/
def PstF (Γ : Wd) (α : Al) (H : Hp) (r : R (List D)) (Q : V → Hp → Prop) (E : XK) : Prop :=
  match r with
  | .ok ds h' => ∀ α' H' q vs, StepF Γ.K α H α' H' q → HR Γ.K α' h' H' → H' q = some (.lst vs) → Reps Γ.K α' H' ds vs → Q (.ref q) H'
  | .exc c x h' => ∀ α' H' cls d, Step Γ.K α H α' H' → HR Γ.K α' h' H' → XR Γ α' H' c x cls d → E cls d H'
  | .bad => False
section
variable {Γ : Wd} {A B C B' : Type} {Rl : Al → Hp → A → B → Prop} {Rl' : Al → Hp → C → B' → Prop} {α α1 : Al} {H H1 : Hp} {Q : B → Hp → Prop} {Q' : B' → Hp → Prop} {E : XK}
theorem Pst.step {r : R A} (s : Step Γ.K α H α1 H1) (p : Pst Γ Rl α H r Q E) : Pst Γ Rl α1 H1 r Q E := by
  cases r with
  | ok a h => exact fun α' H' b st => p α' H' b (s.trans st)
  | exc c x h => exact fun α' H' cls d st => p α' H' cls d (s.trans st)
  | bad => exact p
theorem PstF.step {h0 : Hh} {r : R (List D)} {Q : V → Hp → Prop} (r1 : HR Γ.K α1 h0 H1) (s : Step Γ.K α H α1 H1) (p : PstF Γ α H r Q E) : PstF Γ α1 H1 r Q E := by
  cases r with
  | ok a h => exact fun α' H' q vs st => p α' H' q vs (s.thenF st fun z => (r1.fresh st.q0).1 (by
      obtain ⟨β, e⟩ := s.pre
      rw [e]
      exact List.mem_append_left _ z))
  | exc c x h => exact fun α' H' cls d st => p α' H' cls d (s.trans st)
  | bad => exact p
theorem Pst.bnd {r : R A} {f : A → Hh → R C} (p : Pst Γ Rl' α H (bnd r f) Q' E) (k : ∀ a h' α' H' b, Step Γ.K α H α' H' → HR Γ.K α' h' H' → Rl α' H' a b → Pst Γ Rl' α' H' (f a h') Q' E → Q b H') : Pst Γ Rl α H r Q E := by
  cases r with
  | ok a h => exact fun α' H' b st hr rl => k a h α' H' b st hr rl (Pst.step st p)
  | exc c x h => exact p
  | bad => exact p
theorem PstF.bnd {r : R A} {f : A → Hh → R (List D)} {Q' : V → Hp → Prop} (p : PstF Γ α H (PD.bnd r f) Q' E) (k : ∀ a h' α' H' b, Step Γ.K α H α' H' → HR Γ.K α' h' H' → Rl α' H' a b → PstF Γ α' H' (f a h') Q' E → Q b H') : Pst Γ Rl α H r Q E := by
  cases r with
  | ok a h => exact fun α' H' b st hr rl => k a h α' H' b st hr rl (PstF.step hr st p)
  | exc c x h => exact p
  | bad => exact p
/-- a new list that is not written -/
theorem Pst.frz {h : Hh} {r : R (List D)} {Q : V → Hp → Prop} (hr : HR Γ.K α h H) (p : Pst Γ (fun α H d v => Rep Γ.K α H d v) α H (PD.bnd r fun ds h1 => .ok (.lst ds) h1) Q E) : PstF Γ α H r Q E := by
  cases r with
  | ok ds h1 =>
    intro α' H' q vs st hr' e rs
    obtain ⟨s1, s2, s3⟩ := st.frz hr hr' e rs
    exact p _ _ _ s1 s2 s3
  | exc c x h => exact p
  | bad => exact p
end
/-- the same, what is wanted being told from an earlier state -/
theorem Pst.bndAt {Γ : Wd} {A B C B' : Type} {Rl : Al → Hp → A → B → Prop} {Rl' : Al → Hp → C → B' → Prop} {α α1 : Al} {H H1 : Hp} {Q : B → Hp → Prop} {Q' : B' → Hp → Prop} {E : XK} {r : R A} {f : A → Hh → R C} (s : Step Γ.K α H α1 H1) (p : Pst Γ Rl' α H (PD.bnd r f) Q' E)
    (k : ∀ a h' α' H' b, Step Γ.K α1 H1 α' H' → HR Γ.K α' h' H' → Rl α' H' a b → Pst Γ Rl' α H (f a h') Q' E → Q b H') : Pst Γ Rl α1 H1 r Q E := by
  cases r with
  | ok a h => exact fun α' H' b st hr rl => k a h α' H' b st hr rl p
  | exc c x h => exact fun α' H' cls d st hr xr => p α' H' cls d (s.trans st) hr xr
  | bad => exact p
theorem Pst.opt {Γ : Wd} {A B C : Type} {Rl : Al → Hp → A → B → Prop} {α : Al} {H : Hp} {Q : B → Hp → Prop} {E : XK} {o : Option C} {f : C → R A} (p : Pst Γ Rl α H (optR o f) Q E) : ∃ a, o = some a ∧ Pst Γ Rl α H (f a) Q E := by
  cases o with
  | none => exact False.elim p
  | some a => exact ⟨a, rfl, p⟩
theorem PstF.opt {Γ : Wd} {C : Type} {α : Al} {H : Hp} {Q : V → Hp → Prop} {E : XK} {o : Option C} {f : C → R (List D)} (p : PstF Γ α H (optR o f) Q E) : ∃ a, o = some a ∧ PstF Γ α H (f a) Q E := by
  cases o with
  | none => exact False.elim p
  | some a => exact ⟨a, rfl, p⟩
abbrev RV (Γ : Wd) : Al → Hp → D → V → Prop := fun α H d v => Rep Γ.K α H d v
abbrev RB (Γ : Wd) : Al → Hp → D → V → Prop := fun α H d v => RepB Γ.K α H d v
abbrev RVs (Γ : Wd) : Al → Hp → List D → List V → Prop := fun α H d v => Reps Γ.K α H d v
abbrev REq {A : Type} : Al → Hp → A → A → Prop := fun _ _ a b => a = b

structure DE (Γ : Wd) (X : Cx) (W : WX) (e : Expr) (f : En → Hh → R D) : Prop where
  ex : ∃ t, PE X e t ∧ ∀ α h H en σ Q, HR Γ.K α h H → ER Γ α H en σ → Pst Γ (RV Γ) α H (f en h) Q (fun c d H' => W c d σ H') → t σ H Q
/-- an operand of which nothing is kept -/
structure DB (Γ : Wd) (X : Cx) (W : WX) (e : Expr) (f : En → Hh → R D) : Prop where
  ex : ∃ t, PE X e t ∧ ∀ α h H en σ Q, HR Γ.K α h H → ER Γ α H en σ → Pst Γ (RB Γ) α H (f en h) Q (fun c d H' => W c d σ H') → t σ H Q
/-- a new list -/
structure DF (Γ : Wd) (X : Cx) (W : WX) (e : Expr) (f : En → Hh → R (List D)) : Prop where
  ex : ∃ t, PE X e t ∧ ∀ α h H en σ Q, HR Γ.K α h H → ER Γ α H en σ → PstF Γ α H (f en h) Q (fun c d H' => W c d σ H') → t σ H Q
theorem DE.db {Γ : Wd} {X : Cx} {W : WX} {e : Expr} {f : En → Hh → R D} (h : DE Γ X W e f) : DB Γ X W e f := by
  obtain ⟨t, pt, k⟩ := h.ex
  refine ⟨t, pt, fun α h H en σ Q hr er p => k _ _ _ _ _ _ hr er ?_⟩
  cases q : f en h with
  | ok a h' => rw [q] at p; exact fun α' H' b st hr' rl => p α' H' b st hr' (.val rl)
  | exc c x h' => rw [q] at p; exact p
  | bad => rw [q] at p; exact p
theorem DF.de {Γ : Wd} {X : Cx} {W : WX} {e : Expr} {f : En → Hh → R (List D)} (h : DF Γ X W e f) : DE Γ X W e (fun en h => bnd (f en h) fun ds h1 => .ok (.lst ds) h1) := by
  obtain ⟨t, pt, k⟩ := h.ex
  exact ⟨t, pt, fun α h H en σ Q hr er p => k _ _ _ _ _ _ hr er (Pst.frz hr p)⟩
structure DT (Γ : Wd) (X : Cx) (W : WX) (e : Expr) (f : En → Hh → R Bool) : Prop where
  ex : ∃ t, PT X e t ∧ ∀ α h H en σ Q, HR Γ.K α h H → ER Γ α H en σ → Pst Γ REq α H (f en h) Q (fun c d H' => W c d σ H') → t σ H Q
/-- and, or: a test whatever its whole is -/
structure DW (Γ : Wd) (X : Cx) (W : WX) (e : Expr) (f : En → Hh → R Bool) : Prop where
  ex : ∃ t, PW X e t ∧ ∀ α h H en σ Q, HR Γ.K α h H → ER Γ α H en σ → Pst Γ REq α H (f en h) Q (fun c d H' => W c d σ H') → t σ H Q
structure DA (Γ : Wd) (X : Cx) (W : WX) (es : List Expr) (f : En → Hh → R (List D)) : Prop where
  ex : ∃ t, PA X es t ∧ ∀ α h H en σ Q, HR Γ.K α h H → ER Γ α H en σ → Pst Γ (RVs Γ) α H (f en h) Q (fun c d H' => W c d σ H') → t σ H Q
structure DO (Γ : Wd) (X : Cx) (W : WX) (e : Option Expr) (f : En → Hh → R (Option Int)) : Prop where
  ex : ∃ t, PO X e t ∧ ∀ α h H en σ Q, HR Γ.K α h H → ER Γ α H en σ → Pst Γ REq α H (f en h) Q (fun c d H' => W c d σ H') → t σ H Q
/-- items and an iterable of the layer's; fixed: they come from what nobody writes -/
def ItR (Γ : Wd) (α : Al) (H : Hp) (it : It) (J : L2.It) : Prop := ∀ α' h' H', Ext Γ.K α H α' H' → HR Γ.K α' h' H' → ∀ i, i ≤ it.length → match it[i]? with
  | none => J.stop i H'
  | some d => J.go i H' ∧ ∀ x H'', J.yld i H' x H'' → Step Γ.K α' H' α' H'' ∧ HR Γ.K α' h' H'' ∧ Rep Γ.K α' H'' d x
structure DI (Γ : Wd) (X : Cx) (W : WX) (tg e : Expr) (f : En → Hh → R It) : Prop where
  ex : ∃ t, PI X tg e t ∧ ∀ α h H en σ Q, HR Γ.K α h H → ER Γ α H en σ → Pst Γ (ItR Γ) α H (f en h) Q (fun c d H' => W c d σ H') → t σ H Q
/-- the same, within one evaluation -/
def ItB (Γ : Wd) (α : Al) (H : Hp) (it : It) (J : L2.It) : Prop := ∀ α' h' H', Step Γ.K α H α' H' → HR Γ.K α' h' H' → ∀ i, i ≤ it.length → match it[i]? with
  | none => J.stop i H'
  | some d => J.go i H' ∧ ∀ x H'', J.yld i H' x H'' → Step Γ.K α' H' α' H'' ∧ HR Γ.K α' h' H'' ∧ Rep Γ.K α' H'' d x
/-- slots but those at sl are as they were -/
def Agr (sl : List Nat) (σ σ' : L2.St) : Prop := σ'.length = σ.length ∧ ∀ j : Nat, j ∉ sl → σ'[j]? = σ[j]?
theorem Agr.refl {sl : List Nat} {σ : L2.St} : Agr sl σ σ := ⟨rfl, fun _ _ => rfl⟩
theorem Agr.trans {sl sl' : List Nat} {σ σ1 σ2 : L2.St} (a : Agr sl σ σ1) (b : Agr sl' σ1 σ2) : Agr (sl ++ sl') σ σ2 :=
  ⟨b.1.trans a.1, fun j hj => (b.2 j fun h => hj (List.mem_append_right _ h)).trans (a.2 j fun h => hj (List.mem_append_left _ h))⟩
theorem Agr.set (σ : L2.St) (i : Nat) (o : Option V) : Agr [i] σ (σ.set i o) :=
  ⟨by simp, fun j hj => List.getElem?_set_ne fun e => hj (by simp [e])⟩
/-- no new own lists in slots -/
def OwP (en : En) (σ : L2.St) (en' : En) (σ' : L2.St) : Prop := ∀ (i : Nat) (ds : List D), en'[i]? = some (some (.own ds)) → en[i]? = some (some (.own ds)) ∧ σ'[i]? = σ[i]?
theorem OwP.refl {en : En} {σ : L2.St} : OwP en σ en σ := fun _ _ h => ⟨h, rfl⟩
theorem OwP.trans {en en1 en2 : En} {σ σ1 σ2 : L2.St} (a : OwP en σ en1 σ1) (b : OwP en1 σ1 en2 σ2) : OwP en σ en2 σ2 := fun i ds h =>
  let ⟨h1, e1⟩ := b i ds h
  let ⟨h2, e2⟩ := a i ds h1
  ⟨h2, e1.trans e2⟩
theorem OwP.set {en : En} {σ : L2.St} {d : D} {v : V} {i : Nat} (h : isOdd d = false) : OwP en σ (en.set i (some d)) (σ.set i (some v)) := fun j ds e => by
  rcases set_get e with ⟨_, z, _⟩ | ⟨hj, e⟩
  · cases z
    cases h
  · exact ⟨e, List.getElem?_set_ne (Ne.symm hj)⟩
theorem OwP.unset {en : En} {σ : L2.St} {i : Nat} : OwP en σ (en.set i none) (σ.set i none) := fun j ds e => by
  rcases set_get e with ⟨_, z, _⟩ | ⟨hj, e⟩
  · cases z
  · exact ⟨e, List.getElem?_set_ne (Ne.symm hj)⟩
theorem OwP.wipe {en : En} {σ : L2.St} : ∀ vs : List Nat, OwP en σ (wipeE en vs) (L2.wipe σ vs)
  | [] => .refl
  | v :: vs => (OwP.wipe vs).trans .unset
abbrev REn (Γ : Wd) (sl : List Nat) (en : En) (σ : L2.St) : Al → Hp → En → L2.St → Prop := fun α H en' σ' => ER Γ α H en' σ' ∧ Agr sl σ σ' ∧ OwP en σ en' σ'
/-- a target -/
structure DG (Γ : Wd) (X : Cx) (tg : Expr) (sl : List Nat) (f : D → En → Hh → R En) : Prop where
  ex : ∃ t, PG X tg t ∧ ∀ α h H d v en σ Q, HR Γ.K α h H → ER Γ α H en σ → Rep Γ.K α H d v → Pst Γ (REn Γ sl en σ) α H (noExc (f d en h)) Q (fun _ _ _ => False) → t v σ H Q
structure DGs (Γ : Wd) (X : Cx) (tgs : List Expr) (sl : List Nat) (f : List D → En → Hh → R En) : Prop where
  ex : ∃ t, PGs X tgs t ∧ ∀ α h H ds vs en σ Q, HR Γ.K α h H → ER Γ α H en σ → Reps Γ.K α H ds vs → Pst Γ (REn Γ sl en σ) α H (noExc (f ds en h)) Q (fun _ _ _ => False) → t vs σ H Q
theorem noExc_bnd {A B : Type} (r : R A) (f : A → Hh → R B) : noExc (bnd r f) = bnd (noExc r) fun a h => noExc (f a h) := by cases r <;> rfl
theorem bnd_assoc {A B C : Type} (r : R A) (f : A → Hh → R B) (g : B → Hh → R C) : bnd (bnd r f) g = bnd r fun a h => bnd (f a h) g := by cases r <;> rfl
theorem noExc_opt {A B : Type} (o : Option A) (f : A → R B) : noExc (optR o f) = optR o fun a => noExc (f a) := by cases o <;> rfl
theorem Pst.noExc {Γ : Wd} {A B : Type} {Rl : Al → Hp → A → B → Prop} {α : Al} {H : Hp} {Q : B → Hp → Prop} {E E' : XK} {r : R A} (p : Pst Γ Rl α H (noExc r) Q E) : Pst Γ Rl α H r Q E' := by
  cases r with
  | ok a h => exact p
  | exc c x h => exact False.elim p
  | bad => exact p
theorem Pst.noExc' {Γ : Wd} {A B : Type} {Rl : Al → Hp → A → B → Prop} {α : Al} {H : Hp} {Q : B → Hp → Prop} {E E' : XK} {r : R A} (p : Pst Γ Rl α H (PD.noExc r) Q E) : Pst Γ Rl α H (PD.noExc r) Q E' := by
  cases r with
  | ok a h => exact p
  | exc c x h => exact False.elim p
  | bad => exact p
/-! ### canonical readings -/
def tD (Γ : Wd) (W : WX) (f : En → Hh → R D) : TE := fun σ H Q => ∃ α h en, HR Γ.K α h H ∧ ER Γ α H en σ ∧ Pst Γ (RV Γ) α H (f en h) Q (fun c d H' => W c d σ H')
def tTD (Γ : Wd) (W : WX) (f : En → Hh → R Bool) : TT := fun σ H Q => ∃ α h en, HR Γ.K α h H ∧ ER Γ α H en σ ∧ Pst Γ REq α H (f en h) Q (fun c d H' => W c d σ H')
def tGD (Γ : Wd) (sl : List Nat) (f : D → En → Hh → R En) : TG := fun v σ H Q => ∃ α h d en, HR Γ.K α h H ∧ ER Γ α H en σ ∧ Rep Γ.K α H d v ∧ Pst Γ (REn Γ sl en σ) α H (noExc (f d en h)) Q (fun _ _ _ => False)
theorem DE.pe {Γ : Wd} {X : Cx} {W : WX} {e : Expr} {f : En → Hh → R D} (h : DE Γ X W e f) : PE X e (tD Γ W f) := by
  obtain ⟨t, pt, k⟩ := h.ex
  exact ⟨fun pins s σ H Q I ⟨α, hh, en, hr, er, p⟩ => pt.run pins s σ H Q I (k _ _ _ _ _ _ hr er p)⟩
theorem DT.pt {Γ : Wd} {X : Cx} {W : WX} {e : Expr} {f : En → Hh → R Bool} (h : DT Γ X W e f) : PT X e (tTD Γ W f) := by
  obtain ⟨t, pt, k⟩ := h.ex
  exact ⟨fun pins s σ H Q I ⟨α, hh, en, hr, er, p⟩ => pt.run pins s σ H Q I (k _ _ _ _ _ _ hr er p)⟩
def tID (Γ : Wd) (W : WX) (f : En → Hh → R It) : TI := fun σ H R => ∃ α h en, HR Γ.K α h H ∧ ER Γ α H en σ ∧ Pst Γ (ItR Γ) α H (f en h) R (fun c d H' => W c d σ H')
theorem DI.pi {Γ : Wd} {X : Cx} {W : WX} {tg e : Expr} {f : En → Hh → R It} (h : DI Γ X W tg e f) : PI X tg e (tID Γ W f) := by
  obtain ⟨t, pt, k⟩ := h.ex
  exact ⟨fun pins s σ H R I ⟨α, hh, en, hr, er, p⟩ => pt.run pins s σ H R I (k _ _ _ _ _ _ hr er p)⟩
theorem DG.pg {Γ : Wd} {X : Cx} {tg : Expr} {sl : List Nat} {f : D → En → Hh → R En} (h : DG Γ X tg sl f) : PG X tg (tGD Γ sl f) := by
  obtain ⟨t, pt, k⟩ := h.ex
  exact ⟨fun pins s σ H v u Q I r ⟨α, hh, d, en, hr, er, rd, p⟩ => pt.run pins s σ H v u Q I r (k _ _ _ _ _ _ _ _ hr er rd p)⟩
def PstS (Γ : Wd) (α : Al) (H : Hp) (r : RS) (Dn : Ends) (W : WX) : Prop :=
  match r with
  | .nx en h => ∀ α' H' σ', Stp Γ.K α H α' H' → HR Γ.K α' h H' → ER Γ α' H' en σ' → Dn.nx σ' H'
  | .ro ds h => ∀ α' H' a vs, Stp Γ.K α H α' H' → HR Γ.K α' h H' → H' a = some (.lst vs) → a ∈ α'.o → a ∉ α'.c → Reps Γ.K α' H' ds vs → Dn.rt (.ref a) H'
  | .rt d h => ∀ α' H' v, Stp Γ.K α H α' H' → HR Γ.K α' h H' → Rep Γ.K α' H' d v → Dn.rt v H'
  | .bk en h => ∀ α' H' σ', Stp Γ.K α H α' H' → HR Γ.K α' h H' → ER Γ α' H' en σ' → Dn.bk σ' H'
  | .ct en h => ∀ α' H' σ', Stp Γ.K α H α' H' → HR Γ.K α' h H' → ER Γ α' H' en σ' → Dn.ct σ' H'
  | .exc c x en h => ∀ α' H' σ' cls d, Stp Γ.K α H α' H' → HR Γ.K α' h H' → ER Γ α' H' en σ' → XR Γ α' H' c x cls d → W cls d σ' H'
  | .bad => False
theorem PstS.step {Γ : Wd} {α α1 : Al} {H H1 : Hp} {Dn : Ends} {W : WX} {r : RS} (s : Stp Γ.K α H α1 H1) (p : PstS Γ α H r Dn W) : PstS Γ α1 H1 r Dn W := by
  cases r with
  | nx en h => exact fun α' H' b st => p α' H' b (s.trans st)
  | rt en h => exact fun α' H' b st => p α' H' b (s.trans st)
  | ro en h => exact fun α' H' a vs st => p α' H' a vs (s.trans st)
  | bk en h => exact fun α' H' b st => p α' H' b (s.trans st)
  | ct en h => exact fun α' H' b st => p α' H' b (s.trans st)
  | exc c x en h => exact fun α' H' σ' cls d st => p α' H' σ' cls d (s.trans st)
  | bad => exact p
theorem PstS.bnd {Γ : Wd} {A B : Type} {Rl : Al → Hp → A → B → Prop} {α : Al} {H : Hp} {Dn : Ends} {W : WX} {Q : B → Hp → Prop} {r : R A} {en : En} {σ : L2.St} {f : A → Hh → RS} (p : PstS Γ α H (bndS r en f) Dn W) (er : ER Γ α H en σ)
    (k : ∀ a h' α' H' b, Step Γ.K α H α' H' → HR Γ.K α' h' H' → Rl α' H' a b → PstS Γ α' H' (f a h') Dn W → Q b H') : Pst Γ Rl α H r Q (fun c d H' => W c d σ H') := by
  cases r with
  | ok a h => exact fun α' H' b st hr rl => k a h α' H' b st hr rl (PstS.step st.stp p)
  | exc c x h => exact fun α' H' cls d st hr xr => p α' H' σ cls d st.stp hr (er.mono st) xr
  | bad => exact p
theorem PstS.bndF {Γ : Wd} {α : Al} {H : Hp} {Dn : Ends} {W : WX} {Q : V → Hp → Prop} {r : R (List D)} {en : En} {σ : L2.St} {f : List D → Hh → RS} (p : PstS Γ α H (bndS r en f) Dn W) (er : ER Γ α H en σ)
    (k : ∀ ds h' α' H' q vs, StepF Γ.K α H α' H' q → HR Γ.K α' h' H' → H' q = some (.lst vs) → Reps Γ.K α' H' ds vs → PstS Γ α' H' (f ds h') Dn W → Q (.ref q) H') : PstF Γ α H r Q (fun c d H' => W c d σ H') := by
  cases r with
  | ok a h => exact fun α' H' q vs st hr e rs => k a h α' H' q vs st hr e rs (PstS.step st.stp p)
  | exc c x h => exact fun α' H' cls d st hr xr => p α' H' σ cls d st.stp hr (er.mono st) xr
  | bad => exact p
structure DS (Γ : Wd) (X : Cx) (W : WX) (st : Stmt) (f : En → Hh → RS) : Prop where
  ex : ∃ t, PS X st t ∧ ∀ α h H en σ Dn, HR Γ.K α h H → ER Γ α H en σ → PstS Γ α H (f en h) Dn W → t Dn σ H
structure DSs (Γ : Wd) (X : Cx) (W : WX) (sts : List Stmt) (f : En → Hh → RS) : Prop where
  ex : ∃ t, PSs X sts t ∧ ∀ α h H en σ Dn, HR Γ.K α h H → ER Γ α H en σ → PstS Γ α H (f en h) Dn W → t Dn σ H
end PD

set_option Elab.async false
set_option linter.all false
set_option maxRecDepth 100000
set_option maxHeartbeats 4000000
/-! A tuple once, a tuple not at all. -/
namespace L2
open PySem PySem.Spec PyProof.Rows
theorem tuple_one (l : Addr) (items : Array Value) (n : Nat) (dd : Option Addr) (sl : Array (Option Value)) (u : Tok) :
    Meets (Builtin.«tuple.__mul__» ⟨[.ref l, .int 1 u], []⟩) (fun _ R s => s.heap.get? l = some { cls := .type "tuple", dict := dd, data := .seq items n, slots := sl } ∧
      R (.ok (.ret (Value.ref l))) s) :=
  .of_wp fun prog w A R s h => by
    obtain ⟨hp, g, d, tk, os⟩ := s
    obtain ⟨hl, h⟩ := h
    have f1 := AutoSeq1.idx_int
    wp_walk using wpAny_loadPart' hl
    exact ⟨_, rfl, h⟩
theorem tuple_none (l : Addr) (items : Array Value) (n : Nat) (dd : Option Addr) (sl : Array (Option Value)) (x : Int) (u : Tok) (c0 : (decide (x < -(2 ^ 63)) || decide (x ≥ 2 ^ 63)) = false) (c1 : (items.isEmpty || x == 1) = false) (c2 : (decide (x ≤ 0) || items.isEmpty) = true) :
    Meets (Builtin.«tuple.__mul__» ⟨[.ref l, .int x u], []⟩) (fun _ R s => s.heap.get? l = some { cls := .type "tuple", dict := dd, data := .seq items n, slots := sl } ∧
      R (.ok (.ret (Value.ref s.heap.objs.size))) { s with heap := s.heap.push { cls := Value.type "tuple", data := Data.seq #[] }, toks := s.toks }) :=
  .of_wp fun prog w A R s h => by
    obtain ⟨hp, g, d, tk, os⟩ := s
    obtain ⟨hl, h⟩ := h
    have f1 := AutoSeq1.idx_int
    wp_walk using wpAny_loadPart' hl
    repeat (first
      | (refine wpAny_ite_false (decide_eq_false (by rw [c0]; exact Bool.false_ne_true)) ?_; wp_walk using wpAny_loadPart' hl)
      | (refine wpAny_ite_false (decide_eq_false (by rw [c1]; exact Bool.false_ne_true)) ?_; wp_walk using wpAny_loadPart' hl)
      | (refine wpAny_ite_true (decide_eq_true (by rw [c2])) ?_; wp_walk using wpAny_loadPart' hl))
    exact ⟨_, rfl, h⟩
def rRep1 (K : PySem.W.Frag) : R2 := fun x y H Q => ∃ l xs, x = .ref l ∧ y = .int 1 ∧ SqT K H l xs ∧ Q (.ref l) H
def rRep0 (K : PySem.W.Frag) : R2 := fun x y H Q => ∃ l k xs, x = .ref l ∧ y = .int k ∧ SqT K H l xs ∧ xs ≠ [] ∧ -(2 ^ 63) ≤ k ∧ k ≤ 0 ∧ ∀ p, H p = none → Q (.ref p) (upd H p (.tup []))
section
variable {X : Cx}
theorem op_rep1 : OpR X (binaryOp .Mult) (rRep1 X.K) := by
  intro pins s σ H x y v u Q I rx ry h
  obtain ⟨l, xs, rfl, rfl, hT, q⟩ := h
  cases rx
  obtain ⟨t, rfl⟩ := ry
  obtain ⟨its, r, ⟨⟨cls, dd, data, sl⟩, ho, hc, n, hd⟩, hs⟩ := I.tuple hT
  simp only at hc hd
  subst hc hd
  exact wpAny_binaryOp_repeat_ref (T := "tuple") (U := "int") (by decide) ⟨_, ho, rfl⟩ (fun s' => typeIs_int s' 1 t) noFill_tuple_mul F.fills_int_mul F.slot_int_rmul repeat_tuple F.slot_int_index.lookup
    (call_meets F.slot_int_rmul (typeIs_int s 1 t) F.entry_int_rmul (F.args_int_rmul_2 _ _) (int_rmul_tuple 1 t l its.toArray n dd sl)
      ⟨ho, rfl, ⟨_, ho, rfl⟩, call_meets F.slot_tuple_mul ⟨_, ho, rfl⟩ F.entry_tuple_mul (F.args_tuple_mul_2 _ _) (tuple_one l its.toArray n dd sl t) ⟨ho, .ref l, H, I, rfl, q⟩⟩)
theorem op_rep0 : OpR X (binaryOp .Mult) (rRep0 X.K) := by
  intro pins s σ H x y v u Q I rx ry h
  obtain ⟨l, k, xs, rfl, rfl, hT, hne, h1, h2, q⟩ := h
  cases rx
  obtain ⟨t, rfl⟩ := ry
  obtain ⟨its, r, ⟨⟨cls, dd, data, sl⟩, ho, hc, n, hd⟩, hs⟩ := I.tuple hT
  simp only at hc hd
  subst hc hd
  have hle : its.length = xs.length := r.length.symm
  have hi : its.toArray.isEmpty = false := by
    cases its with
    | nil => exact absurd (List.eq_nil_of_length_eq_zero hle.symm) hne
    | cons a b => rfl
  have c0 : (decide (k < -(2 ^ 63)) || decide (k ≥ 2 ^ 63)) = false := by
    rw [decide_eq_false (by omega), decide_eq_false (by omega)] <;> rfl
  have c1 : (its.toArray.isEmpty || k == 1) = false := by
    rw [hi, Bool.false_or]
    exact beq_eq_false_iff_ne.mpr (by omega)
  have c2 : (decide (k ≤ 0) || its.toArray.isEmpty) = true := by
    rw [decide_eq_true h2, Bool.true_or]
  refine wpAny_binaryOp_repeat_ref (T := "tuple") (U := "int") (by decide) ⟨_, ho, rfl⟩ (fun s' => typeIs_int s' k t) noFill_tuple_mul F.fills_int_mul F.slot_int_rmul repeat_tuple F.slot_int_index.lookup
    (call_meets F.slot_int_rmul (typeIs_int s k t) F.entry_int_rmul (F.args_int_rmul_2 _ _) (int_rmul_tuple k t l its.toArray n dd sl)
      ⟨ho, rfl, ⟨_, ho, rfl⟩, call_meets F.slot_tuple_mul ⟨_, ho, rfl⟩ F.entry_tuple_mul (F.args_tuple_mul_2 _ _) (tuple_none l its.toArray n dd sl k t c0 c1 c2) ⟨ho, ?_⟩⟩)
  refine ⟨.ref s.heap.objs.size, _, I.laid (t' := s.toks) (o := .tup []) (fun b ob q => Heap.get?_push_of_some _ q) (Nat.le_refl _) ?_, rfl, q _ (I.hok.fresh (Nat.le_refl _))⟩
  exact ⟨by simp, _, .nil, IsTup.new _ _⟩
end
end L2

set_option Elab.async false
set_option linter.all false
set_option maxRecDepth 100000
set_option maxHeartbeats 1000000
/-! Each construct keeps to the evaluation. -/
namespace PD
open PySem PySem.Spec PyProof.Rows L2
section
variable {Γ : Wd} {X : Cx} {W : WX}

/-! ### data to be compared -/
theorem allO_dp {K : PySem.W.Frag} {α : Al} {H : Hp} {f : D → Option PyData} (ih : ∀ d p v, f d = some p → Rep K α H d v → Dp K H v p) :
    ∀ {ds : List D} {ps : List PyData} {vs : List V}, allO f ds = some ps → Reps K α H ds vs → DpAll K H vs ps
  | [], ps, vs, h, r => by
    cases r
    cases h
    exact .nil
  | d :: ds, ps, vs, h, r => by
    cases r with
    | cons r rs =>
      unfold allO at h
      cases q1 : f d with
      | none => rw [q1] at h; cases h
      | some p =>
        cases q2 : allO f ds with
        | none => rw [q1, q2] at h; cases h
        | some ps' =>
          rw [q1, q2] at h
          cases h
          exact .cons (ih d p _ q1 r) (allO_dp ih q2 rs)
theorem dpAll_ints {K : PySem.W.Frag} {H : Hp} : ∀ ns : List Int, DpAll K H (ns.map V.int) (ns.map PyData.int)
  | [] => .nil
  | i :: r => .cons (.int i) (dpAll_ints r)
theorem toPy_dp {K : PySem.W.Frag} {α : Al} {h : Hh} {H : Hp} (hr : HR K α h H) : ∀ (n : Nat) (d : D) (p : PyData) (v : V), toPy n h d = some p → Rep K α H d v → Dp K H v p
  | 0, _, _, _, h, _ => by cases h
  | n + 1, d, p, v, hp, r => by
    have ih := toPy_dp hr n
    cases r with
    | non => cases hp; exact .non
    | bl b => cases hp; exact .bl b
    | int b => cases hp; exact .int b
    | str b => cases hp; exact .str b
    | @tup a vs ds s rs =>
      unfold toPy at hp
      cases q : allO (toPy n h) ds with
      | none => rw [q] at hp; cases hp
      | some ps =>
        rw [q] at hp
        cases hp
        exact .tup s (allO_dp ih q rs)
    | @lst a vs ds e _ _ _ rs =>
      unfold toPy at hp
      cases q : allO (toPy n h) ds with
      | none => rw [q] at hp; cases hp
      | some ps =>
        rw [q] at hp
        cases hp
        exact .lst (SqL.of e) (allO_dp ih q rs)
    | @ref m a ha =>
      unfold toPy at hp
      cases q1 : lstOf h m with
      | none => rw [q1] at hp; cases hp
      | some ds =>
        rw [q1] at hp
        obtain ⟨vs, e, rs⟩ := hr.lst ha (lstOf_some q1)
        cases q : allO (toPy n h) ds with
        | none =>
          rw [Option.bind_some, q] at hp
          cases hp
        | some ps =>
          rw [Option.bind_some, q] at hp
          cases hp
          exact .lst (SqL.of e) (allO_dp ih q rs)
    | scr hs =>
      cases hp
      exact .lst hs.sq (dpAll_ints _)
    | emp => cases hp
theorem RepB.isLst {K : PySem.W.Frag} {α : Al} {H : Hp} {ds : List D} {v : V} (r : RepB K α H (.lst ds) v) : ∃ a vs, v = .ref a ∧ H a = some (.lst vs) ∧ Reps K α H ds vs := by
  cases r with
  | val r => cases r with | lst e _ _ _ rs => exact ⟨_, _, rfl, e, rs⟩
  | own e _ _ rs => exact ⟨_, _, rfl, e, rs⟩
theorem toPy_dpB {K : PySem.W.Frag} {α : Al} {h : Hh} {H : Hp} (hr : HR K α h H) (n : Nat) (d : D) (p : PyData) (v : V) (hp : toPy n h d = some p) (r : RepB K α H d v) : Dp K H v p := by
  cases r with
  | val r => exact toPy_dp hr n d p v hp r
  | @own a vs ds e _ _ rs =>
    cases n with
    | zero => cases hp
    | succ n =>
      unfold toPy at hp
      cases q : allO (toPy n h) ds with
      | none => rw [q] at hp; cases hp
      | some ps =>
        rw [q] at hp
        cases hp
        exact .lst (SqL.of e) (allO_dp (toPy_dp hr n) q rs)
/-- a new list as a value -/
theorem new_lst {K : PySem.W.Frag} {α : Al} {h : Hh} {H : Hp} {q : Addr} {ds : List D} {vs : List V} (hr : HR K α h H) (hq : H q = none) (rs : Reps K α H ds vs) : Step K α H α (upd H q (.lst vs)) ∧ HR K α h (upd H q (.lst vs)) ∧ Rep K α (upd H q (.lst vs)) (.lst ds) (.ref q) :=
  ⟨Step.other hq, hr.other hq, .lst upd_same (hr.fresh hq).1 (hr.fresh hq).2.1 (hr.fresh hq).2.2 (rs.mono (Step.other hq))⟩
/-! ### operators -/
def OpS (Γ : Wd) (X : Cx) (f : Value → Value → Sem Value) (g : D → D → Hh → R D) : Prop :=
  ∃ r : R2, OpR X f r ∧ ∀ α h H x y dx dy Q E, HR Γ.K α h H → RepB Γ.K α H dx x → RepB Γ.K α H dy y → Pst Γ (RV Γ) α H (g dx dy h) Q E → r x y H Q
theorem op_fdivA : OpR X (binaryOp .FloorDiv) (rI (fun _ j => j ≠ 0 ∧ j.natAbs.log2 < 9000) fun i j => .int (i.fdiv j)) :=
  opI fun _ _ _ _ _ _ _ hc q => floordiv_int hc.1 q (.inl (PyProof.noPylong_of_log2 hc.2))
theorem ops_I {f : Value → Value → Sem Value} {C : Int → Int → Prop} {g : Int → Int → Int} (o : OpR X f (rI C fun i j => .int (g i j))) {op : Operator}
    (hg : ∀ dx dy h Q α H E, Pst Γ (RV Γ) α H (binOp op dx dy h) Q E → ∃ i j, dx = .int i ∧ dy = .int j ∧ C i j ∧ binOp op dx dy h = .ok (.int (g i j)) h) : OpS Γ X f (binOp op) := by
  refine ⟨_, o, fun α h H x y dx dy Q E hr rx ry p => ?_⟩
  obtain ⟨i, j, rfl, rfl, c, e⟩ := hg dx dy h Q α H E p
  rw [e] at p
  cases rx with | val rx => cases ry with | val ry => cases rx; cases ry; exact ⟨i, j, rfl, rfl, c, p _ _ _ Step.refl hr (.int _)⟩
theorem Reps.rep {K : PySem.W.Frag} {α : Al} {H : Hp} {ds : List D} {vs : List V} (r : Reps K α H ds vs) : ∀ n : Nat, Reps K α H (List.replicate n ds).flatten (List.replicate n vs).flatten
  | 0 => .nil
  | n + 1 => by
    rw [List.replicate_succ, List.replicate_succ, List.flatten_cons, List.flatten_cons]
    exact r.append (Reps.rep r n)
theorem bits_le (x : Int) : Builtin.Int.intBits x ≤ x.natAbs.log2 + 1 := by
  unfold Builtin.Int.intBits
  split <;> omega
theorem op_mulB : OpR X (binaryOp .Mult) (rI (fun i j => i.natAbs.log2 + j.natAbs.log2 < 100000000) fun i j => .int (i * j)) := opI fun i j _ _ _ _ _ hc q => mul_int q (by
  have h1 := bits_le i
  have h2 := bits_le j
  have h3 : i.natAbs.log2 + j.natAbs.log2 < 100000000 := hc
  have h4 : Builtin.Int.intTooBig (((Builtin.Int.intBits i : Nat) : Int) + ((Builtin.Int.intBits j : Nat) : Int)) = false := by
    have e : bitsLine = 134217728 := by decide
    unfold Builtin.Int.intTooBig
    rw [e]
    exact decide_eq_false (by omega)
  unfold IntMulOk
  simp [h4])
theorem op_powB : OpR X (binaryOp .Pow) (rI (fun i j => 0 ≤ j ∧ (i.natAbs.log2 + 1) * j.toNat ≤ 100000000) fun i j => .int (i ^ j.toNat)) := opI fun i j _ _ _ _ _ hc q => pow_int hc.1 (by
  have h1 := bits_le i
  have h2 : Builtin.Int.intBits i * j.toNat ≤ (i.natAbs.log2 + 1) * j.toNat := Nat.mul_le_mul_right _ h1
  have h3 := hc.2
  have h4 : ((Builtin.Int.intBits i : Nat) : Int) * j = ((Builtin.Int.intBits i * j.toNat : Nat) : Int) := by
    rw [Int.natCast_mul, Int.toNat_of_nonneg hc.1]
  rw [h4]
  have : (2 : Int) ^ 27 = 134217728 := by decide
  omega) q
theorem ops_mul (hK : X.K = Γ.K) : OpS Γ X (binaryOp .Mult) (binOp .Mult) := by
  refine ⟨_, op_mulB.or (op_rep.or (op_repT.or (op_rep1.or op_rep0))), fun α h H x y dx dy Q E hr rx ry p => ?_⟩
  cases dx with
  | int i =>
    cases dy <;> first | exact False.elim p | skip
    rename_i j
    cases rx with | val rx => cases ry with | val ry =>
    cases rx; cases ry
    by_cases c : i.natAbs.log2 + j.natAbs.log2 < 1000000
    · simp only [binOp] at p
      rw [if_pos c] at p
      exact .inl ⟨i, j, rfl, rfl, by omega, p _ _ _ Step.refl hr (.int _)⟩
    · simp only [binOp] at p
      rw [if_neg c] at p
      by_cases c2 : i.natAbs.log2 + j.natAbs.log2 < 100000000
      · rw [if_pos c2] at p
        exact .inl ⟨i, j, rfl, rfl, c2, p _ _ _ Step.refl hr (.int _)⟩
      · rw [if_neg c2] at p; exact False.elim p
  | lst ds =>
    cases dy <;> first | exact False.elim p | skip
    rename_i b
    simp only [binOp] at p
    obtain ⟨a, vs, rfl, e1, r1⟩ := rx.isLst
    cases ry with | val ry =>
    cases ry
    by_cases c : -(2 ^ 63) ≤ b ∧ b < 2 ^ 63 ∧ ds.length * b.toNat ≤ sizeLine
    · rw [if_pos c] at p
      refine .inr (.inl ⟨_, _, _, rfl, rfl, e1, c.1, c.2.1, by rw [← r1.length]; exact c.2.2, fun q hq => ?_⟩)
      obtain ⟨s1, s2, s3⟩ := new_lst hr hq (r1.rep b.toNat)
      exact p _ _ _ s1 s2 s3
    · rw [if_neg c] at p; exact False.elim p
  | tup ds =>
    cases dy <;> first | exact False.elim p | skip
    rename_i b
    simp only [binOp] at p
    cases rx with | val rx => cases ry with | val ry =>
    cases ry
    cases rx with | @tup a vs _ s rs =>
    by_cases c : ds ≠ [] ∧ 2 ≤ b ∧ b ≤ 1000 ∧ ds.length ≤ 1000
    · rw [if_pos c] at p
      refine .inr (.inr (.inl ⟨_, _, _, rfl, rfl, by rw [hK]; exact s, fun z => c.1 ?_, c.2.1, c.2.2.1, by rw [← rs.length]; exact c.2.2.2, fun q hq => ?_⟩))
      · subst z
        cases rs
        rfl
      · exact p _ _ _ (Step.other hq) (hr.other hq) (.tup (SqT.of upd_same) ((rs.rep _).mono (Step.other hq)))
    · rw [if_neg c] at p
      by_cases c2 : b = 1
      · rw [if_pos c2] at p
        subst c2
        exact .inr (.inr (.inr (.inl ⟨_, _, rfl, rfl, by rw [hK]; exact s, p _ _ _ Step.refl hr (.tup s rs)⟩)))
      · rw [if_neg c2] at p
        by_cases c3 : ds ≠ [] ∧ -(2 ^ 63) ≤ b ∧ b ≤ 0
        · rw [if_pos c3] at p
          refine .inr (.inr (.inr (.inr ⟨_, _, _, rfl, rfl, by rw [hK]; exact s, fun z => c3.1 ?_, c3.2.1, c3.2.2, fun q hq => ?_⟩)))
          · subst z
            cases rs
            rfl
          · exact p _ _ _ (Step.other hq) (hr.other hq) (.tup (SqT.of upd_same) .nil)
        · rw [if_neg c3] at p; exact False.elim p
  | _ => exact False.elim p
theorem ops_fdiv : OpS Γ X (binaryOp .FloorDiv) (binOp .FloorDiv) := by
  refine ops_I op_fdivA fun dx dy h Q α H E p => ?_
  cases dx <;> first | exact False.elim p | skip
  cases dy <;> first | exact False.elim p | skip
  rename_i i j
  by_cases c : j ≠ 0 ∧ j.natAbs.log2 < 9000
  · exact ⟨i, j, rfl, rfl, c, by simp only [binOp]; rw [if_pos c]⟩
  · simp only [binOp] at p; rw [if_neg c] at p; exact False.elim p
theorem ops_mod : OpS Γ X (binaryOp .Mod) (binOp .Mod) := by
  refine ops_I op_modN fun dx dy h Q α H E p => ?_
  cases dx <;> first | exact False.elim p | skip
  cases dy <;> first | exact False.elim p | skip
  rename_i i j
  by_cases c : j ≠ 0
  · exact ⟨i, j, rfl, rfl, c, by simp only [binOp]; rw [if_pos c]⟩
  · simp only [binOp] at p; rw [if_neg c] at p; exact False.elim p
theorem ops_pow : OpS Γ X (binaryOp .Pow) (binOp .Pow) := by
  refine ⟨_, op_pow.or op_powB, fun α h H x y dx dy Q E hr rx ry p => ?_⟩
  cases dx <;> first | exact False.elim p | skip
  cases dy <;> first | exact False.elim p | skip
  rename_i i j
  cases rx with | val rx => cases ry with | val ry =>
  cases rx; cases ry
  simp only [binOp] at p
  by_cases c : 0 ≤ j ∧ j ≤ 1000000 ∧ i.natAbs < 2 ^ 64
  · rw [if_pos c] at p
    exact .inl ⟨i, j, rfl, rfl, c, p _ _ _ Step.refl hr (.int _)⟩
  · rw [if_neg c] at p
    by_cases c2 : 0 ≤ j ∧ (i.natAbs.log2 + 1) * j.toNat ≤ 100000000
    · rw [if_pos c2] at p
      exact .inr ⟨i, j, rfl, rfl, c2, p _ _ _ Step.refl hr (.int _)⟩
    · rw [if_neg c2] at p; exact False.elim p
theorem ops_sub : OpS Γ X (binaryOp .Sub) (binOp .Sub) := by
  refine ⟨_, op_sub, fun α h H x y dx dy Q E hr rx ry p => ?_⟩
  cases dx <;> first | exact False.elim p | skip
  cases dy <;> first | exact False.elim p | skip
  cases rx with | val rx => cases ry with | val ry =>
  cases rx; cases ry
  exact ⟨_, _, rfl, rfl, p _ _ _ Step.refl hr (.int _)⟩
theorem reps_nil_iff {K : PySem.W.Frag} {α : Al} {H : Hp} {ds : List D} {vs : List V} (r : Reps K α H ds vs) : vs = [] ↔ ds = [] := by
  cases r <;> simp
theorem ops_add (hK : X.K = Γ.K) : OpS Γ X (binaryOp .Add) (binOp .Add) := by
  refine ⟨_, (op_add.or op_add_str).or (op_catA.or op_cat), fun α h H x y dx dy Q E hr rx ry p => ?_⟩
  cases dx with
  | int i =>
    cases dy <;> first | exact False.elim p | skip
    cases rx with | val rx => cases ry with | val ry =>
    cases rx; cases ry
    exact .inl (.inl ⟨_, _, rfl, rfl, p _ _ _ Step.refl hr (.int _)⟩)
  | str i =>
    cases dy <;> first | exact False.elim p | skip
    rename_i j
    cases rx with | val rx => cases ry with | val ry =>
    cases rx; cases ry
    simp only [binOp] at p
    by_cases c : i.length + j.length ≤ sizeLine
    · rw [if_pos c] at p
      exact .inl (.inr ⟨_, _, rfl, rfl, c, p _ _ _ Step.refl hr (.str _)⟩)
    · rw [if_neg c] at p; exact False.elim p
  | tup ds =>
    cases dy <;> first | exact False.elim p | skip
    rename_i es
    cases rx with | val rx => cases ry with | val ry =>
    cases rx with | @tup a vs _ s rs =>
    cases ry with | @tup b ws _ s' rs' =>
    simp only [binOp] at p
    by_cases c : ds.length + es.length ≤ sizeLine
    · rw [if_pos c] at p
      refine .inr (.inl ⟨_, _, _, _, rfl, rfl, by rw [hK]; exact s, by rw [hK]; exact s', by rw [← rs.length, ← rs'.length]; exact c, fun z => ?_, fun _ z => ?_, fun _ _ q hq => ?_⟩)
      · refine p _ _ _ Step.refl hr ?_
        rw [(reps_nil_iff rs).mp z, List.nil_append]
        exact .tup s' rs'
      · refine p _ _ _ Step.refl hr ?_
        rw [(reps_nil_iff rs').mp z, List.append_nil]
        exact .tup s rs
      · exact p _ _ _ (Step.other hq) (hr.other hq) (.tup (SqT.of upd_same) ((rs.append rs').mono (Step.other hq)))
    · rw [if_neg c] at p; exact False.elim p
  | lst ds =>
    cases dy <;> first | exact False.elim p | skip
    rename_i es
    simp only [binOp] at p
    obtain ⟨a, vs, rfl, e1, r1⟩ := rx.isLst
    obtain ⟨b, ws, rfl, e2, r2⟩ := ry.isLst
    by_cases c : ds.length + es.length ≤ sizeLine
    · rw [if_pos c] at p
      refine .inr (.inr ⟨_, _, _, _, rfl, rfl, e1, e2, by rw [← r1.length, ← r2.length]; exact c, fun q hq => ?_⟩)
      obtain ⟨s1, s2, s3⟩ := new_lst hr hq (r1.append r2)
      exact p _ _ _ s1 s2 s3
    · rw [if_neg c] at p; exact False.elim p
  | _ => exact False.elim p
theorem ops_bin (hK : X.K = Γ.K) : ∀ op : Operator, OpS Γ X (binaryOp op) (binOp op)
  | .Add => ops_add hK
  | .Sub => ops_sub
  | .Mult => ops_mul hK
  | .FloorDiv => ops_fdiv
  | .Mod => ops_mod
  | .Pow => ops_pow
  | .MatMult | .Div | .LShift | .RShift | .BitOr | .BitXor | .BitAnd => ⟨fun _ _ _ _ => False, fun _ _ _ _ _ _ _ _ _ _ _ _ h => h.elim, fun α h H x y dx dy Q E hr rx ry p => by
      cases dx <;> first | exact p | (cases dy <;> exact p)⟩
theorem ops_int {op : CmpOp} {g : Int → Int → Bool} (o : OpR X (compareOp op) (rI0 fun i j => .bl (g i j))) (hb : ∀ dx dy h, cmpOp op dx dy h = match dx, dy with | .int i, .int j => .ok (.bl (g i j)) h | _, _ => .bad) : OpS Γ X (compareOp op) (cmpOp op) := by
  refine ⟨_, o, fun α h H x y dx dy Q E hr rx ry p => ?_⟩
  rw [hb] at p
  cases dx <;> first | exact False.elim p | skip
  cases dy <;> first | exact False.elim p | skip
  cases rx with | val rx => cases ry with | val ry =>
  cases rx; cases ry
  exact ⟨_, _, rfl, rfl, p _ _ _ Step.refl hr (.bl _)⟩
theorem rep_non {K : PySem.W.Frag} {α : Al} {H : Hp} {d : D} {v : V} (r : RepB K α H d v) : decide (v = .non) = isNon d := by
  cases r with
  | val r => cases r <;> rfl
  | own => rfl
theorem eqW_some {h : Hh} {x y : D} {b : Bool} (e : eqW h x y = some b) : ∃ p q, toPy 200 h x = some p ∧ toPy 200 h y = some q ∧ p.canLay0 = true ∧ q.canLay0 = true ∧ min p.depth q.depth ≤ 64 ∧ b = PyData.eqv p q := by
  unfold eqW at e
  cases q1 : toPy 200 h x with
  | none => rw [q1] at e; cases e
  | some p =>
    cases q2 : toPy 200 h y with
    | none => rw [q1, q2] at e; cases e
    | some q =>
      rw [q1, q2] at e
      dsimp only at e
      by_cases c : (p.canLay0 && q.canLay0 && decide (min p.depth q.depth ≤ 64)) = true
      · rw [if_pos c] at e
        cases e
        simp only [Bool.and_eq_true, decide_eq_true_eq] at c
        exact ⟨p, q, rfl, rfl, c.1.1, c.1.2, c.2, rfl⟩
      · rw [if_neg c] at e; cases e
theorem eqD_some {h : Hh} {x y : D} {b : Bool} (e : eqD h x y = some b) : ∃ n p q, toPy n h x = some p ∧ toPy n h y = some q ∧ p.canLay0 = true ∧ q.canLay0 = true ∧ min p.depth q.depth ≤ 64 ∧ b = PyData.eqv p q := by
  have wide : eqW h x y = some b → ∃ n p q, toPy n h x = some p ∧ toPy n h y = some q ∧ p.canLay0 = true ∧ q.canLay0 = true ∧ min p.depth q.depth ≤ 64 ∧ b = PyData.eqv p q := fun e => by
    obtain ⟨p, q, r⟩ := eqW_some e
    exact ⟨200, p, q, r⟩
  unfold eqD at e
  cases q1 : toPy 66 h x with
  | none => rw [q1] at e; exact wide e
  | some p =>
    cases q2 : toPy 66 h y with
    | none => rw [q1, q2] at e; exact wide e
    | some q =>
      rw [q1, q2] at e
      dsimp only at e
      by_cases c : (SeqAt.shaped p && SeqAt.shaped q) = true
      · rw [if_pos c] at e
        cases e
        rw [Bool.and_eq_true] at c
        exact ⟨66, p, q, q1, q2, SeqAt.canLay_of_shaped c.1, SeqAt.canLay_of_shaped c.2, Nat.le_trans (Nat.min_le_left _ _) (SeqAt.depth_of_shaped c.1), rfl⟩
      · rw [if_neg c] at e; exact wide e
theorem op_eqM (hu : X.A.units + 64 < cLine) : OpR X (compareOp .Eq) (fun x y H Q => ∃ d e, Dp X.K H x d ∧ Dp X.K H y e ∧ d.canLay0 = true ∧ e.canLay0 = true ∧ min d.depth e.depth ≤ 64 ∧ Q (.bl (PyData.eqv d e)) H) := fun pins s σ H x y v u Q I rx ry ⟨d, e, hd, he, sd, se, mn, q⟩ => by
  obtain ⟨as, r1⟩ := Dp.reads I d x v hd rx
  obtain ⟨bs, r2⟩ := Dp.reads I e y u he ry
  exact SeqAt.compareEq_reads r1 r2 sd se (by omega) ⟨.bl _, H, I, rfl, q⟩
theorem op_neM (hu : X.A.units + 64 < cLine) : OpR X (compareOp .NotEq) (fun x y H Q => ∃ d e, Dp X.K H x d ∧ Dp X.K H y e ∧ d.canLay0 = true ∧ e.canLay0 = true ∧ min d.depth e.depth ≤ 64 ∧ Q (.bl (!PyData.eqv d e)) H) := fun pins s σ H x y v u Q I rx ry ⟨d, e, hd, he, sd, se, mn, q⟩ => by
  obtain ⟨as, r1⟩ := Dp.reads I d x v hd rx
  obtain ⟨bs, r2⟩ := Dp.reads I e y u he ry
  exact SeqAt.compareNe_reads r1 r2 sd se (by omega) ⟨.bl _, H, I, rfl, q⟩
theorem inD_some {h : Hh} {x y : D} {b : Bool} (e : inD h x y = some b) : (∃ p qs, toPy 66 h x = some p ∧ toPy 66 h y = some (.list qs) ∧ SeqAt.shaped p = true ∧ SeqAt.shaped (.list qs) = true ∧ b = qs.any fun z => PyData.eqv z p) ∨
    ∃ p qs, toPy 66 h x = some p ∧ toPy 66 h y = some (.tuple qs) ∧ SeqAt.shaped p = true ∧ SeqAt.shaped (.tuple qs) = true ∧ b = qs.any fun z => PyData.eqv z p := by
  unfold inD at e
  cases q1 : toPy 66 h x with
  | none => rw [q1] at e; cases e
  | some p =>
    cases q2 : toPy 66 h y with
    | none => rw [q1, q2] at e; cases e
    | some q =>
      rw [q1, q2] at e
      cases q <;> dsimp only at e <;> first | (cases e; done) | skip
      · rename_i qs
        by_cases c : (SeqAt.shaped p && SeqAt.shaped (.list qs)) = true
        · rw [if_pos c] at e
          cases e
          exact .inl ⟨p, qs, rfl, rfl, (Bool.and_eq_true_iff.mp c).1, (Bool.and_eq_true_iff.mp c).2, rfl⟩
        · rw [if_neg c] at e; cases e
      · rename_i qs
        by_cases c : (SeqAt.shaped p && SeqAt.shaped (.tuple qs)) = true
        · rw [if_pos c] at e
          cases e
          exact .inr ⟨p, qs, rfl, rfl, (Bool.and_eq_true_iff.mp c).1, (Bool.and_eq_true_iff.mp c).2, rfl⟩
        · rw [if_neg c] at e; cases e
theorem _root_.L2.Room.units200 {k : Nat} {A : Around} (r : Room k A) : A.units + 200 < cLine := by have := r.un; omega
theorem _root_.L2.Room.units66 {k : Nat} {A : Around} (r : Room k A) : A.units + 66 < cLine := by have := r.un; omega
theorem _root_.L2.Room.units65 {k : Nat} {A : Around} (r : Room k A) : A.units + 65 < cLine := by have := r.un; omega
theorem op_inT (hu : X.A.units + 65 < cLine) : OpR X (compareOp .In) (fun x y H Q => ∃ d ds, Dp X.K H x d ∧ Dp X.K H y (.tuple ds) ∧ SeqAt.shaped d = true ∧ SeqAt.shaped (.tuple ds) = true ∧ Q (.bl (ds.any fun z => PyData.eqv z d)) H) := fun pins s σ H x y v u Q I rx ry ⟨d, ds, hd, he, sd, se, q⟩ => by
  obtain ⟨as, r1⟩ := Dp.reads I d x v hd rx
  obtain ⟨bs, r2⟩ := Dp.reads I (.tuple ds) y u he ry
  exact SeqAt.in_tuple_reads r2 r1 (SeqAt.canLay_of_shaped se) (SeqAt.canLay_of_shaped sd) (room_in_shaped sd hu) ⟨.bl _, H, I, rfl, q⟩
theorem op_notInT (hu : X.A.units + 65 < cLine) : OpR X (compareOp .NotIn) (fun x y H Q => ∃ d ds, Dp X.K H x d ∧ Dp X.K H y (.tuple ds) ∧ SeqAt.shaped d = true ∧ SeqAt.shaped (.tuple ds) = true ∧ Q (.bl (!ds.any fun z => PyData.eqv z d)) H) := fun pins s σ H x y v u Q I rx ry ⟨d, ds, hd, he, sd, se, q⟩ => by
  obtain ⟨as, r1⟩ := Dp.reads I d x v hd rx
  obtain ⟨bs, r2⟩ := Dp.reads I (.tuple ds) y u he ry
  exact SeqAt.notIn_tuple_reads r2 r1 (SeqAt.canLay_of_shaped se) (SeqAt.canLay_of_shaped sd) (room_in_shaped sd hu) ⟨.bl _, H, I, rfl, q⟩
theorem ops_cmp (hK : X.K = Γ.K) (hu : X.A.units + 66 < cLine) : ∀ op : CmpOp, OpS Γ X (compareOp op) (cmpOp op)
  | .Lt => ops_int op_lt fun dx dy h => by cases dx <;> cases dy <;> rfl
  | .LtE => ops_int op_le fun dx dy h => by cases dx <;> cases dy <;> rfl
  | .Gt => ops_int op_gt fun dx dy h => by cases dx <;> cases dy <;> rfl
  | .GtE => ops_int op_ge fun dx dy h => by cases dx <;> cases dy <;> rfl
  | .Eq => by
    refine ⟨_, op_eqM (by omega), fun α h H x y dx dy Q E hr rx ry p => ?_⟩
    have p0 : Pst Γ (RV Γ) α H (optR (eqD h dx dy) fun b => .ok (.bl b) h) Q E := by
      cases dx <;> cases dy <;> exact p
    obtain ⟨b, e, p'⟩ := Pst.opt p0
    obtain ⟨n, a, c, e1, e2, s1, s2, s3, rfl⟩ := eqD_some e
    exact ⟨a, c, by rw [hK]; exact toPy_dpB hr n _ _ _ e1 rx, by rw [hK]; exact toPy_dpB hr n _ _ _ e2 ry, s1, s2, s3, p' _ _ _ Step.refl hr (.bl _)⟩
  | .NotEq => by
    refine ⟨_, op_neM (by omega), fun α h H x y dx dy Q E hr rx ry p => ?_⟩
    have p0 : Pst Γ (RV Γ) α H (optR (eqD h dx dy) fun b => .ok (.bl (!b)) h) Q E := by
      cases dx <;> cases dy <;> exact p
    obtain ⟨b, e, p'⟩ := Pst.opt p0
    obtain ⟨n, a, c, e1, e2, s1, s2, s3, rfl⟩ := eqD_some e
    exact ⟨a, c, by rw [hK]; exact toPy_dpB hr n _ _ _ e1 rx, by rw [hK]; exact toPy_dpB hr n _ _ _ e2 ry, s1, s2, s3, p' _ _ _ Step.refl hr (.bl _)⟩
  | .Is => by
    refine ⟨_, op_isN.or op_isBl, fun α h H x y dx dy Q E hr rx ry p => ?_⟩
    cases dy <;> first | (cases dx <;> exact False.elim p) | skip
    · cases ry with | val ry =>
      cases ry
      refine .inl ⟨rfl, ?_⟩
      rw [rep_non rx]
      have p' : Pst Γ (RV Γ) α H (.ok (.bl (isNon dx)) h) Q E := by cases dx <;> exact p
      exact p' _ _ _ Step.refl hr (.bl _)
    · cases dx <;> first | exact False.elim p | skip
      cases ry with | val ry =>
      cases ry
      cases rx with | val rx =>
      cases rx
      exact .inr ⟨_, _, rfl, rfl, p _ _ _ Step.refl hr (.bl _)⟩
  | .IsNot => by
    refine ⟨_, op_notN, fun α h H x y dx dy Q E hr rx ry p => ?_⟩
    cases dy <;> first | (cases dx <;> exact False.elim p) | skip
    cases ry with | val ry =>
    cases ry
    refine ⟨rfl, ?_⟩
    rw [rep_non rx]
    have p' : Pst Γ (RV Γ) α H (.ok (.bl (!isNon dx)) h) Q E := by cases dx <;> exact p
    exact p' _ _ _ Step.refl hr (.bl _)
  | .In => by
    refine ⟨_, (op_inD (by omega)).or (op_inT (by omega)), fun α h H x y dx dy Q E hr rx ry p => ?_⟩
    have p0 : Pst Γ (RV Γ) α H (optR (inD h dx dy) fun b => .ok (.bl b) h) Q E := by
      cases dx <;> cases dy <;> exact p
    obtain ⟨b, e, p'⟩ := Pst.opt p0
    rcases inD_some e with ⟨a, c, e1, e2, s1, s2, rfl⟩ | ⟨a, c, e1, e2, s1, s2, rfl⟩
    · exact .inl ⟨a, c, by rw [hK]; exact toPy_dpB hr 66 _ _ _ e1 rx, by rw [hK]; exact toPy_dpB hr 66 _ _ _ e2 ry, s1, s2, p' _ _ _ Step.refl hr (.bl _)⟩
    · exact .inr ⟨a, c, by rw [hK]; exact toPy_dpB hr 66 _ _ _ e1 rx, by rw [hK]; exact toPy_dpB hr 66 _ _ _ e2 ry, s1, s2, p' _ _ _ Step.refl hr (.bl _)⟩
  | .NotIn => by
    refine ⟨_, (op_notInD (by omega)).or (op_notInT (by omega)), fun α h H x y dx dy Q E hr rx ry p => ?_⟩
    have p0 : Pst Γ (RV Γ) α H (optR (inD h dx dy) fun b => .ok (.bl (!b)) h) Q E := by
      cases dx <;> cases dy <;> exact p
    obtain ⟨b, e, p'⟩ := Pst.opt p0
    rcases inD_some e with ⟨a, c, e1, e2, s1, s2, rfl⟩ | ⟨a, c, e1, e2, s1, s2, rfl⟩
    · exact .inl ⟨a, c, by rw [hK]; exact toPy_dpB hr 66 _ _ _ e1 rx, by rw [hK]; exact toPy_dpB hr 66 _ _ _ e2 ry, s1, s2, p' _ _ _ Step.refl hr (.bl _)⟩
    · exact .inr ⟨a, c, by rw [hK]; exact toPy_dpB hr 66 _ _ _ e1 rx, by rw [hK]; exact toPy_dpB hr 66 _ _ _ e2 ry, s1, s2, p' _ _ _ Step.refl hr (.bl _)⟩
end
end PD

set_option Elab.async false
set_option linter.all false
set_option maxRecDepth 100000
set_option maxHeartbeats 1000000
namespace PD
open PySem PySem.Spec PyProof.Rows L2
section
variable {Γ : Wd} {X : Cx} {W : WX} {pos : Pos}
theorem PE.false {e : Expr} : PE X e (fun _ _ _ => False) := ⟨fun _ _ _ _ _ _ h => h.elim⟩
theorem de_bad {e : Expr} : DE Γ X W e (fun _ _ => .bad) := ⟨_, PE.false, fun _ _ _ _ _ _ _ _ p => p⟩
theorem dt_bad {e : Expr} : DT Γ X W e (fun _ _ => .bad) := ⟨fun _ _ _ => False, ⟨fun _ _ _ _ _ _ h => h.elim⟩, fun _ _ _ _ _ _ _ _ p => p⟩
theorem di_bad {tg e : Expr} : DI Γ X W tg e (fun _ _ => .bad) := ⟨fun _ _ _ => False, ⟨fun _ _ _ _ _ _ h => h.elim⟩, fun _ _ _ _ _ _ _ _ p => p⟩
theorem dg_bad {tg : Expr} {sl : List Nat} : DG Γ X tg sl (fun _ _ _ => .bad) := ⟨fun _ _ _ _ => False, ⟨fun _ _ _ _ _ _ _ _ _ h => h.elim⟩, fun _ _ _ _ _ _ _ _ _ _ _ p => p⟩
theorem ds_bad {st : Stmt} : DS Γ X W st (fun _ _ => .bad) := ⟨_, ps_never, fun _ _ _ _ _ _ _ _ p => p⟩
theorem do_bad {e : Option Expr} : DO Γ X W e (fun _ _ => .bad) := ⟨fun _ _ _ => False, ⟨fun _ _ _ _ _ _ h => h.elim⟩, fun _ _ _ _ _ _ _ _ p => p⟩
theorem da_bad {es : List Expr} : DA Γ X W es (fun _ _ => .bad) := ⟨fun _ _ _ => False, ⟨fun _ _ _ _ _ _ _ h => h.elim⟩, fun _ _ _ _ _ _ _ _ p => p⟩
theorem de_int {i j} : DE Γ X W (.Constant (.int i) j pos) (fun _ h => .ok (.int i) h) := ⟨_, pe_int, fun _ _ _ _ _ _ hr _ p => p _ _ _ Step.refl hr (.int i)⟩
theorem de_bl {i j} : DE Γ X W (.Constant (.bool i) j pos) (fun _ h => .ok (.bl i) h) := ⟨_, pe_bl, fun _ _ _ _ _ _ hr _ p => p _ _ _ Step.refl hr (.bl i)⟩
theorem de_str {i j} : DE Γ X W (.Constant (.str i) j pos) (fun _ h => .ok (.str i) h) := ⟨_, pe_str, fun _ _ _ _ _ _ hr _ p => p _ _ _ Step.refl hr (.str i)⟩
theorem de_non {j} : DE Γ X W (.Constant .none j pos) (fun _ h => .ok .non h) := ⟨_, pe_non, fun _ _ _ _ _ _ hr _ p => p _ _ _ Step.refl hr .non⟩
theorem de_var {i : Nat} {x : Str} (hN : X.N[i]? = some x) (hv : Vis X.env.scope x) (hd : (x == ("__debug__" : Str)) = false) (hcd : (x == ("__classdict__" : Str)) = false) :
    DE Γ X W (.Name x pos) (fun en h => optR (getE en i) fun d => .ok d h) := by
  refine ⟨_, pe_var hN hv hd hcd, fun α h H en σ Q hr er p => ?_⟩
  obtain ⟨d, q, p⟩ := Pst.opt p
  obtain ⟨v, e, r⟩ := er.getV q
  exact ⟨v, e, p _ _ _ Step.refl hr r⟩
theorem db_var {i : Nat} {x : Str} (hN : X.N[i]? = some x) (hv : Vis X.env.scope x) (hd : (x == ("__debug__" : Str)) = false) (hcd : (x == ("__classdict__" : Str)) = false) :
    DB Γ X W (.Name x pos) (fun en h => optR (getB en i) fun d => .ok d h) := by
  refine ⟨_, pe_var hN hv hd hcd, fun α h H en σ Q hr er p => ?_⟩
  obtain ⟨d, q, p⟩ := Pst.opt p
  obtain ⟨v, e, r⟩ := er.getB q
  exact ⟨v, e, p _ _ _ Step.refl hr r⟩
theorem db_bad {e : Expr} : DB Γ X W e (fun _ _ => .bad) := de_bad.db
theorem df_bad {e : Expr} : DF Γ X W e (fun _ _ => .bad) := ⟨_, PE.false, fun _ _ _ _ _ _ _ _ p => p⟩
theorem de_glob {x : Str} {d : D} {v : V} {u : Value} (hg : Gl X x) (hm : X.mg x = some u) (r : RelV v u) (hd : (x == ("__debug__" : Str)) = false) (rep : ∀ α H, Rep Γ.K α H d v) : DE Γ X W (.Name x pos) (fun _ h => .ok d h) :=
  ⟨_, pe_glob hg hm r hd, fun _ _ _ _ _ _ hr _ p => p _ _ _ Step.refl hr (rep _ _)⟩
/-! ### arguments, displays -/
def star (e : Expr) : Bool := match e with | .Starred .. => true | _ => false
theorem starEach_cons {e : Expr} {es : List Expr} {env : Env} (h : star e = false) : starEach (e :: es) env = (false, eval e env) :: starEach es env := by
  cases e <;> first | rfl | cases h
theorem starEach_any {env : Env} : ∀ {es : List Expr}, es.any star = false → (backTo pos (starEach es env)).any (·.1) = false
  | [], _ => rfl
  | e :: es, h => by
    rw [List.any_cons, Bool.or_eq_false_iff] at h
    rw [starEach_cons h.1]
    show (false || (backTo pos (starEach es env)).any (·.1)) = false
    rw [Bool.false_or]
    exact starEach_any h.2
theorem da_nil : DA Γ X W [] (fun _ h => .ok [] h) := ⟨_, pa_nil, fun _ _ _ _ _ _ hr _ p => p _ _ _ Step.refl hr .nil⟩
theorem da_cons {e : Expr} {es : List Expr} {f : En → Hh → R D} {g : En → Hh → R (List D)} (hs : star e = false) (he : DE Γ X W e f) (hes : DA Γ X W es g) :
    DA Γ X W (e :: es) (fun en h => bnd (f en h) fun d h1 => bnd (g en h1) fun ds h2 => .ok (d :: ds) h2) := by
  obtain ⟨t, pt, k⟩ := he.ex
  obtain ⟨u, pu, l⟩ := hes.ex
  refine ⟨_, pa_cons pt pu (starEach_cons hs), fun α h H en σ Q hr er p => k _ _ _ _ _ _ hr er (p.bnd fun d h1 α1 H1 v st1 hr1 r1 p1 => ?_)⟩
  refine l _ _ _ _ _ _ hr1 (er.mono st1) (p1.bnd fun ds h2 α2 H2 vs st2 hr2 r2 p2 => ?_)
  exact p2 _ _ _ Step.refl hr2 (.cons (r1.mono st2) r2)
theorem de_tup {es : List Expr} {k : Nat} {g : En → Hh → R (List D)} (hes : DA Γ X W es g) : DE Γ X W (.Tuple es k pos) (fun en h => bnd (g en h) fun ds h1 => if ds.length ≤ sizeLine then .ok (.tup ds) h1 else .bad) := by
  obtain ⟨u, pu, l⟩ := hes.ex
  refine ⟨_, pe_tup pu, fun α h H en σ Q hr er p => l _ _ _ _ _ _ hr er (p.bnd fun ds h1 α1 H1 vs st1 hr1 r1 p1 => ?_)⟩
  by_cases c : ds.length ≤ sizeLine
  · rw [if_pos c] at p1
    exact ⟨by rw [← r1.length]; exact c, fun q hq => p1 _ _ _ (Step.other hq) (hr1.other hq) (.tup (SqT.of upd_same) (r1.mono (Step.other hq)))⟩
  · rw [if_neg c] at p1; exact False.elim p1
theorem rep_new {K : PySem.W.Frag} {α : Al} {h : Hh} {H H' : Hp} {p : Addr} (hr : HR K α h H) : Rep K { α with c := α.c ++ [p] } H' (.ref h.length) (.ref p) := by
  refine .ref ?_
  show (α.c ++ [p])[h.length]? = some p
  rw [← hr.len]
  simp
/-- a new list: as one of the def's own -/
theorem new_own {α : Al} {h : Hh} {H : Hp} {q : Addr} {ds : List D} {vs : List V} {Q : V → Hp → Prop} {E : XK} (hr : HR Γ.K α h H) (hq : H q = none) (rs : Reps Γ.K α H ds vs) (p : PstF Γ α H (.ok ds h) Q E) : Q (.ref q) (upd H q (.lst vs)) :=
  p _ _ _ _ (StepF.made hq) (hr.newO hq) upd_same (rs.monoE (StepF.made hq).toExt)
theorem df_lst {es : List Expr} {g : En → Hh → R (List D)} (hes : DA Γ X W es g) : DF Γ X W (.List es pos) (fun en h => bnd (g en h) fun ds h1 => if ds.length ≤ sizeLine then .ok ds h1 else .bad) := by
  obtain ⟨u, pu, l⟩ := hes.ex
  refine ⟨_, pe_lst pu, fun α h H en σ Q hr er p => l _ _ _ _ _ _ hr er (p.bnd fun ds h1 α1 H1 vs st1 hr1 r1 p1 => ?_)⟩
  by_cases c : ds.length ≤ sizeLine
  · rw [if_pos c] at p1
    exact ⟨by rw [← r1.length]; exact c, fun q hq => new_own hr1 hq r1 p1⟩
  · rw [if_neg c] at p1; exact False.elim p1
theorem de_new {es : List Expr} {g : En → Hh → R (List D)} (hes : DA Γ X W es g) : DE Γ X W (.List es pos) (fun en h => bnd (g en h) fun ds h1 => if ds.length ≤ sizeLine then .ok (.ref h1.length) (h1 ++ [.lst ds]) else .bad) := by
  obtain ⟨u, pu, l⟩ := hes.ex
  refine ⟨_, pe_lst pu, fun α h H en σ Q hr er p => l _ _ _ _ _ _ hr er (p.bnd fun ds h1 α1 H1 vs st1 hr1 r1 p1 => ?_)⟩
  by_cases c : ds.length ≤ sizeLine
  · rw [if_pos c] at p1
    exact ⟨by rw [← r1.length]; exact c, fun q hq => p1 _ _ _ (Step.new' hq) (hr1.new hq r1) (rep_new hr1)⟩
  · rw [if_neg c] at p1; exact False.elim p1
/-! ### operators -/
theorem de_bin {a b : Expr} {op : Operator} {f g : En → Hh → R D} (o : OpS Γ X (binaryOp op) (binOp op)) (ha : DB Γ X W a f) (hb : DB Γ X W b g) :
    DE Γ X W (.BinOp a op b pos) (fun en h => bnd (f en h) fun x h1 => bnd (g en h1) fun y h2 => binOp op x y h2) := by
  obtain ⟨t, pt, k⟩ := ha.ex
  obtain ⟨u, pu, l⟩ := hb.ex
  obtain ⟨r, pr, m⟩ := o
  refine ⟨_, pe_op pr pt pu, fun α h H en σ Q hr er p => k _ _ _ _ _ _ hr er (p.bnd fun d h1 α1 H1 v st1 hr1 r1 p1 => ?_)⟩
  refine l _ _ _ _ _ _ hr1 (er.mono st1) (p1.bnd fun ds h2 α2 H2 vs st2 hr2 r2 p2 => ?_)
  exact m _ _ _ _ _ _ _ _ _ hr2 (r1.mono st2) r2 p2
theorem de_cmp {a b : Expr} {op : CmpOp} {f g : En → Hh → R D} (hm : behindInMarks op b = false) (o : OpS Γ X (compareOp op) (cmpOp op)) (ha : DB Γ X W a f) (hb : DB Γ X W b g) :
    DE Γ X W (.Compare a [op] [b] pos) (fun en h => bnd (f en h) fun x h1 => bnd (g en h1) fun y h2 => cmpOp op x y h2) := by
  obtain ⟨t, pt, k⟩ := ha.ex
  obtain ⟨u, pu, l⟩ := hb.ex
  obtain ⟨r, pr, m⟩ := o
  refine ⟨_, pe_cmpR pr pt pu hm, fun α h H en σ Q hr er p => k _ _ _ _ _ _ hr er (p.bnd fun d h1 α1 H1 v st1 hr1 r1 p1 => ?_)⟩
  refine l _ _ _ _ _ _ hr1 (er.mono st1) (p1.bnd fun ds h2 α2 H2 vs st2 hr2 r2 p2 => ?_)
  exact m _ _ _ _ _ _ _ _ _ hr2 (r1.mono st2) r2 p2
theorem toBool_post {α : Al} {h : Hh} {H : Hp} {d : D} {v : V} {Q : Bool → Hp → Prop} {E : XK} (hr : HR Γ.K α h H) (r : Rep Γ.K α H d v) (p : Pst Γ REq α H (toBool d h) Q E) : ∃ k, v = .bl k ∧ d = .bl k ∧ Q k H := by
  cases r <;> first | exact False.elim p | skip
  exact ⟨_, rfl, rfl, p _ _ _ Step.refl hr rfl⟩
theorem dt_cmp {a b : Expr} {op : CmpOp} {f g : En → Hh → R D} (hm : behindInMarks op b = false) (o : OpS Γ X (compareOp op) (cmpOp op)) (ha : DB Γ X W a f) (hb : DB Γ X W b g) :
    DT Γ X W (.Compare a [op] [b] pos) (fun en h => bnd (bnd (f en h) fun x h1 => bnd (g en h1) fun y h2 => cmpOp op x y h2) toBool) := by
  obtain ⟨t, pt, k⟩ := ha.ex
  obtain ⟨u, pu, l⟩ := hb.ex
  obtain ⟨r, pr, m⟩ := o
  refine ⟨_, pt_cmpR pr pt pu hm, fun α h H en σ Q hr er p => ?_⟩
  have p' := Pst.bnd (Rl := RV Γ) (Q := fun x H' => ∃ k, x = V.bl k ∧ Q k H') p fun d h1 α1 H1 v st1 hr1 r1 p1 => by
    obtain ⟨kk, e, _, q⟩ := toBool_post hr1 r1 p1
    exact ⟨kk, e, q⟩
  refine k _ _ _ _ _ _ hr er (p'.bnd fun d h1 α1 H1 v st1 hr1 r1 p1 => ?_)
  refine l _ _ _ _ _ _ hr1 (er.mono st1) (p1.bnd fun ds h2 α2 H2 vs st2 hr2 r2 p2 => ?_)
  exact m _ _ _ _ _ _ _ _ _ hr2 (r1.mono st2) r2 p2
/-- a value's truth, where the value is a bool -/
theorem dt_val {e : Expr} {f : En → Hh → R D} (he : DE Γ X W e f) (hp : ∀ whole, isTrue e X.env whole = (do let v ← whole; standAt e.pos; holding [v] (truthy v))) : DT Γ X W e (fun en h => bnd (f en h) toBool) := by
  obtain ⟨t, pt, k⟩ := he.ex
  refine ⟨_, pt_val pt hp, fun α h H en σ Q hr er p => k _ _ _ _ _ _ hr er (p.bnd fun d h1 α1 H1 v st1 hr1 r1 p1 => ?_)⟩
  obtain ⟨kk, e, _, q⟩ := toBool_post hr1 r1 p1
  exact ⟨kk, e, q⟩
theorem chain_post {op op' : CmpOp} {t tb tc : TE} {r r' : R2} {g w : En → Hh → R D} {en : En} {σ : L2.St} {x : V} {dx : D} {α : Al} {h : Hh} {H : Hp} {Q : V → Hp → Prop}
    (l : ∀ α h H en σ Q, HR Γ.K α h H → ER Γ α H en σ → Pst Γ (RV Γ) α H (g en h) Q (fun c d H' => W c d σ H') → tb σ H Q)
    (n : ∀ α h H en σ Q, HR Γ.K α h H → ER Γ α H en σ → Pst Γ (RV Γ) α H (w en h) Q (fun c d H' => W c d σ H') → tc σ H Q)
    (m : ∀ α h H x y dx dy Q E, HR Γ.K α h H → RepB Γ.K α H dx x → RepB Γ.K α H dy y → Pst Γ (RV Γ) α H (cmpOp op dx dy h) Q E → r x y H Q)
    (m' : ∀ α h H x y dx dy Q E, HR Γ.K α h H → RepB Γ.K α H dx x → RepB Γ.K α H dy y → Pst Γ (RV Γ) α H (cmpOp op' dx dy h) Q E → r' x y H Q)
    (hr : HR Γ.K α h H) (er : ER Γ α H en σ) (rx : Rep Γ.K α H dx x)
    (p : Pst Γ (RV Γ) α H (bnd (g en h) fun y h2 => bnd (cmpOp op dx y h2) fun z h3 => bnd (toBool z h3) fun k h4 => if k = true then bnd (w en h4) fun v h5 => cmpOp op' y v h5 else .ok (.bl false) h4) Q (fun c d H' => W c d σ H')) :
    tb σ H fun y H2 => r x y H2 fun z H3 => ∃ k, z = .bl k ∧ (if k = true then tc σ H3 fun w' H4 => r' y w' H4 Q else Q (.bl false) H3) := by
  refine l _ _ _ _ _ _ hr er (p.bnd fun d h1 α1 H1 v st1 hr1 r1 p1 => ?_)
  refine m _ _ _ _ _ _ _ _ _ hr1 (.val (rx.mono st1)) (.val r1) (p1.bnd fun z h2 α2 H2 zv st2 hr2 r2 p2 => ?_)
  cases r2 <;> first | exact False.elim p2 | skip
  rename_i kk
  refine ⟨kk, rfl, ?_⟩
  have p2' : Pst Γ (RV Γ) α2 H2 (if kk = true then bnd (w en h2) fun v h5 => cmpOp op' d v h5 else .ok (.bl false) h2) Q (fun c d H' => W c d σ H') := p2
  cases kk with
  | true =>
    rw [if_pos rfl] at p2' ⊢
    refine n _ _ _ _ _ _ hr2 ((er.mono st1).mono st2) (p2'.bnd fun e h3 α3 H3 ev st3 hr3 r3 p3 => ?_)
    exact m' _ _ _ _ _ _ _ _ _ hr3 (.val ((r1.mono st2).mono st3)) (.val r3) p3
  | false =>
    rw [if_neg (by decide)] at p2' ⊢
    exact p2' _ _ _ Step.refl hr2 (.bl _)
theorem de_chain {a b c : Expr} {op op' : CmpOp} {f g w : En → Hh → R D} (hm : lastMarks [op, op'] [b, c] = false) (o : OpS Γ X (compareOp op) (cmpOp op)) (o' : OpS Γ X (compareOp op') (cmpOp op')) (ha : DE Γ X W a f) (hb : DE Γ X W b g) (hc : DE Γ X W c w) :
    DE Γ X W (.Compare a [op, op'] [b, c] pos) (fun en h => bnd (f en h) fun x h1 => bnd (g en h1) fun y h2 => bnd (cmpOp op x y h2) fun z h3 => bnd (toBool z h3) fun k h4 =>
      if k = true then bnd (w en h4) fun v h5 => cmpOp op' y v h5 else .ok (.bl false) h4) := by
  obtain ⟨t, pt, k⟩ := ha.ex
  obtain ⟨u, pu, l⟩ := hb.ex
  obtain ⟨z, pz, n⟩ := hc.ex
  obtain ⟨r, pr, m⟩ := o
  obtain ⟨r', pr', m'⟩ := o'
  refine ⟨_, pe_chain pr pr' pt pu pz hm, fun α h H en σ Q hr er p => k _ _ _ _ _ _ hr er (p.bnd fun d h1 α1 H1 v st1 hr1 r1 p1 => ?_)⟩
  exact chain_post (t := t) l n m m' hr1 (er.mono st1) r1 p1
theorem dt_chain {a b c : Expr} {op op' : CmpOp} {f g w : En → Hh → R D} (hm : lastMarks [op, op'] [b, c] = false) (o : OpS Γ X (compareOp op) (cmpOp op)) (o' : OpS Γ X (compareOp op') (cmpOp op')) (ha : DE Γ X W a f) (hb : DE Γ X W b g) (hc : DE Γ X W c w) :
    DT Γ X W (.Compare a [op, op'] [b, c] pos) (fun en h => bnd (bnd (f en h) fun x h1 => bnd (g en h1) fun y h2 => bnd (cmpOp op x y h2) fun z h3 => bnd (toBool z h3) fun k h4 =>
      if k = true then bnd (w en h4) fun v h5 => cmpOp op' y v h5 else .ok (.bl false) h4) toBool) := by
  obtain ⟨t, pt, k⟩ := ha.ex
  obtain ⟨u, pu, l⟩ := hb.ex
  obtain ⟨z, pz, n⟩ := hc.ex
  obtain ⟨r, pr, m⟩ := o
  obtain ⟨r', pr', m'⟩ := o'
  refine ⟨_, pt_chain pr pr' pt pu pz hm, fun α h H en σ Q hr er p => ?_⟩
  have p' := Pst.bnd (Rl := RV Γ) (Q := fun x H' => ∃ k, x = V.bl k ∧ Q k H') p fun d h1 α1 H1 v st1 hr1 r1 p1 => by
    obtain ⟨kk, e, _, q⟩ := toBool_post hr1 r1 p1
    exact ⟨kk, e, q⟩
  refine k _ _ _ _ _ _ hr er (p'.bnd fun d h1 α1 H1 v st1 hr1 r1 p1 => ?_)
  exact chain_post (t := t) l n m m' hr1 (er.mono st1) r1 p1
theorem de_neg {a : Expr} {f : En → Hh → R D} (ha : DE Γ X W a f) : DE Γ X W (.UnaryOp .USub a pos) (fun en h => bnd (f en h) unNeg) := by
  obtain ⟨t, pt, k⟩ := ha.ex
  refine ⟨_, pe_un un_neg pt, fun α h H en σ Q hr er p => k _ _ _ _ _ _ hr er (p.bnd fun d h1 α1 H1 v st1 hr1 r1 p1 => ?_)⟩
  cases r1 <;> first | exact False.elim p1 | skip
  exact ⟨_, rfl, p1 _ _ _ Step.refl hr1 (.int _)⟩
theorem dt_not {a : Expr} {f : En → Hh → R Bool} (ha : DT Γ X W a f) : DT Γ X W (.UnaryOp .Not a pos) (fun en h => bnd (f en h) fun b h1 => .ok (!b) h1) := by
  obtain ⟨t, pt, k⟩ := ha.ex
  refine ⟨_, pt_not pt, fun α h H en σ Q hr er p => k _ _ _ _ _ _ hr er (p.bnd fun d h1 α1 H1 v st1 hr1 r1 p1 => ?_)⟩
  cases r1
  exact p1 _ _ _ Step.refl hr1 rfl
theorem dt_and {a b : Expr} {rest : List Expr} {f g : En → Hh → R Bool} (ha : DT Γ X W a f) (hb : DW Γ X W (.BoolOp .And (b :: rest) pos) g) : DW Γ X W (.BoolOp .And (a :: b :: rest) pos) (fun en h => bnd (f en h) fun k h1 => if k = true then g en h1 else .ok false h1) := by
  obtain ⟨t, pt, k⟩ := ha.ex
  obtain ⟨u, pu, l⟩ := hb.ex
  refine ⟨_, pw_and pt pu, fun α h H en σ Q hr er p => k _ _ _ _ _ _ hr er (p.bnd fun d h1 α1 H1 v st1 hr1 r1 p1 => ?_)⟩
  cases r1
  cases d with
  | true => rw [if_pos rfl] at p1 ⊢; exact l _ _ _ _ _ _ hr1 (er.mono st1) p1
  | false => rw [if_neg (by decide)] at p1 ⊢; exact p1 _ _ _ Step.refl hr1 rfl
theorem dt_or {a b : Expr} {rest : List Expr} {f g : En → Hh → R Bool} (ha : DT Γ X W a f) (hb : DW Γ X W (.BoolOp .Or (b :: rest) pos) g) : DW Γ X W (.BoolOp .Or (a :: b :: rest) pos) (fun en h => bnd (f en h) fun k h1 => if k = true then .ok true h1 else g en h1) := by
  obtain ⟨t, pt, k⟩ := ha.ex
  obtain ⟨u, pu, l⟩ := hb.ex
  refine ⟨_, pw_or pt pu, fun α h H en σ Q hr er p => k _ _ _ _ _ _ hr er (p.bnd fun d h1 α1 H1 v st1 hr1 r1 p1 => ?_)⟩
  cases r1
  cases d with
  | true => rw [if_pos rfl] at p1 ⊢; exact p1 _ _ _ Step.refl hr1 rfl
  | false => rw [if_neg (by decide)] at p1 ⊢; exact l _ _ _ _ _ _ hr1 (er.mono st1) p1
theorem dw_one {a : Expr} {op : BoolOp} {f : En → Hh → R Bool} (ha : DT Γ X W a f) : DW Γ X W (.BoolOp op [a] pos) f := by
  obtain ⟨t, pt, k⟩ := ha.ex
  cases op with
  | And => exact ⟨_, pw_and1 pt, k⟩
  | Or => exact ⟨_, pw_or1 pt, k⟩
theorem DW.dt {a : Expr} {f : En → Hh → R Bool} (h : DW Γ X W a f) : DT Γ X W a f := by
  obtain ⟨t, pt, k⟩ := h.ex
  exact ⟨_, pt.pt, k⟩
theorem de_and {a b : Expr} {rest : List Expr} {f g : En → Hh → R D} (ha : DE Γ X W a f) (hb : DE Γ X W (.BoolOp .And (b :: rest) pos) g) :
    DE Γ X W (.BoolOp .And (a :: b :: rest) pos) (fun en h => bnd (f en h) fun x h1 => bnd (toBool x h1) fun k h2 => if k = true then g en h2 else .ok (.bl false) h2) := by
  obtain ⟨t, pt, k⟩ := ha.ex
  obtain ⟨u, pu, l⟩ := hb.ex
  refine ⟨_, pe_and pt pu, fun α h H en σ Q hr er p => k _ _ _ _ _ _ hr er (p.bnd fun d h1 α1 H1 v st1 hr1 r1 p1 => ?_)⟩
  cases r1 <;> first | exact False.elim p1 | skip
  rename_i kk
  refine ⟨kk, rfl, ?_⟩
  have p2 : Pst Γ (RV Γ) α1 H1 (if kk = true then g en h1 else .ok (.bl false) h1) Q (fun c d H' => W c d σ H') := p1
  cases kk with
  | true => rw [if_pos rfl] at p2 ⊢; exact l _ _ _ _ _ _ hr1 (er.mono st1) p2
  | false => rw [if_neg (by decide)] at p2 ⊢; exact p2 _ _ _ Step.refl hr1 (.bl _)
theorem de_or {a b : Expr} {rest : List Expr} {f g : En → Hh → R D} (ha : DE Γ X W a f) (hb : DE Γ X W (.BoolOp .Or (b :: rest) pos) g) :
    DE Γ X W (.BoolOp .Or (a :: b :: rest) pos) (fun en h => bnd (f en h) fun x h1 => bnd (toBool x h1) fun k h2 => if k = true then .ok (.bl true) h2 else g en h2) := by
  obtain ⟨t, pt, k⟩ := ha.ex
  obtain ⟨u, pu, l⟩ := hb.ex
  refine ⟨_, pe_or pt pu, fun α h H en σ Q hr er p => k _ _ _ _ _ _ hr er (p.bnd fun d h1 α1 H1 v st1 hr1 r1 p1 => ?_)⟩
  cases r1 <;> first | exact False.elim p1 | skip
  rename_i kk
  refine ⟨kk, rfl, ?_⟩
  have p2 : Pst Γ (RV Γ) α1 H1 (if kk = true then .ok (.bl true) h1 else g en h1) Q (fun c d H' => W c d σ H') := p1
  cases kk with
  | true => rw [if_pos rfl] at p2 ⊢; exact p2 _ _ _ Step.refl hr1 (.bl _)
  | false => rw [if_neg (by decide)] at p2 ⊢; exact l _ _ _ _ _ _ hr1 (er.mono st1) p2
theorem de_one {a : Expr} {op : BoolOp} {f : En → Hh → R D} (ha : DE Γ X W a f) : DE Γ X W (.BoolOp op [a] pos) f := by
  obtain ⟨t, pt, k⟩ := ha.ex
  exact ⟨_, pe_one pt, k⟩
theorem de_not {a : Expr} {f : En → Hh → R D} (ha : DE Γ X W a f) : DE Γ X W (.UnaryOp .Not a pos) (fun en h => bnd (f en h) fun x h1 => bnd (toBool x h1) fun b h2 => .ok (.bl (!b)) h2) := by
  obtain ⟨t, pt, k⟩ := ha.ex
  refine ⟨_, pe_not pt, fun α h H en σ Q hr er p => k _ _ _ _ _ _ hr er (p.bnd fun d h1 α1 H1 v st1 hr1 r1 p1 => ?_)⟩
  cases r1 <;> first | exact False.elim p1 | skip
  rename_i kk
  have p2 : Pst Γ (RV Γ) α1 H1 (.ok (.bl (!kk)) h1) Q (fun c d H' => W c d σ H') := p1
  exact ⟨kk, rfl, p2 _ _ _ Step.refl hr1 (.bl _)⟩
theorem de_ite {c a b : Expr} {w : En → Hh → R Bool} {f g : En → Hh → R D} (hc : DT Γ X W c w) (ha : DE Γ X W a f) (hb : DE Γ X W b g) :
    DE Γ X W (.IfExp c a b pos) (fun en h => bnd (w en h) fun k h1 => if k = true then f en h1 else g en h1) := by
  obtain ⟨z, pz, n⟩ := hc.ex
  obtain ⟨t, pt, k⟩ := ha.ex
  obtain ⟨u, pu, l⟩ := hb.ex
  refine ⟨_, pe_ifExp pz pt pu, fun α h H en σ Q hr er p => n _ _ _ _ _ _ hr er (p.bnd fun d h1 α1 H1 v st1 hr1 r1 p1 => ?_)⟩
  cases r1
  cases d with
  | true => rw [if_pos rfl] at p1 ⊢; exact k _ _ _ _ _ _ hr1 (er.mono st1) p1
  | false => rw [if_neg (by decide)] at p1 ⊢; exact l _ _ _ _ _ _ hr1 (er.mono st1) p1
theorem df_ite {c a b : Expr} {w : En → Hh → R Bool} {f g : En → Hh → R (List D)} (hc : DT Γ X W c w) (ha : DF Γ X W a f) (hb : DF Γ X W b g) :
    DF Γ X W (.IfExp c a b pos) (fun en h => bnd (w en h) fun k h1 => if k = true then f en h1 else g en h1) := by
  obtain ⟨z, pz, n⟩ := hc.ex
  obtain ⟨t, pt, k⟩ := ha.ex
  obtain ⟨u, pu, l⟩ := hb.ex
  refine ⟨_, pe_ifExp pz pt pu, fun α h H en σ Q hr er p => n _ _ _ _ _ _ hr er (p.bnd fun d h1 α1 H1 v st1 hr1 r1 p1 => ?_)⟩
  cases r1
  cases d with
  | true => rw [if_pos rfl] at p1 ⊢; exact k _ _ _ _ _ _ hr1 (er.mono st1) p1
  | false => rw [if_neg (by decide)] at p1 ⊢; exact l _ _ _ _ _ _ hr1 (er.mono st1) p1
/-! ### subscripts -/
theorem ix_post (hK : X.K = Γ.K) {α : Al} {h : Hh} {H : Hp} {x y : V} {dx dy : D} {Q : V → Hp → Prop} {E : XK} (hr : HR Γ.K α h H) (rx : RepB Γ.K α H dx x) (ry : Rep Γ.K α H dy y) (p : Pst Γ (RV Γ) α H (ixOp dx dy h) Q E) : rIx X.K x y H Q := by
  cases ry <;> first | (cases dx <;> exact False.elim p) | skip
  rename_i i
  have key : Pst Γ (RV Γ) α H (optR ((seqOf h dx).bind (fun ds => L2.atI ds i)) fun d => .ok d h) Q E → rIx X.K x (.int i) H Q := fun p' => by
    obtain ⟨d, e, p'⟩ := Pst.opt p'
    obtain ⟨ds, e1, q⟩ := Option.bind_eq_some_iff.mp e
    obtain ⟨a, vs, rfl, s, rs⟩ := hr.seqB rx e1
    obtain ⟨v, ev, rv⟩ := rs.atI q
    exact .inl ⟨a, vs, i, v, rfl, rfl, by rw [hK]; exact s, ev, p' _ _ _ Step.refl hr rv⟩
  cases dx with
  | tup ds =>
    cases rx with | val rx =>
    cases rx with | @tup a vs _ s rs =>
    have p' : Pst Γ (RV Γ) α H (optR (L2.atI ds i) fun d => .ok d h) Q E := p
    obtain ⟨d, q, p'⟩ := Pst.opt p'
    obtain ⟨v, ev, rv⟩ := rs.atI q
    exact .inr (.inl ⟨a, vs, i, v, rfl, rfl, by rw [hK]; exact s, ev, p' _ _ _ Step.refl hr rv⟩)
  | _ => exact key p
theorem de_ix {a b : Expr} {f g : En → Hh → R D} (hK : X.K = Γ.K) (hp : PlainIx b) (ha : DB Γ X W a f) (hb : DE Γ X W b g) : DE Γ X W (.Subscript a b pos) (fun en h => bnd (f en h) fun x h1 => bnd (g en h1) fun y h2 => ixOp x y h2) := by
  obtain ⟨t, pt, k⟩ := ha.ex
  obtain ⟨u, pu, l⟩ := hb.ex
  refine ⟨_, pe_ix ix_seq pt pu hp, fun α h H en σ Q hr er p => k _ _ _ _ _ _ hr er (p.bnd fun d h1 α1 H1 v st1 hr1 r1 p1 => ?_)⟩
  refine l _ _ _ _ _ _ hr1 (er.mono st1) (p1.bnd fun ds h2 α2 H2 vs st2 hr2 r2 p2 => ?_)
  exact ix_post hK hr2 (r1.mono st2) r2 p2
theorem do_none : DO Γ X W none (fun _ h => .ok none h) := ⟨_, po_none, fun _ _ _ _ _ _ hr _ p => p _ _ _ Step.refl hr rfl⟩
theorem do_some {e : Expr} {f : En → Hh → R D} (he : DE Γ X W e f) : DO Γ X W (some e) (fun en h => bnd (f en h) fun d h1 => bnd (toInt d h1) fun i h2 => .ok (some i) h2) := by
  obtain ⟨t, pt, k⟩ := he.ex
  refine ⟨_, po_some pt, fun α h H en σ Q hr er p => k _ _ _ _ _ _ hr er (p.bnd fun d h1 α1 H1 v st1 hr1 r1 p1 => ?_)⟩
  cases r1 <;> first | exact False.elim p1 | skip
  rename_i i
  have p2 : Pst Γ REq α1 H1 (.ok (some i) h1) Q (fun c d H' => W c d σ H') := p1
  exact ⟨i, rfl, p2 _ _ _ Step.refl hr1 rfl⟩
theorem cut_whole {α : Type} (ds : List α) (lo hi : Option Int) (h : HT.sIx ds.length 0 lo = 0 ∧ HT.sIx ds.length ds.length hi = ds.length) : (ds.drop (HT.sIx ds.length 0 lo)).take (HT.sIx ds.length ds.length hi - HT.sIx ds.length 0 lo) = ds := by
  rw [h.1, h.2, List.drop_zero, Nat.sub_zero, List.take_length]
theorem de_sl {a : Expr} {lo hi : Option Expr} {p2 : Pos} {f : En → Hh → R D} {g w : En → Hh → R (Option Int)} (hK : X.K = Γ.K) (ha : DB Γ X W a f) (hl : DO Γ X W lo g) (hh : DO Γ X W hi w) :
    DE Γ X W (.Subscript a (.Slice lo hi none p2) pos) (fun en h => bnd (f en h) fun x h1 => bnd (g en h1) fun l h2 => bnd (w en h2) fun u h3 => slOp x l u h3) := by
  obtain ⟨t, pt, k⟩ := ha.ex
  obtain ⟨u, pu, l⟩ := hl.ex
  obtain ⟨z, pz, n⟩ := hh.ex
  refine ⟨_, pe_slice (sl_list.or sl_tupA) pt pu pz, fun α h H en σ Q hr er p => k _ _ _ _ _ _ hr er (p.bnd fun d h1 α1 H1 v st1 hr1 r1 p1 => ?_)⟩
  refine l _ _ _ _ _ _ hr1 (er.mono st1) (p1.bnd fun lo' h2 α2 H2 _ st2 hr2 r2 p2 => ?_)
  cases r2
  refine n _ _ _ _ _ _ hr2 ((er.mono st1).mono st2) (p2.bnd fun hi' h3 α3 H3 _ st3 hr3 r3 p3 => ?_)
  cases r3
  have rd := (r1.mono st2).mono st3
  have key : Pst Γ (RV Γ) α3 H3 (optR (seqOf h3 d) fun ds => .ok (.lst (cutD ds lo' hi')) h3) Q (fun c d H' => W c d σ H') → rSlL X.K v lo' hi' H3 Q := fun p' => by
    obtain ⟨ds, e, p'⟩ := Pst.opt p'
    obtain ⟨b, vs, rfl, s, rs⟩ := hr3.seqB rd e
    refine ⟨b, vs, rfl, by rw [hK]; exact s, fun q hq => ?_⟩
    obtain ⟨s1, s2, s3⟩ := new_lst hr3 hq (rs.cut lo' hi')
    exact p' _ _ _ s1 s2 s3
  cases d with
  | tup ds =>
    cases rd with | val rd =>
    cases rd with | @tup b vs _ s rs =>
    refine .inr ⟨b, vs, rfl, by rw [hK]; exact s, fun hw => ?_, fun _ q hq => ?_⟩
    · have p' : Pst Γ (RV Γ) α3 H3 (.ok (.tup (cutD ds lo' hi')) h3) Q (fun c d H' => W c d σ H') := p3
      refine p' _ _ _ Step.refl hr3 ?_
      have e : cutD ds lo' hi' = ds := by
        unfold cutD
        exact cut_whole ds lo' hi' (by rw [rs.length]; exact hw)
      rw [e]
      exact .tup s rs
    · have p' : Pst Γ (RV Γ) α3 H3 (.ok (.tup (cutD ds lo' hi')) h3) Q (fun c d H' => W c d σ H') := p3
      exact p' _ _ _ (Step.other hq) (hr3.other hq) (.tup (SqT.of upd_same) ((rs.cut lo' hi').mono (Step.other hq)))
  | _ => exact .inl (key p3)
end
end PD

set_option Elab.async false
set_option linter.all false
set_option maxRecDepth 100000
set_option maxHeartbeats 1000000
/-! Data with empty dicts in them are shown. -/
namespace PD
open PySem PySem.Spec PyProof.Rows L2
mutual
inductive RdE (h : Heap) : Value → PyData → Prop
  | none : RdE h .none .none
  | bool (b) : RdE h (.bool b) (.bool b)
  | int (i t) : RdE h (.int i t) (.int i)
  | str (x t) : RdE h (.str x t) (.str x)
  | lst {q o vs n xs} : h.get? q = some o → o.cls = .type "list" → o.data = .seq vs n → RdEs h vs.toList xs → RdE h (.ref q) (.list xs)
  | tup {q o vs n xs} : h.get? q = some o → o.cls = .type "tuple" → o.data = .seq vs n → RdEs h vs.toList xs → RdE h (.ref q) (.tuple xs)
  | emp {q o n} : h.get? q = some o → o.cls = .type "dict" → o.data = .dict #[] n → (q == sysModules) = false → RdE h (.ref q) (.dict [])
inductive RdEs (h : Heap) : List Value → List PyData → Prop
  | nil : RdEs h [] []
  | cons {v vs d ds} : RdE h v d → RdEs h vs ds → RdEs h (v :: vs) (d :: ds)
end
section
variable {h : Heap}
mutual
theorem RdE.reads : ∀ {v : Value} {d : PyData}, RdE h v d → ∃ as, Reads h v d as
  | _, _, .none => ⟨_, .none⟩
  | _, _, .bool b => ⟨_, .bool b⟩
  | _, _, .int i t => ⟨_, .int i t⟩
  | _, _, .str x t => ⟨_, .str x t⟩
  | _, _, .lst h1 h2 h3 r => let ⟨_, q⟩ := RdEs.reads r; ⟨_, .list h1 h2 h3 q⟩
  | _, _, .tup h1 h2 h3 r => let ⟨_, q⟩ := RdEs.reads r; ⟨_, .tuple h1 h2 h3 q⟩
  | _, _, .emp h1 h2 h3 _ => ⟨_, .dict h1 h2 h3 .nil .nil⟩
theorem RdEs.reads : ∀ {vs : List Value} {ds : List PyData}, RdEs h vs ds → ∃ as, ReadsAll h vs ds as
  | _, _, .nil => ⟨_, .nil⟩
  | _, _, .cons r rs => let ⟨_, q⟩ := RdE.reads r; let ⟨_, qs⟩ := RdEs.reads rs; ⟨_, .cons q qs⟩
end
/-- how a value's text comes about: bs are the containers on the way -/
def Way (P : Program) (w : World) (h : Heap) (v : Value) (d : PyData) : Prop := ∃ bs, ReadAtMost h d.depth bs ∧ ReprK P w bs h d.depth v d.shown
def Ways (P : Program) (w : World) (h : Heap) (vs : List Value) (ds : List PyData) : Prop := ∃ bs, ReadAtMost h (PyData.depthAll ds) bs ∧ ReprAllK P w bs h (PyData.depthAll ds) vs (PyData.shownAll ds)
theorem noBs (n : Nat) : ReadAtMost h n [] := fun _ z => nomatch z
variable {P : Program} {w : World}
mutual
theorem RdE.way : ∀ {v : Value} {d : PyData}, RdE h v d → d.showable = true → d.shown.length ≤ sizeLine → Way P w h v d
  | _, _, .none, _, _ => ⟨[], noBs _, by simp only [PyData.shown]; exact .of_is ReprIs.none _ _ _⟩
  | _, _, .bool b, _, _ => ⟨[], noBs _, by simp only [PyData.shown]; exact .of_is (ReprIs.bool b) _ _ _⟩
  | _, _, .int i t, hs, _ => ⟨[], noBs _, by simp only [PyData.shown]; exact .of_is (ReprIs.int t (by simpa [PyData.showable] using hs)) _ _ _⟩
  | _, _, .str x t, _, z => ⟨[], noBs _, by simp only [PyData.shown]; exact .of_is (ReprIs.str x t (by simpa only [PyData.shown] using z)) _ _ _⟩
  | _, _, .lst (q := q) (vs := vs) (xs := xs) h1 h2 h3 r, hs, z => by
    have z' : (listText (PyData.shownAll xs)).length ≤ sizeLine := by simpa only [PyData.shown] using z
    obtain ⟨bs, hb, hk⟩ := RdEs.way r (by simpa [PyData.showable] using hs) fun t ht => Nat.le_trans (listText_mem_le ht) z'
    obtain ⟨as, rr⟩ := RdE.reads (.lst h1 h2 h3 r)
    have ne : q ∉ bs := not_mem_of_deeper rr (by simp only [PyData.depth]; omega) hb
    refine ⟨q :: bs, ReadAtMost.cons rr (by simp only [PyData.depth]; omega) hb, ?_⟩
    simp only [PyData.depth, PyData.shown]
    obtain ⟨l⟩ := vs
    cases l with
    | nil =>
      have r' : RdEs h [] xs := r
      cases r'
      simp only [PyData.shownAll, listText_nil]
      exact ReprK.listEmpty h1 h2 h3
    | cons x l => exact ReprK.list h1 h2 h3 ne (by simpa using hk.length_eq) fun i y e => hk.item i y (by simpa using e)
  | _, _, .tup (q := q) (xs := xs) h1 h2 h3 r, hs, z => by
    have z' : (tupleText (PyData.shownAll xs)).length ≤ sizeLine := by simpa only [PyData.shown] using z
    obtain ⟨bs, hb, hk⟩ := RdEs.way r (by simpa [PyData.showable] using hs) fun t ht => Nat.le_trans (tupleText_mem_le ht) z'
    obtain ⟨as, rr⟩ := RdE.reads (.tup h1 h2 h3 r)
    have ne : q ∉ bs := not_mem_of_deeper rr (by simp only [PyData.depth]; omega) hb
    refine ⟨q :: bs, ReadAtMost.cons rr (by simp only [PyData.depth]; omega) hb, ?_⟩
    simp only [PyData.depth, PyData.shown]
    exact ReprK.tuple h1 h2 h3 ne hk
  | _, _, .emp (q := q) h1 h2 h3 h4, hs, z => by
    obtain ⟨as, rr⟩ := RdE.reads (.emp h1 h2 h3 h4)
    refine ⟨[q], ReadAtMost.cons rr (Nat.le_refl _) (noBs _), ?_⟩
    have e : (PyData.dict []).depth = 0 + 1 := by simp only [PyData.depth, PyData.depthKv]
    rw [e]
    simp only [PyData.shown, PyData.shownKv]
    exact ReprK.dict h1 h2 h3 h4 (fun z => nomatch z) .nil
theorem RdEs.way : ∀ {vs : List Value} {ds : List PyData}, RdEs h vs ds → PyData.showableAll ds = true → (∀ t ∈ PyData.shownAll ds, t.length ≤ sizeLine) → Ways P w h vs ds
  | _, _, .nil, _, _ => ⟨[], noBs _, by simp only [PyData.shownAll]; exact .nil⟩
  | _, _, .cons (d := d) (ds := ds) r rs, hs, z => by
    have hs' : d.showable = true ∧ PyData.showableAll ds = true := by simpa [PyData.showableAll] using hs
    obtain ⟨b1, hb1, k1⟩ := RdE.way r hs'.1 (z _ (by simp only [PyData.shownAll]; exact List.mem_cons_self ..))
    obtain ⟨b2, hb2, k2⟩ := RdEs.way rs hs'.2 fun t ht => z t (by simp only [PyData.shownAll]; exact List.mem_cons_of_mem _ ht)
    have e : PyData.depthAll (d :: ds) = max d.depth (PyData.depthAll ds) := by simp only [PyData.depthAll]
    refine ⟨b1 ++ b2, ?_, ?_⟩
    · rw [e]
      exact (hb1.mono (Nat.le_max_left ..)).append (hb2.mono (Nat.le_max_right ..))
    · rw [e]
      simp only [PyData.shownAll]
      exact .cons ((k1.more fun b hb => List.mem_append_left _ hb).level_le (Nat.le_max_left ..)) (k2.more_le (fun b hb => List.mem_append_right _ hb) (Nat.le_max_right ..))
end
/-- repr of a container -/
theorem repr_rdE {A : Around} {E : Value → Shared → Prop} {s : Shared} {Q : Value → Shared → Prop} {a : Addr} {d : PyData} (r : RdE s.heap (.ref a) d) (hs : d.showable = true) (hg : A.guards = some []) (hu : A.units + (d.depth + 1) < cLine)
    (hQ : ∀ h' u tk, (∀ b o, s.heap.get? b = some o → h'.get? b = some o) → Q (.str d.shown u) { s with heap := h', toks := tk }) (z : d.shown.length ≤ sizeLine) : wpAny (model P w) A (call (.builtin "repr") [.ref a]) Q E s := by
  have r0 := r
  cases r with
  | @lst _ o vs n xs h1 h2 h3 rs =>
    have z' : (listText (PyData.shownAll xs)).length ≤ sizeLine := by simpa only [PyData.shown] using z
    obtain ⟨bs, hb, hk⟩ := RdEs.way (P := P) (w := w) rs (by simpa [PyData.showable] using hs) fun t ht => Nat.le_trans (listText_mem_le ht) z'
    obtain ⟨as, rr⟩ := r0.reads
    have ne : a ∉ bs := not_mem_of_deeper rr (by simp only [PyData.depth]; omega) hb
    simp only [PyData.depth] at hu
    simp only [PyData.shown] at hQ
    refine call_repr_slot (by omega) ⟨o, h1, h2⟩ F.slot_list_repr.toG ?_
    obtain ⟨l⟩ := vs
    cases l with
    | nil =>
      have r' : RdEs s.heap [] xs := rs
      cases r'
      simp only [PyData.shownAll, listText_nil] at hQ
      exact call_list_repr_empty ⟨o, h1, h2⟩ h1 h3 ⟨_, _, rfl, hQ s.heap _ _ fun _ _ e => e⟩
    | cons x l =>
      exact call_list_reprK h1 h2 h3 ne (by simpa using hk.length_eq) (fun i y e => hk.item i y (by simpa using e)) hg (fun b _ => Clear.nil b) (by show A.units + 1 + _ < cLine; omega) (fun _ _ e => e) (fun h' u tk k => ⟨_, _, rfl, hQ h' u tk k⟩) z'
  | @tup _ o vs n xs h1 h2 h3 rs =>
    have z' : (tupleText (PyData.shownAll xs)).length ≤ sizeLine := by simpa only [PyData.shown] using z
    obtain ⟨bs, hb, hk⟩ := RdEs.way (P := P) (w := w) rs (by simpa [PyData.showable] using hs) fun t ht => Nat.le_trans (tupleText_mem_le ht) z'
    obtain ⟨as, rr⟩ := r0.reads
    have ne : a ∉ bs := not_mem_of_deeper rr (by simp only [PyData.depth]; omega) hb
    simp only [PyData.depth] at hu
    simp only [PyData.shown] at hQ
    refine call_repr_slot (by omega) ⟨o, h1, h2⟩ F.slot_tuple_repr ?_
    exact call_tuple_reprK h1 h2 h3 ne hk hg (fun b _ => Clear.nil b) (by show A.units + 1 + _ < cLine; omega) (fun _ _ e => e) (fun h' u tk k => ⟨_, _, rfl, hQ h' u tk k⟩) z'
  | @emp _ o n h1 h2 h3 h4 =>
    simp only [PyData.depth, PyData.depthKv] at hu
    simp only [PyData.shown, PyData.shownKv] at hQ z
    refine call_repr_slot (by omega) ⟨o, h1, h2⟩ F.slot_dict_repr ?_
    exact call_dict_reprK (as := []) (d := 0) h1 h2 h3 h4 (fun z => nomatch z) .nil hg (fun b _ => Clear.nil b) (by show A.units + 1 + _ < cLine; omega) (fun _ _ e => e) (fun h' u tk k => ⟨_, _, rfl, hQ h' u tk k⟩) z
end
/-! ### our values -/
mutual
inductive DpE (K : PySem.W.Frag) (H : Hp) : V → PyData → Prop
  | non : DpE K H .non .none
  | bl (b : Bool) : DpE K H (.bl b) (.bool b)
  | int (i : Int) : DpE K H (.int i) (.int i)
  | str (x : Str) : DpE K H (.str x) (.str x)
  | lst {a : Addr} {xs : List V} {ds : List PyData} : SqL K H a xs → DpEs K H xs ds → DpE K H (.ref a) (.list ds)
  | tup {a : Addr} {xs : List V} {ds : List PyData} : SqT K H a xs → DpEs K H xs ds → DpE K H (.ref a) (.tuple ds)
  | emp {a : Addr} : H a = some (.dK []) → DpE K H (.ref a) (.dict [])
inductive DpEs (K : PySem.W.Frag) (H : Hp) : List V → List PyData → Prop
  | nil : DpEs K H [] []
  | cons {v : V} {vs : List V} {d : PyData} {ds : List PyData} : DpE K H v d → DpEs K H vs ds → DpEs K H (v :: vs) (d :: ds)
end
section
variable {X : Cx} {pins : List (Addr × Obj)} {σ : L2.St} {H : Hp} {s : Shared}
mutual
theorem DpE.rd (I : Inv X pins σ H s) : ∀ (d : PyData) (v : V) (u : Value), DpE X.K H v d → RelV v u → RdE s.heap u d
  | .none, _, _, h, r => by cases h; cases r; exact .none
  | .bool b, _, _, h, r => by cases h; cases r; exact .bool b
  | .int i, _, _, h, r => by cases h; obtain ⟨t, rfl⟩ := r; exact .int i t
  | .str x, _, _, h, r => by cases h; obtain ⟨t, rfl⟩ := r; exact .str x t
  | .list ds, _, _, h, r => by
    cases h with
    | lst hs ha =>
      cases r
      obtain ⟨its, rv, ⟨o, n, ho, hc, _, hd⟩, _⟩ := I.list hs
      exact .lst ho hc hd (DpEs.rd I ds _ its ha rv)
  | .tuple ds, _, _, h, r => by
    cases h with
    | tup hs ha =>
      cases r
      obtain ⟨its, rv, ⟨o, ho, hc, n, hd⟩, _⟩ := I.tuple hs
      exact .tup ho hc hd (DpEs.rd I ds _ its ha rv)
  | .dict kvs, _, _, h, r => by
    cases h with
    | emp e =>
      cases r
      obtain ⟨_, sm, vs, kv, o, es, ep, ho, ex, hd, _, pr, _⟩ := dk_of I.hok e
      cases kv
      have e0 : es = #[] := by
        obtain ⟨l⟩ := es
        cases pr
        rfl
      subst e0
      exact .emp ho ex.1 hd sm
theorem DpEs.rd (I : Inv X pins σ H s) : ∀ (ds : List PyData) (vs : List V) (us : List Value), DpEs X.K H vs ds → Vals vs us → RdEs s.heap us ds
  | [], _, _, h, r => by cases h; cases r; exact .nil
  | d :: ds, _, _, h, r => by
    cases h with
    | cons h1 h2 =>
      cases r with
      | cons r1 r2 => exact .cons (DpE.rd I d _ _ h1 r1) (DpEs.rd I ds _ _ h2 r2)
end
end
theorem allO_dpE {K : PySem.W.Frag} {α : Al} {H : Hp} {f : D → Option PyData} (ih : ∀ d p v, f d = some p → Rep K α H d v → DpE K H v p) :
    ∀ {ds : List D} {ps : List PyData} {vs : List V}, allO f ds = some ps → Reps K α H ds vs → DpEs K H vs ps
  | [], ps, vs, h, r => by
    cases r
    cases h
    exact .nil
  | d :: ds, ps, vs, h, r => by
    cases r with
    | cons r rs =>
      unfold allO at h
      cases q1 : f d with
      | none => rw [q1] at h; cases h
      | some p =>
        cases q2 : allO f ds with
        | none => rw [q1, q2] at h; cases h
        | some ps' =>
          rw [q1, q2] at h
          cases h
          exact .cons (ih d p _ q1 r) (allO_dpE ih q2 rs)
theorem dpEs_ints {K : PySem.W.Frag} {H : Hp} : ∀ ns : List Int, DpEs K H (ns.map V.int) (ns.map PyData.int)
  | [] => .nil
  | i :: r => .cons (.int i) (dpEs_ints r)
theorem toPyE_dp {K : PySem.W.Frag} {α : Al} {h : Hh} {H : Hp} (hr : HR K α h H) : ∀ (n : Nat) (d : D) (p : PyData) (v : V), toPyE n h d = some p → Rep K α H d v → DpE K H v p
  | 0, _, _, _, h, _ => by cases h
  | n + 1, d, p, v, hp, r => by
    have ih := toPyE_dp hr n
    cases r with
    | non => cases hp; exact .non
    | bl b => cases hp; exact .bl b
    | int b => cases hp; exact .int b
    | str b => cases hp; exact .str b
    | @tup a vs ds s rs =>
      unfold toPyE at hp
      cases q : allO (toPyE n h) ds with
      | none => rw [q] at hp; cases hp
      | some ps =>
        rw [q] at hp
        cases hp
        exact .tup s (allO_dpE ih q rs)
    | @lst a vs ds e _ _ _ rs =>
      unfold toPyE at hp
      cases q : allO (toPyE n h) ds with
      | none => rw [q] at hp; cases hp
      | some ps =>
        rw [q] at hp
        cases hp
        exact .lst (SqL.of e) (allO_dpE ih q rs)
    | @ref m a ha =>
      unfold toPyE at hp
      cases q1 : lstOf h m with
      | none => rw [q1] at hp; cases hp
      | some ds =>
        rw [q1] at hp
        obtain ⟨vs, e, rs⟩ := hr.lst ha (lstOf_some q1)
        cases q : allO (toPyE n h) ds with
        | none =>
          rw [Option.bind_some, q] at hp
          cases hp
        | some ps =>
          rw [Option.bind_some, q] at hp
          cases hp
          exact .lst (SqL.of e) (allO_dpE ih q rs)
    | scr hs =>
      cases hp
      exact .lst hs.sq (dpEs_ints _)
    | emp e _ _ _ =>
      cases hp
      exact .emp e
theorem toPyE_dpB {K : PySem.W.Frag} {α : Al} {h : Hh} {H : Hp} (hr : HR K α h H) (n : Nat) (d : D) (p : PyData) (v : V) (hp : toPyE n h d = some p) (r : RepB K α H d v) : DpE K H v p := by
  cases r with
  | val r => exact toPyE_dp hr n d p v hp r
  | @own a vs ds e _ _ rs =>
    cases n with
    | zero => cases hp
    | succ n =>
      unfold toPyE at hp
      cases q : allO (toPyE n h) ds with
      | none => rw [q] at hp; cases hp
      | some ps =>
        rw [q] at hp
        cases hp
        exact .lst (SqL.of e) (allO_dpE (toPyE_dp hr n) q rs)
end PD

set_option Elab.async false
set_option linter.all false
set_option maxRecDepth 100000
set_option maxHeartbeats 1000000
namespace PD
open PySem PySem.Spec PyProof.Rows L2
section
variable {Γ : Wd} {X : Cx} {W : WX} {pos p : Pos}
/-! ### built-in functions of one argument -/
def biName : Bi → Str
  | .len => "len" | .abs => "abs" | .int => "int" | .list => "list" | .tuple => "tuple" | .all => "all" | .any => "any" | .sum => "sum" | .repr => "repr"
/-- a call by values -/
def CallS (Γ : Wd) (r : List V → Hp → VK → Prop) (b : Bi) : Prop := ∀ α h H x dx Q E, HR Γ.K α h H → RepB Γ.K α H dx x → Pst Γ (RV Γ) α H (biOp b dx h) Q E → r [x] H Q
theorem de_call1B {id : String} {r : List V → Hp → VK → Prop} {b : Bi} {x : Str} {e : Expr} {f : En → Hh → R D} (hc : CallR X (.builtin id) r) (cs : CallS Γ r b) (hg : Gl X x) (hm : X.mg x = none) (hv : bootBuiltins x = some (.builtin id)) (hn : x ≠ "__name__") (hdb : (x == ("__debug__" : Str)) = false)
    (hs : star e = false) (he : DB Γ X W e f) : DE Γ X W (.Call (.Name x p) [e] [] pos) (fun en h => bnd (f en h) (biOp b)) := by
  obtain ⟨t, pt, k⟩ := he.ex
  refine ⟨_, pe_callB hc hg hm hv (pa_cons pt pa_nil (starEach_cons hs)) hn hdb (starEach_cons hs) rfl, fun α h H en σ Q hr er p => k _ _ _ _ _ _ hr er (p.bnd fun d h1 α1 H1 v st1 hr1 r1 p1 => ?_)⟩
  exact cs _ _ _ _ _ _ _ hr1 r1 p1
theorem de_call1T {id : String} {r : List V → Hp → VK → Prop} {b : Bi} {x : Str} {e : Expr} {f : En → Hh → R D} (hc : CallR X (.type id) r) (cs : CallS Γ r b) (hg : Gl X x) (hm : X.mg x = none) (hv : bootBuiltins x = some (.type id)) (hn : x ≠ "__name__") (hdb : (x == ("__debug__" : Str)) = false)
    (hs : star e = false) (he : DB Γ X W e f) : DE Γ X W (.Call (.Name x p) [e] [] pos) (fun en h => bnd (f en h) (biOp b)) := by
  obtain ⟨t, pt, k⟩ := he.ex
  refine ⟨_, pe_callTy hc hg hm hv (pa_cons pt pa_nil (starEach_cons hs)) hn hdb (starEach_cons hs) rfl, fun α h H en σ Q hr er p => k _ _ _ _ _ _ hr er (p.bnd fun d h1 α1 H1 v st1 hr1 r1 p1 => ?_)⟩
  exact cs _ _ _ _ _ _ _ hr1 r1 p1
theorem seq_post {α : Al} {h : Hh} {H : Hp} {x : V} {dx : D} {Q : V → Hp → Prop} {E : XK} {g : List D → R D} (hr : HR Γ.K α h H) (rx : RepB Γ.K α H dx x) (p : Pst Γ (RV Γ) α H (optR (seqOf h dx) g) Q E) :
    ∃ a vs ds, x = .ref a ∧ seqOf h dx = some ds ∧ SqL Γ.K H a vs ∧ Reps Γ.K α H ds vs ∧ Pst Γ (RV Γ) α H (g ds) Q E := by
  obtain ⟨ds, e, p⟩ := Pst.opt p
  obtain ⟨a, vs, rfl, s, rs⟩ := hr.seqB rx e
  exact ⟨a, vs, ds, rfl, e, s, rs, p⟩
theorem seq_post2 {A : Type} {α : Al} {h : Hh} {H : Hp} {x : V} {dx : D} {Q : V → Hp → Prop} {E : XK} {w : List D → Option A} {g : A → R D} (hr : HR Γ.K α h H) (rx : RepB Γ.K α H dx x) (p : Pst Γ (RV Γ) α H (optR ((seqOf h dx).bind w) g) Q E) :
    ∃ a vs ds y, x = .ref a ∧ w ds = some y ∧ SqL Γ.K H a vs ∧ Reps Γ.K α H ds vs ∧ Pst Γ (RV Γ) α H (g y) Q E := by
  obtain ⟨y, e, p⟩ := Pst.opt p
  obtain ⟨ds, e1, e2⟩ := Option.bind_eq_some_iff.mp e
  obtain ⟨a, vs, rfl, s, rs⟩ := hr.seqB rx e1
  exact ⟨a, vs, ds, y, rfl, e2, s, rs, p⟩
theorem reps_bools {K : PySem.W.Frag} {α : Al} {H : Hp} : ∀ {ds : List D} {bs : List Bool} {vs : List V}, boolsOf ds = some bs → Reps K α H ds vs → vs = bs.map V.bl
  | [], bs, _, h, .nil => by cases h; rfl
  | d :: ds, bs, _, h, .cons r rs => by
    cases d with
    | bl b =>
      unfold boolsOf at h
      cases q : boolsOf ds with
      | none => rw [q] at h; cases h
      | some bs' =>
        rw [q] at h
        cases h
        cases r
        rw [reps_bools q rs]
        rfl
    | _ => cases h
theorem reps_intsOf {K : PySem.W.Frag} {α : Al} {H : Hp} : ∀ {ds : List D} {bs : List Int} {vs : List V}, intsOf ds = some bs → Reps K α H ds vs → vs = bs.map V.int
  | [], bs, _, h, .nil => by cases h; rfl
  | d :: ds, bs, _, h, .cons r rs => by
    cases d with
    | int b =>
      unfold intsOf at h
      cases q : intsOf ds with
      | none => rw [q] at h; cases h
      | some bs' =>
        rw [q] at h
        cases h
        cases r
        rw [reps_intsOf q rs]
        rfl
    | _ => cases h
theorem cs_len (hK : X.K = Γ.K) : CallS Γ (fun xs H Q => ∃ p ys, xs = [.ref p] ∧ (SqL X.K H p ys ∨ SqT X.K H p ys) ∧ Q (.int ys.length) H) .len := fun α h H x dx Q E hr rx p => by
  have key : Pst Γ (RV Γ) α H (optR (seqOf h dx) fun ds => .ok (.int ds.length) h) Q E → ∃ p ys, [x] = [.ref p] ∧ (SqL X.K H p ys ∨ SqT X.K H p ys) ∧ Q (.int ys.length) H := fun p' => by
    obtain ⟨a, vs, ds, rfl, _, s, rs, p''⟩ := seq_post hr rx p'
    refine ⟨a, vs, rfl, .inl (by rw [hK]; exact s), ?_⟩
    rw [← rs.length]
    exact p'' _ _ _ Step.refl hr (.int _)
  cases dx with
  | tup ds =>
    cases rx with | val rx =>
    cases rx with | @tup a vs _ s rs =>
    refine ⟨a, vs, rfl, .inr (by rw [hK]; exact s), ?_⟩
    have p' : Pst Γ (RV Γ) α H (.ok (.int ds.length) h) Q E := p
    rw [← rs.length]
    exact p' _ _ _ Step.refl hr (.int _)
  | _ => exact key p
theorem cs_abs : CallS Γ (fun xs H Q => ∃ i, xs = [.int i] ∧ Q (.int (if i < 0 then -i else i)) H) .abs := fun α h H x dx Q E hr rx p => by
  cases dx <;> first | exact False.elim p | skip
  cases rx with | val rx =>
  cases rx
  exact ⟨_, rfl, p _ _ _ Step.refl hr (.int _)⟩
theorem cs_int : CallS Γ (fun xs H Q => (∃ i, xs = [.int i] ∧ Q (.int i) H) ∨ ∃ k, xs = [.bl k] ∧ Q (.int (if k then 1 else 0)) H) .int := fun α h H x dx Q E hr rx p => by
  cases dx <;> first | exact False.elim p | skip
  · cases rx with | val rx =>
    cases rx
    exact .inr ⟨_, rfl, p _ _ _ Step.refl hr (.int _)⟩
  · cases rx with | val rx =>
    cases rx
    exact .inl ⟨_, rfl, p _ _ _ Step.refl hr (.int _)⟩
theorem items_post {α : Al} {h : Hh} {H : Hp} {x : V} {dx : D} {ds : List D} (hr : HR Γ.K α h H) (rx : RepB Γ.K α H dx x) (e : itemsOf h dx = some ds) : ∃ a vs, x = .ref a ∧ (SqL Γ.K H a vs ∨ SqT Γ.K H a vs) ∧ Reps Γ.K α H ds vs := by
  obtain ⟨a, vs, rfl, s, rs⟩ := hr.itemsB rx e
  refine ⟨a, vs, rfl, ?_, rs⟩
  cases q : isTupD dx with
  | true => rw [q] at s; exact .inr s
  | false => rw [q] at s; exact .inl s
theorem cs_list (hK : X.K = Γ.K) : CallS Γ (fun xs H Q => ∃ p ys, xs = [.ref p] ∧ (SqL X.K H p ys ∨ SqT X.K H p ys) ∧ ∀ l, H l = none → Q (.ref l) (upd H l (.lst ys))) .list := fun α h H x dx Q E hr rx p => by
  have p0 : Pst Γ (RV Γ) α H (optR (itemsOf h dx) fun ds => .ok (.lst ds) h) Q E := by cases dx <;> exact p
  obtain ⟨ds, e, p'⟩ := Pst.opt p0
  obtain ⟨a, vs, rfl, s, rs⟩ := items_post hr rx e
  refine ⟨a, vs, rfl, by rw [hK]; exact s, fun l hl => ?_⟩
  obtain ⟨s1, s2, s3⟩ := new_lst hr hl rs
  exact p' _ _ _ s1 s2 s3
theorem df_add {a b : Expr} {f g : En → Hh → R D} (ha : DB Γ X W a f) (hb : DB Γ X W b g) :
    DF Γ X W (.BinOp a .Add b pos) (fun en h => bnd (f en h) fun x h1 => bnd (g en h1) fun y h2 => addF x y h2) := by
  obtain ⟨t, pt, k⟩ := ha.ex
  obtain ⟨u, pu, l⟩ := hb.ex
  refine ⟨_, pe_op ((op_add.or op_add_str).or (op_catA.or op_cat)) pt pu, fun α h H en σ Q hr er p => k _ _ _ _ _ _ hr er (p.bnd fun d h1 α1 H1 v st1 hr1 r1 p1 => ?_)⟩
  refine l _ _ _ _ _ _ hr1 (er.mono st1) (p1.bnd fun y h2 α2 H2 vs st2 hr2 r2 p2 => ?_)
  have r1' := r1.mono st2
  cases d <;> first | exact False.elim p2 | skip
  cases y <;> first | exact False.elim p2 | skip
  rename_i ds es
  simp only [addF] at p2
  obtain ⟨a, vs, rfl, e1, q1⟩ := r1'.isLst
  obtain ⟨b, ws, rfl, e2, q2⟩ := r2.isLst
  by_cases c : ds.length + es.length ≤ sizeLine
  · rw [if_pos c] at p2
    exact .inr (.inr ⟨_, _, _, _, rfl, rfl, e1, e2, by rw [← q1.length, ← q2.length]; exact c, fun q hq => new_own hr2 hq (q1.append q2) p2⟩)
  · rw [if_neg c] at p2; exact False.elim p2
theorem df_list {x : Str} {e : Expr} {f : En → Hh → R D} (hK : X.K = Γ.K) (hg : Gl X "list") (hm : X.mg "list" = none) (hs : star e = false) (he : DB Γ X W e f) : DF Γ X W (.Call (.Name "list" p) [e] [] pos) (fun en h => bnd (f en h) fun x h1 => optR (itemsOf h1 x) fun ds => .ok ds h1) := by
  obtain ⟨t, pt, k⟩ := he.ex
  refine ⟨_, pe_callTy call_list_of hg hm (by decide +kernel) (pa_cons pt pa_nil (starEach_cons hs)) (by decide) (by decide) (starEach_cons hs) rfl, fun α h H en σ Q hr er p => k _ _ _ _ _ _ hr er (p.bnd fun d h1 α1 H1 v st1 hr1 r1 p1 => ?_)⟩
  obtain ⟨ds, e, p'⟩ := PstF.opt p1
  obtain ⟨a, vs, rfl, s, rs⟩ := items_post hr1 r1 e
  exact ⟨a, vs, rfl, by rw [hK]; exact s, fun l hl => new_own hr1 hl rs p'⟩
theorem cs_tuple (hK : X.K = Γ.K) : CallS Γ (fun xs H Q => ∃ p ys, xs = [.ref p] ∧ ((SqL X.K H p ys ∧ ∀ l, H l = none → Q (.ref l) (upd H l (.tup ys))) ∨ (SqT X.K H p ys ∧ Q (.ref p) H))) .tuple := fun α h H x dx Q E hr rx p => by
  have key : Pst Γ (RV Γ) α H (optR (seqOf h dx) fun ds => .ok (.tup ds) h) Q E → ∃ p ys, [x] = [.ref p] ∧ ((SqL X.K H p ys ∧ ∀ l, H l = none → Q (.ref l) (upd H l (.tup ys))) ∨ (SqT X.K H p ys ∧ Q (.ref p) H)) := fun p' => by
    obtain ⟨a, vs, ds, rfl, _, s, rs, p''⟩ := seq_post hr rx p'
    exact ⟨a, vs, rfl, .inl ⟨by rw [hK]; exact s, fun l hl => p'' _ _ _ (Step.other hl) (hr.other hl) (.tup (SqT.of upd_same) (rs.mono (Step.other hl)))⟩⟩
  cases dx with
  | tup ds =>
    cases rx with | val rx =>
    cases rx with | @tup a vs _ s rs =>
    have p' : Pst Γ (RV Γ) α H (.ok (.tup ds) h) Q E := p
    exact ⟨a, vs, rfl, .inr ⟨by rw [hK]; exact s, p' _ _ _ Step.refl hr (.tup s rs)⟩⟩
  | _ => exact key p
theorem cs_all (hK : X.K = Γ.K) : CallS Γ (rAll X.K) .all := fun α h H x dx Q E hr rx p => by
  have p0 : Pst Γ (RV Γ) α H (optR ((seqOf h dx).bind boolsOf) fun bs => .ok (.bl (bs.all id)) h) Q E := by cases dx <;> exact p
  obtain ⟨a, vs, ds, y, rfl, e, s, rs, p''⟩ := seq_post2 hr rx p0
  rw [reps_bools e rs] at s
  exact ⟨a, y, rfl, by rw [hK]; exact s, p'' _ _ _ Step.refl hr (.bl _)⟩
theorem cs_any (hK : X.K = Γ.K) : CallS Γ (rAny X.K) .any := fun α h H x dx Q E hr rx p => by
  have p0 : Pst Γ (RV Γ) α H (optR ((seqOf h dx).bind boolsOf) fun bs => .ok (.bl (bs.any id)) h) Q E := by cases dx <;> exact p
  obtain ⟨a, vs, ds, y, rfl, e, s, rs, p''⟩ := seq_post2 hr rx p0
  rw [reps_bools e rs] at s
  exact ⟨a, y, rfl, by rw [hK]; exact s, p'' _ _ _ Step.refl hr (.bl _)⟩
theorem cs_sum (hK : X.K = Γ.K) : CallS Γ (rSum X.K) .sum := fun α h H x dx Q E hr rx p => by
  have p0 : Pst Γ (RV Γ) α H (optR ((seqOf h dx).bind intsOf) fun bs => .ok (.int bs.sum) h) Q E := by cases dx <;> exact p
  obtain ⟨a, vs, ds, y, rfl, e, s, rs, p''⟩ := seq_post2 hr rx p0
  rw [reps_intsOf e rs] at s
  exact ⟨a, y, rfl, by rw [hK]; exact s, p'' _ _ _ Step.refl hr (.int _)⟩
theorem call_repr (gd : X.A.guards = some []) (hu : X.A.units + 200 < cLine) : CallR X (.builtin "repr") (fun xs H Q => ∃ x d, xs = [x] ∧ DpE X.K H x d ∧ d.depth ≤ 195 ∧ d.showable = true ∧ d.shown.length ≤ sizeLine ∧ Q (.str d.shown) H) := by
  intro pins s σ H xs us Q I r ⟨x, d, e, dp, dl, hw, hl, q⟩
  subst e
  obtain ⟨u, rfl, rx⟩ := vals1 r
  have rd := DpE.rd I d x u dp rx
  have ok : ∀ h' u tk, (∀ b o, s.heap.get? b = some o → h'.get? b = some o) → EP X pins σ Q (.str d.shown u) { s with heap := h', toks := tk } := fun h' u tk k => ⟨.str _, H, I.kept k, ⟨u, rfl⟩, q⟩
  have ref : ∀ a, u = .ref a → wpAny (model X.prog X.w) X.A (call (.builtin "repr") [u]) (EP X pins σ Q) X.xe s := fun a e => by
    subst e
    exact repr_rdE rd hw gd (by omega) ok hl
  cases rd with
  | none => exact PySem.P.repr_of_none ⟨.str _, H, I.tok _, ⟨_, rfl⟩, q⟩
  | bool b => exact PySem.P.repr_of_bool ⟨.str _, H, I.tok _, ⟨_, rfl⟩, q⟩
  | int i t => exact PySem.P.repr_of_int (by simpa [PyData.showable] using hw) ⟨.str _, H, I.tok _, ⟨_, rfl⟩, q⟩
  | str y t => exact PySem.P.repr_of_str ⟨.str _, H, I.tok _, ⟨_, rfl⟩, q⟩ hl
  | lst => exact ref _ rfl
  | tup => exact ref _ rfl
  | emp => exact ref _ rfl
theorem reprW_some {h : Hh} {x : D} {b : Str} (e : reprW h x = some b) : ∃ n d, toPyE n h x = some d ∧ d.depth ≤ 195 ∧ d.showable = true ∧ d.shown.length ≤ sizeLine ∧ b = d.shown := by
  unfold reprW at e
  cases q2 : toPyE 200 h x with
  | none => rw [q2] at e; cases e
  | some d =>
    rw [q2] at e
    dsimp only at e
    by_cases c : (decide (d.depth ≤ 195) && d.showable && decide (d.shown.length ≤ sizeLine)) = true
    · rw [if_pos c] at e
      cases e
      simp only [Bool.and_eq_true, decide_eq_true_eq] at c
      exact ⟨200, d, q2, c.1.1, c.1.2, c.2, rfl⟩
    · rw [if_neg c] at e; cases e
theorem reprD_some {h : Hh} {x : D} {b : Str} (e : reprD h x = some b) : ∃ n d, toPyE n h x = some d ∧ d.depth ≤ 195 ∧ d.showable = true ∧ d.shown.length ≤ sizeLine ∧ b = d.shown := by
  unfold reprD at e
  cases q : toPyE 66 h x with
  | none => rw [q] at e; exact reprW_some e
  | some d =>
    rw [q] at e
    dsimp only at e
    by_cases c : (decide (d.depth ≤ 64) && d.showable && decide (d.shown.length ≤ sizeLine)) = true
    · rw [if_pos c] at e
      cases e
      simp only [Bool.and_eq_true, decide_eq_true_eq] at c
      exact ⟨66, d, q, by omega, c.1.2, c.2, rfl⟩
    · rw [if_neg c] at e; exact reprW_some e
theorem cs_repr (hK : X.K = Γ.K) : CallS Γ (fun xs H Q => ∃ x d, xs = [x] ∧ DpE X.K H x d ∧ d.depth ≤ 195 ∧ d.showable = true ∧ d.shown.length ≤ sizeLine ∧ Q (.str d.shown) H) .repr := fun α h H x dx Q E hr rx p => by
  have p0 : Pst Γ (RV Γ) α H (optR (reprD h dx) fun b => .ok (.str b) h) Q E := by cases dx <;> exact p
  obtain ⟨b, e, p'⟩ := Pst.opt p0
  obtain ⟨n, d, e1, s1, s2, s3, rfl⟩ := reprD_some e
  exact ⟨x, d, rfl, by rw [hK]; exact toPyE_dpB hr n _ _ _ e1 rx, s1, s2, s3, p' _ _ _ Step.refl hr (.str _)⟩
theorem de_bi {b : Bi} {e : Expr} {f : En → Hh → R D} (hK : X.K = Γ.K) (gd : X.A.guards = some []) (hu : X.A.units + 200 < cLine) (hc : X.calm = true) (hg : Gl X (biName b)) (hm : X.mg (biName b) = none) (hs : star e = false) (he : DB Γ X W e f) :
    DE Γ X W (.Call (.Name (biName b) p) [e] [] pos) (fun en h => bnd (f en h) (biOp b)) := by
  cases b with
  | len => exact de_call1B call_len_seq (cs_len hK) hg hm (by decide +kernel) (by decide) (by decide) hs he
  | abs => exact de_call1B call_abs cs_abs hg hm (by decide +kernel) (by decide) (by decide) hs he
  | int => exact de_call1T call_int1 cs_int hg hm (by decide +kernel) (by decide) (by decide) hs he
  | list => exact de_call1T call_list_of (cs_list hK) hg hm (by decide +kernel) (by decide) (by decide) hs he
  | tuple => exact de_call1T call_tuple_of (cs_tuple hK) hg hm (by decide +kernel) (by decide) (by decide) hs he
  | all => exact de_call1B (cr_all hc) (cs_all hK) hg hm (by decide +kernel) (by decide) (by decide) hs he
  | any => exact de_call1B (cr_any hc) (cs_any hK) hg hm (by decide +kernel) (by decide) (by decide) hs he
  | sum => exact de_call1B (cr_sum hc) (cs_sum hK) hg hm (by decide +kernel) (by decide) (by decide) hs he
  | repr => exact de_call1B (call_repr gd hu) (cs_repr hK) hg hm (by decide +kernel) (by decide) (by decide) hs he
/-! ### isinstance -/
def tyName : Ty → String
  | .int => "int" | .bool => "bool" | .str => "str" | .tuple => "tuple" | .list => "list" | .dict => "dict"
def kdName : Kd → String
  | .non => "NoneType" | .bool => "bool" | .int => "int" | .str => "str" | .tuple => "tuple" | .list => "list" | .odd => "NoneType" | .dict => "dict"
theorem kit_kd (t : Ty) (k : Kd) : kitB (kdName k) (tyName t) = some (isK t k) := by cases t <;> cases k <;> decide +kernel
theorem rep_ty {K : PySem.W.Frag} {α : Al} {h : Hh} {H : Hp} {d : D} {v : V} (hr : HR K α h H) (r : Rep K α H d v) (hn : ∀ n, d = .ref n → ∃ o, h[n]? = some o) : TyX K H v (.type (kdName (if dctB h d = true then .dict else kd d))) := by
  cases r with
  | non => exact .base .non
  | bl b => exact .base (.bl b)
  | int i => exact .base (.int i)
  | str x => exact .base (.str x)
  | @tup a vs ds s rs =>
    rcases s with (s | ⟨o, s⟩) | ⟨o, its, n, e, c, _⟩
    · exact .base (.tup s)
    · exact .fTuple s
    · exact .kTuple e c
  | lst e => exact .base (.lst e)
  | @ref n a ha =>
    obtain ⟨o, ho⟩ := hn n rfl
    cases o with
    | lst ds =>
      obtain ⟨vs, e, _⟩ := hr.lst ha ho
      have hb : dctB h (.ref n) = false := by simp [dctB, dctOf, ho]
      rw [hb]
      exact .base (.lst e)
    | dct ds =>
      obtain ⟨vs, e, _⟩ := hr.obj n a _ ha ho
      have hb : dctB h (.ref n) = true := by simp [dctB, dctOf, ho]
      rw [hb]
      exact .base (.dK e)
  | @scr ns a hs =>
    rcases hs with ⟨o, s⟩ | ⟨o, its, n, e, c, _⟩
    · exact .base (.frz s)
    · exact .kList e c
  | emp e => exact .base (.dK e)
theorem HR.there {K : PySem.W.Frag} {α : Al} {h : Hh} {H : Hp} {d : D} {v : V} (hr : HR K α h H) (r : Rep K α H d v) : ∀ n, d = .ref n → ∃ o, h[n]? = some o := fun n e => by
  subst e
  cases r with
  | ref ha =>
    have hl : n < h.length := by rw [← hr.len]; exact (List.getElem?_eq_some_iff.mp ha).1
    exact ⟨_, List.getElem?_eq_getElem hl⟩
theorem de_isi {t : Ty} {e : Expr} {p2 : Pos} {f : En → Hh → R D} (hK : X.K = Γ.K) (hg : Gl X "isinstance") (hm : X.mg "isinstance" = none) (hg2 : Gl X (Str.ofString (tyName t))) (hm2 : X.mg (Str.ofString (tyName t)) = none) (hs : star e = false) (he : DE Γ X W e f) :
    DE Γ X W (.Call (.Name "isinstance" p) [e, .Name (Str.ofString (tyName t)) p2] [] pos) (fun en h => bnd (f en h) fun x h1 => .ok (.bl (isTyH h1 t x)) h1) := by
  obtain ⟨z, pz, k⟩ := he.ex
  have pty : PE X (.Name (Str.ofString (tyName t)) p2) (tC (.ty (tyName t))) := by
    cases t <;> exact pe_bltn hg2 hm2 (by decide +kernel) rfl (by decide) (by decide)
  refine ⟨_, pe_callB call_isi hg hm (by decide +kernel) (pa_cons pz (pa_cons pty pa_nil rfl) (starEach_cons hs)) (by decide) (by decide) (starEach_cons hs) rfl, fun α h H en σ Q hr er p => k _ _ _ _ _ _ hr er (p.bnd fun d h1 α1 H1 v st1 hr1 r1 p1 => ?_)⟩
  have ty := rep_ty hr1 r1 (hr1.there r1)
  exact ⟨v, .ty (tyName t), .type (kdName (if dctB h1 d = true then .dict else kd d)), .type (tyName t), isTyH h1 t d, rfl, .ty _, by rw [hK]; exact ty, kit_ty (kit_kd t _), p1 _ _ _ Step.refl hr1 (.bl _)⟩
/-! ### iterables -/
def iSeq (K : PySem.W.Frag) (tl : TE) : TI := fun σ H R => tl σ H fun x H1 => ∃ a, x = .ref a ∧ (((∃ xs, SqL K H1 a xs) ∧ R (Itl K a) H1) ∨ ((∃ xs, SqT K H1 a xs) ∧ R (Itt K a) H1))
theorem pi_seq {tg l : Expr} {tl : TE} (hl : PE X l tl) : PI X tg l (iSeq X.K tl) := by
  refine ⟨fun pins s σ H R I h => thn (hl.run pins s σ H _ I h) fun v s1 ⟨x, H1, I1, r1, a, e, q⟩ => ?_⟩
  subst e
  cases r1
  have fp : ∀ b ∈ [s1.heap.objs.size], FpOk X pins H1 b := fun b hb => by
    rw [List.mem_singleton] at hb
    subst hb
    exact I1.fpOk (Nat.le_refl _) (I1.hok.fresh (Nat.le_refl _))
  rcases q with ⟨⟨xs, hq⟩, q⟩ | ⟨⟨xs, hq⟩, q⟩
  · obtain ⟨its, rv, pl, hz⟩ := I1.list hq
    exact wpAny_pyIter_list pl.isList ⟨_, _, _, _, H1, rfl, I1.kept (t' := s1.toks) (fun b o => Heap.get?_push_of_some _), turn_list a _, ⟨_, Heap.get?_push_size _ rfl, rfl, rfl⟩, fp, q⟩
  · obtain ⟨its, rv, pl, hz⟩ := I1.tuple hq
    exact wpAny_pyIter_tuple (show s1.heap.IsTuple a its.toArray from pl) ⟨_, _, _, _, H1, rfl, I1.kept (t' := s1.toks) (fun b o => Heap.get?_push_of_some _), turn_tuple a _, ⟨_, Heap.get?_push_size _ rfl, rfl, rfl⟩, fp, q⟩
theorem itr_tup {α : Al} {H : Hp} {a : Addr} {vs : List V} {ds : List D} (s : SqT Γ.K H a vs) (rs : Reps Γ.K α H ds vs) : ItR Γ α H ds (Itt Γ.K a) := by
  intro α' h' H' st hr i hi
  have s' := st.tup _ _ s
  have rs' := rs.monoE st
  cases e : ds[i]? with
  | none =>
    refine ⟨vs, s', ?_⟩
    rw [← rs'.length]
    exact List.getElem?_eq_none_iff.mp e
  | some d =>
    obtain ⟨v, ev, rv⟩ := rs'.get e
    refine ⟨⟨vs, v, s', ev⟩, fun x H'' y => ?_⟩
    obtain ⟨rfl, fx⟩ := y
    have := fx vs s'
    rw [ev] at this
    cases this
    exact ⟨Step.refl, hr, rv⟩
/-- what stays, as a list or as a tuple -/
def Stay (Γ : Wd) (α : Al) (H : Hp) (k : Bool) (a : Addr) (vs : List V) : Prop := ∀ α' H', Ext Γ.K α H α' H' → sqK k Γ.K H' a vs
theorem itr_lst {α : Al} {H : Hp} {a : Addr} {vs : List V} {ds : List D} (s : Stay Γ α H false a vs) (rs : Reps Γ.K α H ds vs) : ItR Γ α H ds (Itl Γ.K a) := by
  intro α' h' H' st hr i hi
  have s' : SqL Γ.K H' a vs := s _ _ st
  have rs' := rs.monoE st
  cases e : ds[i]? with
  | none =>
    refine ⟨vs, s', ?_⟩
    rw [← rs'.length]
    exact List.getElem?_eq_none_iff.mp e
  | some d =>
    obtain ⟨v, ev, rv⟩ := rs'.get e
    refine ⟨⟨vs, v, s', ev⟩, fun x H'' y => ?_⟩
    obtain ⟨rfl, fx⟩ := y
    have := fx vs s'
    rw [ev] at this
    cases this
    exact ⟨Step.refl, hr, rv⟩
/-- items that nobody writes -/
theorem fix_post {α : Al} {H : Hp} {d : D} {v : V} {ds : List D} (r : Rep Γ.K α H d v) (e : fixOf d = some ds) : ∃ a vs, v = .ref a ∧ Stay Γ α H (isTupD d) a vs ∧ Reps Γ.K α H ds vs := by
  cases r with
  | tup s rs => cases e; exact ⟨_, _, rfl, fun α' H' st => st.tup _ _ s, rs⟩
  | lst q h1 h2 h3 rs => cases e; exact ⟨_, _, rfl, fun α' H' st => SqL.of (st.fz _ _ q h1 h2 h3).1, rs⟩
  | scr s => cases e; exact ⟨_, _, rfl, fun α' H' st => (st.ro _ _ s).sq, reps_ints _⟩
  | _ => cases e
theorem di_seq {tg e : Expr} {f : En → Hh → R D} (hK : X.K = Γ.K) (he : DE Γ X W e f) : DI Γ X W tg e (fun en h => bnd (f en h) seqIt) := by
  obtain ⟨t, pt, k⟩ := he.ex
  refine ⟨_, pi_seq pt, fun α h H en σ Q hr er p => k _ _ _ _ _ _ hr er (p.bnd fun d h1 α1 H1 v st1 hr1 r1 p1 => ?_)⟩
  obtain ⟨ds, e, p1⟩ := Pst.opt p1
  obtain ⟨a, vs, rfl, s, rs⟩ := fix_post r1 e
  have s0 := s _ _ Ext.refl
  rw [hK]
  cases q : isTupD d with
  | true =>
    rw [q] at s s0
    refine ⟨a, rfl, .inr ⟨⟨vs, s0⟩, p1 _ _ _ Step.refl hr1 (itr_tup s0 rs)⟩⟩
  | false =>
    rw [q] at s s0
    refine ⟨a, rfl, .inl ⟨⟨vs, s0⟩, p1 _ _ _ Step.refl hr1 (itr_lst s rs)⟩⟩
theorem rev_at {A : Type} {l : List A} {i : Nat} (h : i < l.length) : l.reverse[i]? = l[l.length - 1 - i]? := by rw [List.getElem?_reverse h]
theorem itr_rev {α : Al} {H : Hp} {a : Addr} {vs : List V} {ds : List D} (s : Stay Γ α H false a vs) (rs : Reps Γ.K α H ds vs) : ItR Γ α H ds.reverse (Itv Γ.K a vs.length) := by
  intro α' h' H' st hr i hi
  have s' : SqL Γ.K H' a vs := s _ _ st
  have rs' := rs.monoE st
  have hl := rs'.length
  cases e : ds.reverse[i]? with
  | none =>
    have := List.getElem?_eq_none_iff.mp e
    rw [List.length_reverse] at this
    show vs.length ≤ i
    omega
  | some d =>
    have hi' : i < ds.length := by
      have := (List.getElem?_eq_some_iff.mp e).1
      rwa [List.length_reverse] at this
    rw [rev_at hi'] at e
    obtain ⟨v, ev, rv⟩ := rs'.get e
    rw [hl] at ev
    refine ⟨⟨by omega, vs, v, s', ev⟩, fun x H'' y => ?_⟩
    obtain ⟨rfl, fx⟩ := y
    have := fx vs s'
    rw [ev] at this
    cases this
    exact ⟨Step.refl, hr, rv⟩
theorem itr_revT {α : Al} {H : Hp} {a : Addr} {vs : List V} {ds : List D} (s : Stay Γ α H true a vs) (rs : Reps Γ.K α H ds vs) : ItR Γ α H ds.reverse (RT.ItvT Γ.K a vs.length) := by
  intro α' h' H' st hr i hi
  have s' : SqT Γ.K H' a vs := s _ _ st
  have rs' := rs.monoE st
  have hl := rs'.length
  cases e : ds.reverse[i]? with
  | none =>
    have := List.getElem?_eq_none_iff.mp e
    rw [List.length_reverse] at this
    show vs.length ≤ i
    omega
  | some d =>
    have hi' : i < ds.length := by
      have := (List.getElem?_eq_some_iff.mp e).1
      rwa [List.length_reverse] at this
    rw [rev_at hi'] at e
    obtain ⟨v, ev, rv⟩ := rs'.get e
    rw [hl] at ev
    refine ⟨⟨by omega, vs, v, s', ev⟩, fun x H'' y => ?_⟩
    obtain ⟨rfl, fx⟩ := y
    have := fx vs s'
    rw [ev] at this
    cases this
    exact ⟨Step.refl, hr, rv⟩
theorem di_rev {tg a : Expr} {f : En → Hh → R D} (hK : X.K = Γ.K) (hg : Gl X "reversed") (hm : X.mg "reversed" = none) (hs : star a = false) (ha : DE Γ X W a f) : DI Γ X W tg (.Call (.Name "reversed" p) [a] [] pos) (fun en h => bnd (f en h) revIt) := by
  obtain ⟨t, pt, k⟩ := ha.ex
  refine ⟨_, RT.pi_revA hg hm pt (starEach_cons hs), fun α h H en σ Q hr er p => k _ _ _ _ _ _ hr er (p.bnd fun d h1 α1 H1 v st1 hr1 r1 p1 => ?_)⟩
  obtain ⟨ds, e, p1⟩ := Pst.opt p1
  obtain ⟨a, vs, rfl, s, rs⟩ := fix_post r1 e
  have s0 := s _ _ Ext.refl
  rw [hK]
  cases q : isTupD d with
  | true =>
    rw [q] at s s0
    exact ⟨a, vs, rfl, .inr ⟨s0, p1 _ _ _ Step.refl hr1 (itr_revT s rs)⟩⟩
  | false =>
    rw [q] at s s0
    exact ⟨a, vs, rfl, .inl ⟨s0, p1 _ _ _ Step.refl hr1 (itr_rev s rs)⟩⟩
/-! ### an empty dict -/
theorem de_emp : DE Γ X W (.Dict [] [] pos) (fun _ h => .ok .emp h) := by
  refine ⟨_, pe_dnewK, fun α h H en σ Q hr er p q hq => ?_⟩
  exact p _ _ _ (Step.other hq) (hr.other hq) (.emp upd_same (hr.fresh hq).1 (hr.fresh hq).2.1 (hr.fresh hq).2.2)
end
end PD

set_option Elab.async false
set_option linter.all false
set_option maxRecDepth 100000
set_option maxHeartbeats 1000000
/-! a[::-1]; max and min of two. -/
namespace PD
open PySem PySem.Spec PyProof.Rows L2
section
variable {prog : Program} {w : World} {A : Around} {E : Value → Shared → Prop} {s : Shared}
theorem adj_rev (n : Nat) : Builtin.Slice.sliceAdjust none none (-1) (n : Int) = ((n : Int) - 1, -1) := rfl
theorem places_rev (n : Nat) : Builtin.Slice.slicePlaces ((n : Int) - 1) (-1) (-1) = n := by
  unfold Builtin.Slice.slicePlaces
  rw [if_neg (by decide)]
  have e : (- -1 : Int) = 1 := by decide
  rw [e, Int.ediv_one]
  split <;> omega
theorem applied_rev {sl : Addr} {vk : Value} {n : Nat} {Q : Int × Int × Nat → Shared → Prop} (hs : s.heap.IsSliceOf sl .none .none vk) (pk : IsPart vk (some (-1))) (z : Q ((n : Int) - 1, -1, n) s) : wpAny (model prog w) A (Builtin.Slice.sliceApplied (.ref sl) (pure (n : Int))) Q E s := by
  obtain ⟨ob, h1, h2, h3⟩ := id hs
  unfold Builtin.Slice.sliceApplied Builtin.Slice.sliceFields
  refine wpAny_bind (wpAny_bind (wpAny_field h1 h3 (x := .none) rfl (wpAny_bind (wpAny_field h1 h3 (x := .none) rfl (wpAny_bind (wpAny_field h1 h3 (x := vk) rfl (wpAny_pure ?_)))))))
  refine wpAny_bind (HT.slicePart_ pk ?_)
  show wpAny _ _ (if ((-1 : Int) == 0) = true then _ else _) _ _ s
  rw [if_neg (by decide)]
  refine wpAny_bind (HT.slicePart_ .none (wpAny_bind (HT.slicePart_ .none (wpAny_bind (wpAny_pure ?_)))))
  show wpAny _ _ (match Builtin.Slice.sliceAdjust none none (-1) (n : Int) with | (lo, hi) => pure (lo, (-1 : Int), Builtin.Slice.slicePlaces lo hi (-1))) _ _ s
  rw [adj_rev n]
  show wpAny _ _ (pure ((n : Int) - 1, (-1 : Int), Builtin.Slice.slicePlaces ((n : Int) - 1) (-1) (-1))) _ _ s
  rw [places_rev]
  exact wpAny_pure z
theorem pick_rev (xs : Array Value) : ((List.range xs.size).filterMap fun (m : Nat) => xs[((xs.size : Int) - 1 + (m : Int) * -1).toNat]?).toArray = xs.toList.reverse.toArray := by
  have e : (List.range xs.size).filterMap (fun (m : Nat) => xs[((xs.size : Int) - 1 + (m : Int) * -1).toNat]?) = ((List.range xs.size).map fun k => xs.size - 1 - k).filterMap (xs[·]?) := by
    rw [List.filterMap_map]
    have cg : ∀ (l : List Nat), (∀ m, m ∈ l → m < xs.size) → l.filterMap (fun (m : Nat) => xs[((xs.size : Int) - 1 + (m : Int) * -1).toNat]?) = l.filterMap ((fun x => xs[x]?) ∘ fun k => xs.size - 1 - k) := by
      intro l
      induction l with
      | nil => intro _; rfl
      | cons m l ih =>
        intro hm
        have h1 := hm m (List.mem_cons_self ..)
        have q : ((xs.size : Int) - 1 + (m : Int) * -1).toNat = xs.size - 1 - m := by omega
        simp only [List.filterMap_cons, q, Function.comp, ih fun x hx => hm x (List.mem_cons_of_mem _ hx)]
    exact cg _ fun m hm => List.mem_range.mp hm
  rw [e, PySem.W.krv_range, List.filterMap_reverse, PySem.W.krv_all]
theorem get_tup_rev {t sl : Addr} {xs : Array Value} {vk : Value} {Q : Value → Shared → Prop} (ht : IsTup s.heap t xs) (hs : s.heap.IsSliceOf sl .none .none vk) (pk : IsPart vk (some (-1)))
    (z : Q (.ref s.heap.objs.size) { s with heap := s.heap.push { cls := .type "tuple", data := .seq xs.toList.reverse.toArray } }) (hz : xs.size ≤ sizeLine) : wpAny (model prog w) A (getItem (.ref t) (.ref sl)) Q E s := by
  have ok : sizeOk (.seq xs.toList.reverse.toArray) := by
    show xs.toList.reverse.toArray.size ≤ sizeLine
    rw [List.size_toArray, List.length_reverse, Array.length_toList]
    exact hz
  obtain ⟨ob, h1, h2, h3⟩ := id hs
  have ty : s.TypeIs (.ref sl) "slice" := ⟨ob, h1, h2⟩
  unfold getItem
  try with_reducible refine wpAny_holding ?_
  first | refine wpAny_bind (wpAny_pure ?_) | skip
  refine wpAny_bind (wpAny_sequenceKey ht.typeIs (by decide) ?_)
  refine wpAny_bind (wpAny_callSpecial?_slot (name := Str.ofString "__getitem__") ht.typeIs PyProof.Rows.slot_tuple_getitem (wpAny_call_entry PyProof.Rows.slot_tuple_getitem ht.typeIs entry_tuple_getitem ?_ (args_tuple_getitem _ _)))
  show wpAny _ _ (Builtin.Tuple.tupleItemsOf (.ref t) >>= _) _ _ s
  refine wpAny_bind (tupleItemsOf_ ht ?_)
  refine wpAny_bind (wpAny_typeOf ty ?_)
  rw [if_pos (by decide)]
  refine wpAny_bind (applied_rev hs pk ?_)
  have no : ¬ (((xs.size : Int) - 1 == 0 && (-1 : Int) == 1 && xs.size == xs.size) = true) := by
    intro q
    rw [Bool.and_eq_true, Bool.and_eq_true] at q
    exact absurd q.1.2 (by decide)
  show wpAny _ _ (if ((xs.size : Int) - 1 == 0 && (-1 : Int) == 1 && xs.size == xs.size) = true then _ else _) _ _ s
  rw [if_neg no, pick_rev]
  first
    | exact wpAny_bind (m := Builtin.Tuple.tupleExact _) (wpAny_newObj_type (wpAny_pure ⟨_, rfl, wpAny_pure z⟩) ok)
    | exact wpAny_bind (m := Builtin.Tuple.tupleExact _) (wpAny_newObj_type (wpAny_bind (wpAny_pure (wpAny_pure ⟨_, rfl, wpAny_pure z⟩))) ok)
    | exact wpAny_bind (wpAny_bind (m := Builtin.Tuple.tupleExact _) (wpAny_newObj_type (wpAny_pure (wpAny_pure ⟨_, rfl, wpAny_pure z⟩)) ok))
    | exact wpAny_bind (wpAny_bind (m := Builtin.Tuple.tupleExact _) (wpAny_newObj_type (wpAny_pure ⟨_, rfl, wpAny_pure z⟩) ok))
end
section
variable {X : Cx}
/-- what x[::k] is, by values -/
def StR (X : Cx) (r : V → Option Int → Hp → VK → Prop) : Prop :=
  ∀ (pins : List (Addr × Obj)) (s : Shared) (σ : L2.St) (H : Hp) (x : V) (v vk : Value) (i : Option Int) (sl : Addr) (Q : VK), Inv X pins σ H s → RelV x v → s.heap.IsSliceOf sl .none .none vk → IsPart vk i → r x i H Q →
    ∃ T id, typeLookup (.type T) "__getitem__" = pure (some (.builtin id)) ∧ s.TypeIs v T ∧ wpAny (model X.prog X.w) X.A (getItem v (.ref sl)) (EP X pins σ Q) X.xe s
def rRev (K : PySem.W.Frag) : V → Option Int → Hp → VK → Prop := fun x i H Q => i = some (-1) ∧ ∃ a xs, x = .ref a ∧ ((SqL K H a xs ∧ ∀ p, H p = none → Q (.ref p) (upd H p (.lst xs.reverse))) ∨ (SqT K H a xs ∧ ∀ p, H p = none → Q (.ref p) (upd H p (.tup xs.reverse))))
theorem Vals.rev : ∀ {vs : List V} {us : List Value}, Vals vs us → Vals vs.reverse us.reverse
  | _, _, .nil => .nil
  | _, _, .cons r t => by
    rw [List.reverse_cons, List.reverse_cons]
    exact Vals.app (Vals.rev t) (.cons r .nil)
where
  Vals.app : ∀ {vs : List V} {us : List Value} {ws : List V} {zs : List Value}, Vals vs us → Vals ws zs → Vals (vs ++ ws) (us ++ zs)
    | _, _, _, _, .nil, h => h
    | _, _, _, _, .cons r t, h => .cons r (Vals.app t h)
theorem st_rev : StR X (rRev X.K) := by
  intro pins s σ H x v vk i sl Q I rx hs pk h
  obtain ⟨rfl, a, xs, rfl, h⟩ := h
  cases rx
  rcases h with ⟨hx, q⟩ | ⟨hx, q⟩
  · obtain ⟨its, r, ht, hz⟩ := I.list hx
    have hlen := r.length
    refine ⟨"list", _, slot_list_getitem.lookup, ht.isList.typeIs, ?_⟩
    refine wpAny_getItem_list_slice ht.isList hs .none .none pk (by decide) ?_ (by rw [List.size_toArray] <;> omega)
    rw [PySem.W.krv_pick]
    refine ⟨.ref s.heap.objs.size, _, I.laid (t' := s.toks) (o := .lst xs.reverse) (fun b ob q => Heap.get?_push_of_some _ q) (Nat.le_refl _) ?_, rfl, q _ (I.hok.fresh (Nat.le_refl _))⟩
    exact ⟨by rw [List.length_reverse]; exact hz, _, 0, Vals.rev r, Heap.get?_push_size _ rfl⟩
  · obtain ⟨its, r, ht, hz⟩ := I.tuple hx
    have hlen : its.toArray.size = xs.length := by rw [List.size_toArray]; exact r.length.symm
    refine ⟨"tuple", _, PyProof.Rows.slot_tuple_getitem.lookup, ht.typeIs, ?_⟩
    refine get_tup_rev ht hs pk ?_ (by rw [hlen]; exact hz)
    refine ⟨.ref s.heap.objs.size, _, I.laid (t' := s.toks) (o := .tup xs.reverse) (fun b ob q => Heap.get?_push_of_some _ q) (Nat.le_refl _) ?_, rfl, q _ (I.hok.fresh (Nat.le_refl _))⟩
    exact ⟨by rw [List.length_reverse]; exact hz, _, Vals.rev r, IsTup.new _ _⟩
theorem pe_step {e k : Expr} {te : TE} {tk : TO} {pos p2 : Pos} {r : V → Option Int → Hp → VK → Prop} (hr : StR X r) (he : PE X e te) (hk : PO X (some k) tk) : PE X (.Subscript e (.Slice none none (some k) p2) pos) (fun σ H Q => te σ H fun x H1 => tk σ H1 fun i H2 => r x i H2 Q) := by
  refine ⟨fun pins s σ H Q I h => ?_⟩
  refine Subscript_ (thn (he.run pins s σ H _ I h) fun v s1 ⟨x, H1, I1, r1, q1⟩ => ?_)
  refine wpAny_Slice ?_
  rw [evalPart_none]
  refine wpAny_pure ?_
  refine wpAny_pure ?_
  refine thn (hk.run pins s1 σ H1 _ I1 q1) fun vk s2 ⟨i, H2, I2, pk, q2⟩ => ?_
  have I4 : Inv X pins σ H2 { s2 with heap := s2.heap.push { cls := .type "slice", data := .fields #[.none, .none, vk] } } := I2.kept (t' := s2.toks) fun b ob q => Heap.get?_push_of_some _ q
  obtain ⟨T, id, hT, ht, hg⟩ := hr pins { s2 with heap := s2.heap.push { cls := .type "slice", data := .fields #[.none, .none, vk] } } σ H2 x v vk i s2.heap.objs.size Q I4 r1 (Heap.IsSliceOf.new ..) pk q2
  show wpAny (model X.prog X.w) X.A (subscriptTail e (.Slice none none (some k) p2) v (.ref s2.heap.objs.size)) (EP X pins σ Q) X.xe { s2 with heap := s2.heap.push { cls := .type "slice", data := .fields #[.none, .none, vk] } }
  exact tail_any (ops := [v, .ref s2.heap.objs.size]) ht hT hg (by with_unfolding_all rfl)
end
section
variable {Γ : Wd} {X : Cx} {W : WX} {pos p : Pos}
theorem Reps.rev {K : PySem.W.Frag} {α : Al} {H : Hp} : ∀ {ds : List D} {vs : List V}, Reps K α H ds vs → Reps K α H ds.reverse vs.reverse
  | _, _, .nil => .nil
  | _, _, .cons r t => by
    rw [List.reverse_cons, List.reverse_cons]
    exact (Reps.rev t).append (.cons r .nil)
theorem de_slS {a k : Expr} {p2 : Pos} {f g : En → Hh → R D} (hK : X.K = Γ.K) (ha : DB Γ X W a f) (hk : DE Γ X W k g) :
    DE Γ X W (.Subscript a (.Slice none none (some k) p2) pos) (fun en h => bnd (f en h) fun x h1 => bnd (g en h1) fun y h2 => stOp x y h2) := by
  obtain ⟨t, pt, kk⟩ := ha.ex
  obtain ⟨u, pu, l⟩ := hk.ex
  refine ⟨_, pe_step st_rev pt (po_some pu), fun α h H en σ Q hr er p => kk _ _ _ _ _ _ hr er (p.bnd fun d h1 α1 H1 v st1 hr1 r1 p1 => ?_)⟩
  refine l _ _ _ _ _ _ hr1 (er.mono st1) (p1.bnd fun y h2 α2 H2 vy st2 hr2 r2 p2 => ?_)
  have rd := r1.mono st2
  have hy : ∃ i, y = .int i := by
    cases y <;> first | exact ⟨_, rfl⟩ | (cases d <;> exact False.elim p2)
  obtain ⟨i, rfl⟩ := hy
  cases r2
  by_cases ci : i = -1
  · subst ci
    refine ⟨-1, rfl, rfl, ?_⟩
    have key : Pst Γ (RV Γ) α2 H2 (optR (seqOf h2 d) fun ds => .ok (.lst ds.reverse) h2) Q (fun c d H' => W c d σ H') → ∃ a xs, v = .ref a ∧ ((SqL X.K H2 a xs ∧ ∀ p, H2 p = none → Q (.ref p) (upd H2 p (.lst xs.reverse))) ∨ (SqT X.K H2 a xs ∧ ∀ p, H2 p = none → Q (.ref p) (upd H2 p (.tup xs.reverse)))) := fun p' => by
      obtain ⟨ds, e, p'⟩ := Pst.opt p'
      obtain ⟨b, vs, rfl, s, rs⟩ := hr2.seqB rd e
      refine ⟨b, vs, rfl, .inl ⟨by rw [hK]; exact s, fun q hq => ?_⟩⟩
      obtain ⟨s1, s2, s3⟩ := new_lst hr2 hq rs.rev
      exact p' _ _ _ s1 s2 s3
    cases d with
    | tup ds =>
      cases rd with | val rd =>
      cases rd with | @tup b vs _ s rs =>
      have p' : Pst Γ (RV Γ) α2 H2 (.ok (.tup ds.reverse) h2) Q (fun c d H' => W c d σ H') := p2
      exact ⟨b, vs, rfl, .inr ⟨by rw [hK]; exact s, fun q hq => p' _ _ _ (Step.other hq) (hr2.other hq) (.tup (SqT.of upd_same) (rs.rev.mono (Step.other hq)))⟩⟩
    | _ => exact key p2
  · exfalso
    have e : stOp d (.int i) h2 = .bad := by
      cases d <;> simp [stOp, ci]
    rw [e] at p2
    exact p2
/-- max, min of two whole numbers -/
def mmName (b : Bool) : Str := if b then "max" else "min"
theorem de_mm {b : Bool} {e1 e2 : Expr} {f g : En → Hh → R D} (hc : X.calm = true) (hg : Gl X (mmName b)) (hm : X.mg (mmName b) = none) (h1 : star e1 = false) (h2 : star e2 = false) (he : DE Γ X W e1 f) (hf : DE Γ X W e2 g) :
    DE Γ X W (.Call (.Name (mmName b) p) [e1, e2] [] pos) (fun en h => bnd (f en h) fun x h1 => bnd (g en h1) fun y h2 => mmOp b x y h2) := by
  obtain ⟨t, pt, k⟩ := he.ex
  obtain ⟨u, pu, l⟩ := hf.ex
  have key : ∀ (j : Int → Int → Int), (∀ i i', mmOp b (.int i) (.int i') = fun h => .ok (.int (j i i')) h) → ∀ α h H en σ Q, HR Γ.K α h H → ER Γ α H en σ → Pst Γ (RV Γ) α H (bnd (f en h) fun x h1 => bnd (g en h1) fun y h2 => mmOp b x y h2) Q (fun c d H' => W c d σ H') →
      t σ H fun x H1 => u σ H1 fun y H2 => ∃ i i', [x, y] = [V.int i, .int i'] ∧ Q (.int (j i i')) H2 := fun j hj α h H en σ Q hr er pp => by
    refine k _ _ _ _ _ _ hr er (pp.bnd fun d h1 α1 H1 v st1 hr1 r1 p1 => ?_)
    refine l _ _ _ _ _ _ hr1 (er.mono st1) (p1.bnd fun y h2 α2 H2 vy st2 hr2 r2 p2 => ?_)
    have r1' := r1.mono st2
    cases d <;> first | (cases y <;> cases b <;> exact False.elim p2) | skip
    cases y <;> first | (cases b <;> exact False.elim p2) | skip
    cases r1'
    cases r2
    rw [hj] at p2
    exact ⟨_, _, rfl, p2 _ _ _ Step.refl hr2 (.int _)⟩
  cases b with
  | true => exact ⟨_, pe_callB (call_max2 hc) hg hm (by decide +kernel) (pa_cons pt (pa_cons pu pa_nil (starEach_cons h2)) (starEach_cons h1)) (by decide) (by decide) (starEach_cons h1) (starEach_any (by simp [h2])), key (fun i i' => if i' > i then i' else i) fun _ _ => rfl⟩
  | false => exact ⟨_, pe_callB (call_min2 hc) hg hm (by decide +kernel) (pa_cons pt (pa_cons pu pa_nil (starEach_cons h2)) (starEach_cons h1)) (by decide) (by decide) (starEach_cons h1) (starEach_any (by simp [h2])), key (fun i i' => if i' < i then i' else i) fun _ _ => rfl⟩
end
end PD

set_option Elab.async false
set_option linter.all false
set_option maxRecDepth 100000
set_option maxHeartbeats 1000000
/-! Calls of defs where no printing of a container is under way; repr. -/
namespace PD
open PySem PySem.Spec PyProof.Rows L2
/-- a def's promise, as FnOk, where nothing is being printed -/
structure FnG (P : Program) (w : World) (K : PySem.W.Frag) (mg : Str → Option Value) (base : Heap) (C : CXT) (k : Nat) (f : Addr) (fd : FuncData) (ps : List Str) (sp : Sp) : Prop where
  len : ∀ vs H Q E, sp vs H Q E → vs.length = ps.length
  go : ∀ (A : Around) (fr : List Env) (s : Shared) (H : Hp) (ar : Args) (us : List Value) (vs : List V) (Q : VK) (E : XK), Room k A → A.guards = some [] → Env0 P w K mg base A fr s H → BindsTo s fd ar (ps.zip us) → Vals vs us →
    sp vs H Q E → codeAny (model P w) A (.call (.ref f) ar) (CR C fr P w H s Q E) s
section
variable {X : Cx} {C : CXT} {k : Nat} {f : Addr} {fd : FuncData} {ps : List Str} {sp : Sp} {E : L2.St → XK} {x : Str} {p pos : Pos} {e : Expr} {es : List Expr} {t : TA}
theorem go_fn {pins : List (Addr × Obj)} {σ : L2.St} {H : Hp} {s : Shared} {Q : VK} {us : List Value} {vs : List V} (F : FnG X.prog X.w X.K X.mg X.base C k f fd ps sp) (hr : Room k X.A) (gd : X.A.guards = some []) (hb : Binds X.K fd ps []) (hx : PassesAt C X σ (E σ))
    (J : Inv X pins σ H s) (r : Vals vs us) (z : sp vs H Q (E σ)) : wpAny (model X.prog X.w) X.A (call (.ref f) us) (EP X pins σ Q) X.xe s := by
  have n1 : us.length = ps.length := r.length ▸ F.len _ _ _ _ z
  have b : BindsTo s fd ⟨us, []⟩ (ps.zip us) := by simpa using hb s us J.kIn (by simpa using n1)
  refine wpAny_call (codeAny_mono (F.go X.A X.stack s H ⟨us, []⟩ us vs Q (E σ) hr gd J.env0 b r z) fun o s2 c => ?_)
  match o, c with
  | .error er, c => exact hx pins H s er s2 J c
  | .ok (.ret u), c => exact J.after c
theorem pe_callG (F : FnG X.prog X.w X.K X.mg X.base C k f fd ps sp) (hr : Room k X.A) (gd : X.A.guards = some []) (hg : Gl X x) (hm : X.mg x = some (.ref f)) (kp : PySem.W.keepIn X.K (.ref f) = true) (hb : Binds X.K fd ps []) (hx : ∀ σ, PassesAt C X σ (E σ))
    (ha : PA X (e :: es) t) (nd : (x == ("__debug__" : Str)) = false) (h1 : starEach (e :: es) X.env = (false, eval e X.env) :: starEach es X.env) (h2 : (backTo pos (starEach es X.env)).any (·.1) = false) :
    PE X (.Call (.Name x p) (e :: es) [] pos) (tCallS sp E t) :=
  ⟨fun pins s σ H Q J z => wpAny_Call_Name_kw (ld_glob J hg hm (PySem.W.callWith_K (h₀ := X.base) J.ok.mod.kin kp (thn (ha.run pos pins s σ H _ J z) fun us s1 ⟨vs, H1, J1, r, q⟩ => ⟨J1.kIn, go_fn F hr gd hb (hx σ) J1 r q⟩) h1 h2) nd)⟩
theorem pe_callG0 (F : FnG X.prog X.w X.K X.mg X.base C k f fd ps sp) (hr : Room k X.A) (gd : X.A.guards = some []) (hg : Gl X x) (hm : X.mg x = some (.ref f)) (kp : PySem.W.keepIn X.K (.ref f) = true) (hb : Binds X.K fd ps []) (hx : ∀ σ, PassesAt C X σ (E σ))
    (nd : (x == ("__debug__" : Str)) = false) : PE X (.Call (.Name x p) [] [] pos) (fun σ H Q => sp [] H Q (E σ)) :=
  ⟨fun pins s σ H Q J z => wpAny_Call_Name_kw (ld_glob J hg hm (PySem.W.callWith_K0 J.kIn kp (go_fn (us := []) F hr gd hb (hx σ) J .nil z)) nd)⟩
/-- how a call with m values by place and the names ks binds -/
def KB (K : PySem.W.Frag) (fd : FuncData) (ps : List Str) (m : Nat) (ks : List Str) (π : List Nat) : Prop :=
  m + π.length = ps.length ∧ ∀ (s : Shared) (us ws : List Value), us.length = m → ws.length = π.length → BindsTo s fd ⟨us, ks.zip ws⟩ (ps.zip (us ++ π.map fun j => ws.getD j .none))
theorem vals_getD : ∀ {zs : List V} {ws : List Value}, Vals zs ws → ∀ j, RelV (zs.getD j .non) (ws.getD j .none)
  | _, _, .nil, j => by
    simp only [List.getD_nil]
    rfl
  | _, _, .cons r rs, 0 => by simpa using r
  | _, _, .cons r rs, j + 1 => by simpa using vals_getD rs j
theorem vals_map {zs : List V} {ws : List Value} (r : Vals zs ws) : ∀ π : List Nat, Vals (π.map fun j => zs.getD j .non) (π.map fun j => ws.getD j .none)
  | [] => .nil
  | j :: π => .cons (vals_getD r j) (vals_map r π)
theorem go_fnk {pins : List (Addr × Obj)} {σ : L2.St} {H : Hp} {s : Shared} {Q : VK} {us ws : List Value} {vs zs : List V} {m : Nat} {ks : List Str} {π : List Nat} (F : FnG X.prog X.w X.K X.mg X.base C k f fd ps sp) (hr : Room k X.A) (gd : X.A.guards = some []) (hb : KB X.K fd ps m ks π) (hx : PassesAt C X σ (E σ))
    (J : Inv X pins σ H s) (r : Vals vs us) (rz : Vals zs ws) (hz : zs.length = π.length) (z : sp (vs ++ π.map fun j => zs.getD j .non) H Q (E σ)) : wpAny (model X.prog X.w) X.A (call (.ref f) us (ks.zip ws)) (EP X pins σ Q) X.xe s := by
  have n1 := F.len _ _ _ _ z
  rw [List.length_append, List.length_map] at n1
  have n2 := hb.1
  have b := hb.2 s us ws (by rw [← r.length]; omega) (by rw [← rz.length]; exact hz)
  refine wpAny_call (codeAny_mono (F.go X.A X.stack s H ⟨us, ks.zip ws⟩ _ _ Q (E σ) hr gd J.env0 b (r.append (vals_map rz π)) z) fun o s2 c => ?_)
  match o, c with
  | .error er, c => exact hx pins H s er s2 J c
  | .ok (.ret u), c => exact J.after c
def tCallGK (sp : Sp) (E : L2.St → XK) (π : List Nat) (t tk : TA) : TE := fun σ H Q => t σ H fun vs H1 => tk σ H1 fun zs H2 => zs.length = π.length ∧ sp (vs ++ π.map fun j => zs.getD j .non) H2 Q (E σ)
theorem pe_callGK {m : Nat} {ks : List Str} {π : List Nat} {kws : List Keyword} {tk : TA} (F : FnG X.prog X.w X.K X.mg X.base C k f fd ps sp) (hr : Room k X.A) (gd : X.A.guards = some []) (hg : Gl X x) (hm : X.mg x = some (.ref f)) (kp : PySem.W.keepIn X.K (.ref f) = true) (hb : KB X.K fd ps m ks π) (hx : ∀ σ, PassesAt C X σ (E σ))
    (ha : PA X (e :: es) t) (hkw : PK X kws tk) (hall : (backToKw pos (keywordEach kws X.env)).all (·.1.isSome) = true) (hks : (backToKw pos (keywordEach kws X.env)).filterMap (·.1) = ks) (nd : (x == ("__debug__" : Str)) = false) (h1 : starEach (e :: es) X.env = (false, eval e X.env) :: starEach es X.env)
    (hpl : ((backTo pos (starEach (e :: es) X.env)).any (·.1) || (backToKw pos (keywordEach kws X.env)).any (·.1.isNone)) = false) :
    PE X (.Call (.Name x p) (e :: es) kws pos) (tCallGK sp E π t tk) := by
  refine ⟨fun pins s σ H Q J z => wpAny_Call_Name_kw (ld_glob J hg hm ?_ nd)⟩
  refine PySem.W.callWith_KW (h₀ := X.base) J.ok.mod.kin kp hall (thn (ha.run pos pins s σ H _ J z) fun us s1 ⟨vs, H1, J1, r, q⟩ => ?_) hpl h1
  refine thn (hkw.run pos pins s1 σ H1 _ J1 q) fun ws s2 ⟨zs, H2, J2, rz, hz, q2⟩ => ⟨J2.kIn, ?_⟩
  rw [hks]
  exact go_fnk F hr gd hb (hx σ) J2 r rz hz q2
theorem pe_callGK0 {m : Nat} {ks : List Str} {π : List Nat} {kws : List Keyword} {tk : TA} (F : FnG X.prog X.w X.K X.mg X.base C k f fd ps sp) (hr : Room k X.A) (gd : X.A.guards = some []) (hg : Gl X x) (hm : X.mg x = some (.ref f)) (kp : PySem.W.keepIn X.K (.ref f) = true) (hb : KB X.K fd ps m ks π) (hx : ∀ σ, PassesAt C X σ (E σ))
    (hkw : PK X kws tk) (hall : (backToKw pos (keywordEach kws X.env)).all (·.1.isSome) = true) (hks : (backToKw pos (keywordEach kws X.env)).filterMap (·.1) = ks) (nd : (x == ("__debug__" : Str)) = false)
    (hpl : ((backTo pos (starEach [] X.env)).any (·.1) || (backToKw pos (keywordEach kws X.env)).any (·.1.isNone)) = false) :
    PE X (.Call (.Name x p) [] kws pos) (tCallGK sp E π tNil tk) := by
  refine ⟨fun pins s σ H Q J z => wpAny_Call_Name_kw (ld_glob J hg hm ?_ nd)⟩
  refine PySem.W.callWith_KW0 (h₀ := X.base) J.ok.mod.kin kp hall (thn (hkw.run pos pins s σ H _ J z) fun ws s2 ⟨zs, H2, J2, rz, hz, q2⟩ => ⟨J2.kIn, ?_⟩) hpl
  rw [hks]
  exact go_fnk (us := []) F hr gd hb (hx σ) J2 .nil rz hz q2
end
/-- from a def's text to its promise -/
theorem Fun.okG {P : Program} {w : World} {K : PySem.W.Frag} {mg : Str → Option Value} {base : Heap} {x qual : Str} {st : Stmt} {f : Addr} {fd : FuncData} {N ps : List Str} {k : Nat} {sp : Sp} (F : Fun K x qual st f fd) (S : FnScope N ps (defScope st)) (len : ∀ vs H Q E, sp vs H Q E → vs.length = ps.length)
    (body : ∀ (cd : Value) (A : Around) (fr : List Env) (s : Shared) (H : Hp) (vs : List V) (Q : VK) (E : XK), Room k (A.deeper (envOfC qual (defScope st) s.heap.objs.size f cd)) → A.guards = some [] → sp vs H Q E →
      ∃ t, PSs (cxOf (L2.CX P w) P w K mg base N qual (defScope st) f cd A fr s H E) (defBody st) t ∧ t { nx := fun _ H' => Q .non H', rt := Q } (L2.start N vs) H) : FnG P w K mg base (L2.CX P w) (k + 1) f fd ps sp := by
  obtain ⟨oc, od, kV, doc, pm, an, cd, ct, osl, rfl, lk, hcd⟩ := F.ex
  refine ⟨len, fun A fr s H ar us vs Q E hr gd e0 hb rv z => ?_⟩
  have up : ∀ b o, base.get? b = some o → s.heap.get? b = some o := fun b o q => (e0.bs b o q).1
  have KX := e0.mod.kin.keeps up
  refine codeAny_call_function hr.depth (KX _ _ lk) rfl S.co S.gen rfl (PySem.W.codeRec_of KX hcd) (hb _ _ _ _ (wpAny_newFunctionEnv_cells S.kind (fun y hy => ?_) fun env he s1 ic => ?_))
  · obtain ⟨n, v⟩ := y
    exact (S.par n (List.of_mem_zip hy).1).imp id fun c => ⟨c, PySem.W.cellsFrom_some _ _ _ (.inl c)⟩
  · cases he
    refine ⟨(e0.mod.nolimit.keeps up).keeps ic.toInCall.keep, codeAny_func ?_⟩
    obtain ⟨t, pt, q⟩ := body cd A fr s H vs Q E (hr.deeper _) gd z
    have J := inv_start (CX := L2.CX P w) (E := E) S hr.hd e0 (len _ _ _ _ z) rv ic
    refine wpAny_mono (pt.run [] s1 (L2.start N vs) H _ J q) (fun fl s2 c => ?_) fun _ _ c => c
    match fl, c with
    | .ret u, ⟨v, σ2, H2, J2, rv2, q2⟩ => exact ⟨v, H2, J2.os, J2.bare, J2.base, J2.hok, rv2, q2⟩
    | .next, ⟨σ2, H2, J2, q2⟩ => exact ⟨.non, H2, J2.os, J2.bare, J2.base, J2.hok, rfl, q2⟩
    | .brk, ⟨_, _, _, q2⟩ => exact False.elim q2
    | .cont, ⟨_, _, _, q2⟩ => exact False.elim q2
end PD

set_option Elab.async false
set_option linter.all false
set_option maxRecDepth 100000
set_option maxHeartbeats 1000000
namespace PD
open PySem PySem.Spec PyProof.Rows L2
section
variable {Γ : Wd} {X : Cx} {W : WX} {pos p : Pos}
/-! ### ranges, enumerate, zip -/
theorem rng_at (lo st : Int) (n i : Nat) : (rngD lo st n)[i]? = if i < n then some (D.int (lo + (i : Int) * st)) else none := by
  unfold rngD
  rw [List.getElem?_map]
  by_cases c : i < n
  · rw [List.getElem?_range c, if_pos c]; rfl
  · rw [List.getElem?_eq_none (by simpa using c), if_neg c]; rfl
theorem itr_rng {α : Al} {H : Hp} (lo : Int) (n : Nat) : ItR Γ α H (rngD lo 1 n) (Itr lo n) := by
  intro α' h' H' st hr i hi
  rw [rng_at]
  by_cases c : i < n
  · rw [if_pos c]
    refine ⟨c, fun x H'' y => ?_⟩
    obtain ⟨rfl, rfl⟩ := y
    rw [Int.mul_one]
    exact ⟨Step.refl, hr, .int _⟩
  · rw [if_neg c]
    exact Nat.le_of_not_lt c
theorem rng_post {α : Al} {h : Hh} {H : Hp} {lo : Int} {d : D} {v : V} {Q : L2.It → Hp → Prop} {E : XK} (hr : HR Γ.K α h H) (r : Rep Γ.K α H d v) (p : Pst Γ (ItR Γ) α H (rngIt lo d h) Q E) :
    ∃ hi, v = .int hi ∧ -(2 ^ 62) ≤ lo ∧ lo < 2 ^ 62 ∧ -(2 ^ 62) ≤ hi ∧ hi < 2 ^ 62 ∧ Q (Itr lo (hi - lo).toNat) H := by
  cases r <;> first | exact False.elim p | skip
  rename_i hi
  dsimp only [rngIt] at p
  have lim := lim62_eq
  by_cases c : -lim62 ≤ lo ∧ lo < lim62 ∧ -lim62 ≤ hi ∧ hi < lim62
  · rw [if_pos c] at p
    rw [lim] at c
    exact ⟨hi, rfl, c.1, c.2.1, c.2.2.1, c.2.2.2, p _ _ _ Step.refl hr (itr_rng _ _)⟩
  · rw [if_neg c] at p
    exact False.elim p
theorem di_rng1 {tg a : Expr} {f : En → Hh → R D} (hg : Gl X "range") (hm : X.mg "range" = none) (hs : star a = false) (ha : DE Γ X W a f) :
    DI Γ X W tg (.Call (.Name "range" p) [a] [] pos) (fun en h => bnd (f en h) fun x h1 => rngIt 0 x h1) := by
  obtain ⟨t, pt, k⟩ := ha.ex
  refine ⟨_, pi_range1 hg hm (pa_cons pt pa_nil (starEach_cons hs)) (starEach_cons hs), fun α h H en σ Q hr er p => k _ _ _ _ _ _ hr er (p.bnd fun d h1 α1 H1 v st1 hr1 r1 p1 => ?_)⟩
  obtain ⟨hi, rfl, _, _, c1, c2, q⟩ := rng_post hr1 r1 p1
  rw [Int.sub_zero] at q
  exact ⟨hi, rfl, c1, c2, q⟩
theorem di_rng2 {tg a b : Expr} {f g : En → Hh → R D} (hg : Gl X "range") (hm : X.mg "range" = none) (hs : star a = false) (hs2 : star b = false) (ha : DE Γ X W a f) (hb : DE Γ X W b g) :
    DI Γ X W tg (.Call (.Name "range" p) [a, b] [] pos) (fun en h => bnd (f en h) fun x h1 => bnd (g en h1) fun y h2 => bnd (toInt x h2) fun lo h3 => rngIt lo y h3) := by
  obtain ⟨t, pt, k⟩ := ha.ex
  obtain ⟨u, pu, l⟩ := hb.ex
  refine ⟨_, pi_range2 hg hm (pa_cons pt (pa_cons pu pa_nil (starEach_cons hs2)) (starEach_cons hs)) (by rw [starEach_cons hs, starEach_cons hs2]; rfl) (starEach_cons hs2), fun α h H en σ Q hr er p => k _ _ _ _ _ _ hr er (p.bnd fun d h1 α1 H1 v st1 hr1 r1 p1 => ?_)⟩
  refine l _ _ _ _ _ _ hr1 (er.mono st1) (p1.bnd fun y h2 α2 H2 yv st2 hr2 r2 p2 => ?_)
  have r1' := r1.mono st2
  cases r1' <;> first | exact False.elim p2 | skip
  obtain ⟨hi, rfl, c1, c2, c3, c4, q⟩ := rng_post hr2 r2 p2
  exact ⟨_, hi, rfl, ⟨c1, c2, c3, c4⟩, q⟩
theorem enum_at : ∀ (k i : Nat) (ds : List D), (enumD k ds)[i]? = (ds[i]?).map fun d => D.tup [.int ((k + i : Nat) : Int), d]
  | k, i, [] => by simp [enumD]
  | k, 0, d :: ds => by simp [enumD]
  | k, i + 1, d :: ds => by
    have := enum_at (k + 1) i ds
    simp only [enumD, List.getElem?_cons_succ]
    rw [this]
    have e : k + 1 + i = k + (i + 1) := by omega
    rw [e]
theorem enum_len : ∀ (k : Nat) (ds : List D), (enumD k ds).length = ds.length
  | _, [] => rfl
  | k, d :: ds => by simp [enumD, enum_len (k + 1) ds]
theorem itr_enum {α : Al} {H : Hp} {k : Bool} {a : Addr} {vs : List V} {ds : List D} (s : Stay Γ α H k a vs) (rs : Reps Γ.K α H ds vs) : ItR Γ α H (enumD 0 ds) (IteK k Γ.K a) := by
  intro α' h' H' st hr i hi
  have s' := s _ _ st
  have rs' := rs.monoE st
  rw [enum_at]
  rw [enum_len] at hi
  cases e : ds[i]? with
  | none =>
    refine ⟨vs, s', ?_⟩
    have := List.getElem?_eq_none_iff.mp e
    rw [← rs'.length]
    omega
  | some d =>
    obtain ⟨v, ev, rv⟩ := rs'.get e
    refine ⟨⟨vs, v, s', ev⟩, fun x H'' y => ?_⟩
    obtain ⟨T, z, rfl, hT, rfl, fx⟩ := y
    have := fx vs s'
    rw [ev] at this
    cases this
    rw [Nat.zero_add]
    exact ⟨Step.other hT, hr.other hT, .tup (SqT.of upd_same) (.cons (.int _) (.cons (rv.mono (Step.other hT)) .nil))⟩
theorem di_enum {a : Expr} {elts : List Expr} {kk : Nat} {tpos : Pos} {f : En → Hh → R D} (hK : X.K = Γ.K) (hg : Gl X "enumerate") (hm : X.mg "enumerate" = none) (hs : star a = false) (ha : DE Γ X W a f) :
    DI Γ X W (.Tuple elts kk tpos) (.Call (.Name "enumerate" p) [a] [] pos) (fun en h => bnd (f en h) enumIt) := by
  obtain ⟨t, pt, k⟩ := ha.ex
  refine ⟨_, pi_enumK hg hm (pa_cons pt pa_nil (starEach_cons hs)) (starEach_cons hs), fun α h H en σ Q hr er p => k _ _ _ _ _ _ hr er (p.bnd fun d h1 α1 H1 v st1 hr1 r1 p1 => ?_)⟩
  obtain ⟨ds, e, p1⟩ := Pst.opt p1
  obtain ⟨a, vs, rfl, s, rs⟩ := fix_post r1 e
  rw [hK]
  exact ⟨isTupD d, a, vs, rfl, s _ _ Ext.refl, p1 _ _ _ Step.refl hr1 (itr_enum s rs)⟩
theorem zip_at : ∀ (i : Nat) (ds es : List D), (zipD ds es)[i]? = match ds[i]?, es[i]? with | some d, some e => some (D.tup [d, e]) | _, _ => none
  | i, [], es => by cases es <;> simp [zipD]
  | i, d :: ds, [] => by
    simp only [zipD, List.getElem?_nil]
    cases (d :: ds)[i]? <;> rfl
  | 0, d :: ds, e :: es => by simp [zipD]
  | i + 1, d :: ds, e :: es => by
    simp only [zipD, List.getElem?_cons_succ]
    exact zip_at i ds es
theorem zip_len : ∀ (ds es : List D), (zipD ds es).length = min ds.length es.length
  | [], es => by cases es <;> simp [zipD]
  | d :: ds, [] => by simp [zipD]
  | d :: ds, e :: es => by simp [zipD, zip_len ds es] <;> omega
theorem itr_zip {α : Al} {H : Hp} {k l : Bool} {a b : Addr} {vs ws : List V} {ds es : List D} (s1 : Stay Γ α H k a vs) (s2 : Stay Γ α H l b ws) (r1 : Reps Γ.K α H ds vs) (r2 : Reps Γ.K α H es ws) : ItR Γ α H (zipD ds es) (Itz2 k l Γ.K a b) := by
  intro α' h' H' st hr i hi
  have s := s1 _ _ st
  have s' := s2 _ _ st
  have rs := r1.monoE st
  have rs2 := r2.monoE st
  rw [zip_at]
  rw [zip_len] at hi
  have stopped : (ds[i]? = none ∨ es[i]? = none) → (Itz2 k l Γ.K a b).stop i H' := fun hn => by
    refine ⟨vs, ws, s, s', by rw [← rs.length]; omega, by rw [← rs2.length]; omega, ?_⟩
    rcases hn with z | z
    · exact .inl (by have := List.getElem?_eq_none_iff.mp z; rw [← rs.length]; omega)
    · exact .inr (by have := List.getElem?_eq_none_iff.mp z; rw [← rs2.length]; omega)
  cases e1 : ds[i]? with
  | none => exact stopped (.inl e1)
  | some d =>
    cases e2 : es[i]? with
    | none => exact stopped (.inr e2)
    | some e =>
      obtain ⟨v, ev, rv⟩ := rs.get e1
      obtain ⟨w, ew, rw'⟩ := rs2.get e2
      refine ⟨⟨vs, ws, v, w, s, s', ev, ew⟩, fun x H'' y => ?_⟩
      obtain ⟨T, z, z', rfl, hT, rfl, fx, fy⟩ := y
      have t1 := fx vs s
      rw [ev] at t1
      cases t1
      have t2 := fy ws s'
      rw [ew] at t2
      cases t2
      exact ⟨Step.other hT, hr.other hT, .tup (SqT.of upd_same) (.cons (rv.mono (Step.other hT)) (.cons (rw'.mono (Step.other hT)) .nil))⟩
theorem di_zip {a b : Expr} {elts : List Expr} {kk : Nat} {tpos : Pos} {f g : En → Hh → R D} (hK : X.K = Γ.K) (hg : Gl X "zip") (hm : X.mg "zip" = none) (hs : star a = false) (hs2 : star b = false) (ha : DE Γ X W a f) (hb : DE Γ X W b g) :
    DI Γ X W (.Tuple elts kk tpos) (.Call (.Name "zip" p) [a, b] [] pos) (fun en h => bnd (f en h) fun x h1 => bnd (g en h1) fun y h2 => zipIt x y h2) := by
  obtain ⟨t, pt, k⟩ := ha.ex
  obtain ⟨u, pu, l⟩ := hb.ex
  refine ⟨_, pi_zip2 hg hm (pa_cons pt (pa_cons pu pa_nil (starEach_cons hs2)) (starEach_cons hs)) (starEach_cons hs) (starEach_any (by simp [hs2])), fun α h H en σ Q hr er p => k _ _ _ _ _ _ hr er (p.bnd fun d h1 α1 H1 v st1 hr1 r1 p1 => ?_)⟩
  refine l _ _ _ _ _ _ hr1 (er.mono st1) (p1.bnd fun y h2 α2 H2 yv st2 hr2 r2 p2 => ?_)
  obtain ⟨ds, e, p2⟩ := Pst.opt p2
  obtain ⟨es, e', p2⟩ := Pst.opt p2
  have r1' := r1.mono st2
  obtain ⟨a, vs, rfl, s, rs⟩ := fix_post r1' e
  obtain ⟨b, ws, rfl, s', rs'⟩ := fix_post r2 e'
  rw [hK]
  exact ⟨_, _, a, b, vs, ws, rfl, s _ _ Ext.refl, s' _ _ Ext.refl, p2 _ _ _ Step.refl hr2 (itr_zip s s' rs rs')⟩
/-! ### targets -/
theorem dg_name {i : Nat} {x : Str} (hN : X.N.Nodup) (hi : X.N[i]? = some x) (hx : Loc X.env.scope x) (hf : X.fn x = true ∨ X.env.scope.names.lookup x = some .local) : DG Γ X (.Name x pos) [i] (fun d en h => .ok (en.set i (some d)) h) :=
  ⟨_, pg_name hN hi hx hf, fun α h H d v en σ Q hr er rd p => p _ _ _ Step.refl hr ⟨er.set i rd, Agr.set σ i _, .set rd.plain⟩⟩
theorem dgs_nil : DGs Γ X [] [] (fun ds en h => match ds with | [] => .ok en h | _ => .bad) := by
  refine ⟨_, pgs_nil, fun α h H ds vs en σ Q hr er rd p => ?_⟩
  cases rd with
  | nil => exact ⟨rfl, p _ _ _ Step.refl hr ⟨er, Agr.refl, .refl⟩⟩
  | cons _ _ => exact False.elim p
theorem assignEach_cons {e : Expr} {es : List Expr} {env : Env} (h : star e = false) : assignEach (e :: es) env = (false, assign e env) :: assignEach es env := by
  cases e <;> first | rfl | cases h
theorem dgs_cons {e : Expr} {es : List Expr} {sl sl' : List Nat} {f : D → En → Hh → R En} {g : List D → En → Hh → R En} (hs : star e = false) (he : DG Γ X e sl f) (hes : DGs Γ X es sl' g) :
    DGs Γ X (e :: es) (sl ++ sl') (fun ds en h => match ds with | d :: ds => bnd (f d en h) fun en1 h1 => g ds en1 h1 | [] => .bad) := by
  obtain ⟨t, pt, k⟩ := he.ex
  obtain ⟨u, pu, l⟩ := hes.ex
  refine ⟨_, pgs_cons pt pu (by rw [assignEach_cons hs]; rfl), fun α h H ds vs en σ Q hr er rd p => ?_⟩
  cases rd with
  | nil => exact False.elim p
  | cons r rs =>
    dsimp only at p
    rw [noExc_bnd] at p
    refine ⟨_, _, rfl, k _ _ _ _ _ _ _ _ hr er r (p.bnd fun en1 h1 α1 H1 σ1 st1 hr1 r1 p1 => ?_)⟩
    refine l _ _ _ _ _ _ _ _ hr1 r1.1 (rs.mono st1) ?_
    cases e : noExc (g _ en1 h1) with
    | ok en2 h2 =>
      rw [e] at p1
      exact fun α2 H2 σ2 st2 hr2 r2 => p1 _ _ _ st2 hr2 ⟨r2.1, r1.2.1.trans r2.2.1, r1.2.2.trans r2.2.2⟩
    | exc c x h2 => rw [e] at p1; exact p1
    | bad => rw [e] at p1; exact p1
theorem PG.or {tg : Expr} {t u : TG} (a : PG X tg t) (b : PG X tg u) : PG X tg (fun v σ H Q => t v σ H Q ∨ u v σ H Q) :=
  ⟨fun pins s σ H v w Q I r h => h.elim (a.run pins s σ H v w Q I r) (b.run pins s σ H v w Q I r)⟩
theorem assignEach_len {env : Env} : ∀ {es : List Expr}, (assignEach es env).length = es.length
  | [] => rfl
  | e :: es => by
    cases e <;> (show (assignEach es env).length + 1 = es.length + 1; rw [assignEach_len])
theorem assignEach_idx {env : Env} : ∀ {es : List Expr}, es.any star = false → (assignEach es env).findIdx? (·.1) = none
  | [], _ => rfl
  | e :: es, h => by
    rw [List.any_cons, Bool.or_eq_false_iff] at h
    rw [assignEach_cons h.1, List.findIdx?_cons]
    simp only [Bool.false_eq_true, if_false]
    rw [assignEach_idx h.2]
    rfl
theorem dg_tup {es : List Expr} {sl : List Nat} {kk : Nat} {g : List D → En → Hh → R En} (hK : X.K = Γ.K) (hc : X.calm = true) (hs : es.any star = false) (hx : ∀ ds en h, ds.length ≠ es.length → noExc (g ds en h) = .bad) (hes : DGs Γ X es sl g) :
    DG Γ X (.Tuple es kk pos) sl (fun d en h => match d with | .tup ds => g ds en h | x => optR (seqOf h x) fun ds => g ds en h) := by
  obtain ⟨u, pu, l⟩ := hes.ex
  refine ⟨_, PG.or (pg_tup (n := es.length) hc pu assignEach_len (assignEach_idx hs)) (pg_lst (n := es.length) hc pu assignEach_len (assignEach_idx hs)), fun α h H d v en σ Q hr er rd p => ?_⟩
  have key : Pst Γ (REn Γ sl en σ) α H (noExc (optR (seqOf h d) fun ds => g ds en h)) Q (fun _ _ _ => False) → gLst X.K es.length u v σ H Q := fun p' => by
    rw [noExc_opt] at p'
    obtain ⟨ds, e, p'⟩ := Pst.opt p'
    obtain ⟨a, vs, rfl, s, rs⟩ := hr.seq rd e
    have hlen : ds.length = es.length := by
      by_cases c : ds.length = es.length
      · exact c
      · rw [hx ds en h c] at p'
        exact False.elim p'
    exact ⟨a, vs, rfl, by rw [hK]; exact s, by rw [← rs.length]; exact hlen, l _ _ _ _ _ _ _ _ hr er rs p'⟩
  cases rd with
  | @tup a vs ds s rs =>
    have p' : Pst Γ (REn Γ sl en σ) α H (noExc (g ds en h)) Q (fun _ _ _ => False) := p
    have hlen : ds.length = es.length := by
      by_cases c : ds.length = es.length
      · exact c
      · rw [hx ds en h c] at p'
        exact False.elim p'
    exact .inl ⟨a, vs, rfl, by rw [hK]; exact s, by rw [← rs.length]; exact hlen, l _ _ _ _ _ _ _ _ hr er rs p'⟩
  | _ => exact .inr (key p)
theorem dg_sub {o i : Expr} {f g : En → Hh → R D} (ho : DE Γ X W o f) (hi : DE Γ X W i g)
    (ha : ∀ v, assign (.Subscript o i pos) X.env v = (do
      let ov ← holding [v] (eval o X.env)
      let iv ← holding [v, ov] (eval i X.env)
      standAt pos
      holding [v, ov, iv] (setItem ov iv v)
      release [v, ov, iv] [])) : DG Γ X (.Subscript o i pos) [] (fun d en h => bnd (f en h) fun x h1 => bnd (g en h1) fun y h2 => bnd (setAt x y d h2) fun _ h3 => .ok en h3) := by
  obtain ⟨t, pt, k⟩ := ho.ex
  obtain ⟨u, pu, l⟩ := hi.ex
  refine ⟨_, pg_sub pt pu set_list ha, fun α h H d v en σ Q hr er rd p => ?_⟩
  rw [noExc_bnd] at p
  refine k _ _ _ _ _ _ hr er (Pst.noExc (p.bnd fun x h1 α1 H1 xv st1 hr1 r1 p1 => ?_))
  rw [noExc_bnd] at p1
  refine l _ _ _ _ _ _ hr1 (er.mono st1) (Pst.noExc (p1.bnd fun y h2 α2 H2 yv st2 hr2 r2 p2 => ?_))
  have r1' := r1.mono st2
  cases r1' <;> first | exact False.elim p2 | skip
  rename_i n a han
  cases r2 <;> first | exact False.elim p2 | skip
  rename_i kk
  have p3 : Pst Γ (REn Γ [] en σ) α2 H2 (noExc (bnd (optR (lstOf h2 n) fun ds => optR (L2.ixN ds.length kk) fun j => R.ok () (h2.set n (.lst (ds.set j d)))) fun _ h3 => .ok en h3)) Q (fun _ _ _ => False) := p2
  cases q1 : lstOf h2 n with
  | none => rw [q1] at p3; exact False.elim p3
  | some ds =>
    cases q2 : L2.ixN ds.length kk with
    | none => rw [q1, optR_some, q2] at p3; exact False.elim p3
    | some j =>
      rw [q1, optR_some, q2] at p3
      obtain ⟨vs, e, rs⟩ := hr2.lst han (lstOf_some q1)
      refine ⟨a, vs, kk, j, rfl, rfl, e, by rw [← rs.length]; exact q2, ?_⟩
      have st := Step.set (K := Γ.K) (vs' := vs.set j v) e (List.mem_of_getElem? han)
      exact p3 _ _ _ st (hr2.set han e (Reps.set ((rd.mono st1).mono st2) j rs)) ⟨((er.mono st1).mono st2).mono st, Agr.refl, .refl⟩
/-! ### calls -/
def PstC (Γ : Wd) (own : Bool) (α : Al) (H : Hp) (r : R D) (Q : V → Hp → Prop) (E : XK) : Prop := match own with
  | false => Pst Γ (RV Γ) α H r Q E
  | true => PstF Γ α H (bnd r ownOfD) Q E
def spF (Γ : Wd) (fs : List Fn) (k i n : Nat) (own : Bool) : Sp := fun vs H Q E => vs.length = n ∧ ∃ α h ds, HR Γ.K α h H ∧ Reps Γ.K α H ds vs ∧ PstC Γ own α H (callF fs k i ds h) Q E
theorem callF_len {fs : List Fn} {k i : Nat} {ds : List D} {h : Hh} {own : Bool} {α : Al} {H : Hp} {Q : V → Hp → Prop} {E : XK} {f : Fn} (hf : fget fs i = some f) (p : PstC Γ own α H (callF fs k i ds h) Q E) : ds.length = f.ps.length := by
  have bad : ¬ PstC Γ own α H .bad Q E := fun z => by cases own <;> exact z
  cases k with
  | zero => exact (bad p).elim
  | succ k =>
    unfold callF at p
    rw [hf] at p
    dsimp only at p
    by_cases c : ds.length = f.ps.length
    · exact c
    · rw [if_neg c] at p; exact (bad p).elim
section
variable {fs : List Fn} {k i : Nat} {f : Fn} {a : Addr} {fd : FuncData}
theorem de_call {e : Expr} {es : List Expr} {g : En → Hh → R (List D)} (ho : f.own = false) (hf : fget fs i = some f) (F : FnG X.prog X.w X.K X.mg X.base (L2.CX X.prog X.w) k a fd f.ps (spF Γ fs k i f.ps.length f.own)) (hr : Room k X.A) (gd : X.A.guards = some []) (hg : Gl X f.name)
    (hm : X.mg f.name = some (.ref a)) (hk : PySem.W.keepIn X.K (.ref a) = true) (hb : Binds X.K fd f.ps []) (tk : Takes X W) (hs : (e :: es).any star = false) (hdb : (f.name == ("__debug__" : Str)) = false) (hes : DA Γ X W (e :: es) g) :
    DE Γ X W (.Call (.Name f.name p) (e :: es) [] pos) (fun en h => bnd (g en h) fun ds h1 => callF fs k i ds h1) := by
  obtain ⟨t, pt, l⟩ := hes.ex
  rw [List.any_cons, Bool.or_eq_false_iff] at hs
  refine ⟨_, pe_callG F hr gd hg hm hk hb (fun σ => passAt tk σ) pt hdb (starEach_cons hs.1) (starEach_any hs.2), fun α h H en σ Q hr er p => l _ _ _ _ _ _ hr er (p.bnd fun ds h1 α1 H1 vs st1 hr1 r1 p1 => ?_)⟩
  have p2 : PstC Γ f.own α1 H1 (callF fs k i ds h1) Q (fun c d H' => W c d σ H') := by rw [ho]; exact p1
  exact ⟨by rw [← r1.length]; exact callF_len hf p2, α1, h1, ds, hr1, r1, p2⟩
theorem de_call0 (ho : f.own = false) (hf : fget fs i = some f) (F : FnG X.prog X.w X.K X.mg X.base (L2.CX X.prog X.w) k a fd f.ps (spF Γ fs k i f.ps.length f.own)) (hr : Room k X.A) (gd : X.A.guards = some []) (hg : Gl X f.name)
    (hm : X.mg f.name = some (.ref a)) (hk : PySem.W.keepIn X.K (.ref a) = true) (hb : Binds X.K fd f.ps []) (tk : Takes X W) (hdb : (f.name == ("__debug__" : Str)) = false) :
    DE Γ X W (.Call (.Name f.name p) [] [] pos) (fun en h => bnd (.ok [] h) fun ds h1 => callF fs k i ds h1) := by
  refine ⟨_, pe_callG0 F hr gd hg hm hk hb (fun σ => passAt tk σ) hdb, fun α h H en σ Q hr er p => ?_⟩
  have p1 : Pst Γ (RV Γ) α H (callF fs k i [] h) Q (fun c d H' => W c d σ H') := p
  have p2 : PstC Γ f.own α H (callF fs k i [] h) Q (fun c d H' => W c d σ H') := by rw [ho]; exact p1
  exact ⟨callF_len hf p2, α, h, [], hr, .nil, p2⟩
theorem df_call {e : Expr} {es : List Expr} {g : En → Hh → R (List D)} (ho : f.own = true) (hf : fget fs i = some f) (F : FnG X.prog X.w X.K X.mg X.base (L2.CX X.prog X.w) k a fd f.ps (spF Γ fs k i f.ps.length f.own)) (hr : Room k X.A) (gd : X.A.guards = some []) (hg : Gl X f.name)
    (hm : X.mg f.name = some (.ref a)) (hk : PySem.W.keepIn X.K (.ref a) = true) (hb : Binds X.K fd f.ps []) (tk : Takes X W) (hs : (e :: es).any star = false) (hdb : (f.name == ("__debug__" : Str)) = false) (hes : DA Γ X W (e :: es) g) :
    DF Γ X W (.Call (.Name f.name p) (e :: es) [] pos) (fun en h => bnd (g en h) fun ds h1 => bnd (callF fs k i ds h1) ownOfD) := by
  obtain ⟨t, pt, l⟩ := hes.ex
  rw [List.any_cons, Bool.or_eq_false_iff] at hs
  refine ⟨_, pe_callG F hr gd hg hm hk hb (fun σ => passAt tk σ) pt hdb (starEach_cons hs.1) (starEach_any hs.2), fun α h H en σ Q hr er p => l _ _ _ _ _ _ hr er (p.bnd fun ds h1 α1 H1 vs st1 hr1 r1 p1 => ?_)⟩
  have p2 : PstC Γ f.own α1 H1 (callF fs k i ds h1) Q (fun c d H' => W c d σ H') := by rw [ho]; exact p1
  exact ⟨by rw [← r1.length]; exact callF_len hf p2, α1, h1, ds, hr1, r1, p2⟩
theorem df_call0 (ho : f.own = true) (hf : fget fs i = some f) (F : FnG X.prog X.w X.K X.mg X.base (L2.CX X.prog X.w) k a fd f.ps (spF Γ fs k i f.ps.length f.own)) (hr : Room k X.A) (gd : X.A.guards = some []) (hg : Gl X f.name)
    (hm : X.mg f.name = some (.ref a)) (hk : PySem.W.keepIn X.K (.ref a) = true) (hb : Binds X.K fd f.ps []) (tk : Takes X W) (hdb : (f.name == ("__debug__" : Str)) = false) :
    DF Γ X W (.Call (.Name f.name p) [] [] pos) (fun en h => bnd (.ok [] h) fun ds h1 => bnd (callF fs k i ds h1) ownOfD) := by
  refine ⟨_, pe_callG0 F hr gd hg hm hk hb (fun σ => passAt tk σ) hdb, fun α h H en σ Q hr er p => ?_⟩
  have p1 : PstF Γ α H (bnd (callF fs k i [] h) ownOfD) Q (fun c d H' => W c d σ H') := p
  have p2 : PstC Γ f.own α H (callF fs k i [] h) Q (fun c d H' => W c d σ H') := by rw [ho]; exact p1
  exact ⟨callF_len hf p2, α, h, [], hr, .nil, p2⟩
/-- names of keywords -/
def kwNames : List Keyword → Option (List Str)
  | [] => some []
  | ⟨some n, _, _⟩ :: r => (kwNames r).map (n :: ·)
  | ⟨none, _, _⟩ :: _ => none
theorem kw_all {env : Env} {pos : Pos} : ∀ {kws : List Keyword} {ks : List Str}, kwNames kws = some ks → (backToKw pos (keywordEach kws env)).all (·.1.isSome) = true ∧ (backToKw pos (keywordEach kws env)).filterMap (·.1) = ks ∧ (backToKw pos (keywordEach kws env)).any (·.1.isNone) = false
  | [], ks, h => by
    cases h
    exact ⟨rfl, rfl, rfl⟩
  | ⟨none, _, _⟩ :: _, ks, h => by cases h
  | ⟨some n, v, q⟩ :: r, ks, h => by
    obtain ⟨ks', e, rfl⟩ := Option.map_eq_some_iff.mp h
    obtain ⟨a, b, c⟩ := kw_all (env := env) (pos := pos) e
    exact ⟨a, congrArg (n :: ·) b, c⟩
structure DK (Γ : Wd) (X : Cx) (W : WX) (kws : List Keyword) (f : En → Hh → R (List D)) : Prop where
  ex : ∃ t, PK X kws t ∧ ∀ α h H en σ Q, HR Γ.K α h H → ER Γ α H en σ → Pst Γ (RVs Γ) α H (f en h) Q (fun c d H' => W c d σ H') → t σ H Q
theorem dk_nil : DK Γ X W [] (fun _ h => .ok [] h) := ⟨_, pk_nil, fun _ _ _ _ _ _ hr _ p => p _ _ _ Step.refl hr .nil⟩
theorem dk_cons {n : Option Str} {q : Pos} {e : Expr} {es : List Keyword} {f : En → Hh → R D} {g : En → Hh → R (List D)} (he : DE Γ X W e f) (hes : DK Γ X W es g) :
    DK Γ X W (⟨n, e, q⟩ :: es) (fun en h => bnd (f en h) fun d h1 => bnd (g en h1) fun ds h2 => .ok (d :: ds) h2) := by
  obtain ⟨t, pt, k⟩ := he.ex
  obtain ⟨u, pu, l⟩ := hes.ex
  refine ⟨_, pk_cons pt pu, fun α h H en σ Q hr er p => k _ _ _ _ _ _ hr er (p.bnd fun d h1 α1 H1 v st1 hr1 r1 p1 => ?_)⟩
  refine l _ _ _ _ _ _ hr1 (er.mono st1) (p1.bnd fun ds h2 α2 H2 vs st2 hr2 r2 p2 => ?_)
  exact p2 _ _ _ Step.refl hr2 (.cons (r1.mono st2) r2)
theorem reps_getD {K : PySem.W.Frag} {α : Al} {H : Hp} : ∀ {zs : List D} {ws : List V}, Reps K α H zs ws → ∀ j, Rep K α H (zs.getD j .non) (ws.getD j .non)
  | _, _, .nil, j => by
    simp only [List.getD_nil]
    exact .non
  | _, _, .cons r rs, 0 => by simpa using r
  | _, _, .cons r rs, j + 1 => by simpa using reps_getD rs j
theorem reps_kw {K : PySem.W.Frag} {α : Al} {H : Hp} {zs : List D} {ws : List V} (r : Reps K α H zs ws) : ∀ π : List Nat, Reps K α H (π.map fun j => zs.getD j .non) (π.map fun j => ws.getD j .non)
  | [] => .nil
  | j :: π => .cons (reps_getD r j) (reps_kw r π)
theorem reps_app {K : PySem.W.Frag} {α : Al} {H : Hp} {zs : List D} {ws : List V} (r : Reps K α H zs ws) : ∀ {ds : List D} {vs : List V}, Reps K α H ds vs → Reps K α H (ds ++ zs) (vs ++ ws)
  | _, _, .nil => r
  | _, _, .cons a b => .cons a (reps_app r b)
theorem kw_fin {kws : List Keyword} {gk : En → Hh → R (List D)} {π : List Nat} (ho : f.own = false) (hf : fget fs i = some f) {u : TA} (lu : ∀ α h H en σ Q, HR Γ.K α h H → ER Γ α H en σ → Pst Γ (RVs Γ) α H (gk en h) Q (fun c d H' => W c d σ H') → u σ H Q)
    {α1 : Al} {H1 : Hp} {ds : List D} {vs : List V} {h1 : Hh} {en : En} {σ : L2.St} {Q : V → Hp → Prop} (hr1 : HR Γ.K α1 h1 H1) (er1 : ER Γ α1 H1 en σ) (r1 : Reps Γ.K α1 H1 ds vs)
    (p1 : Pst Γ (RV Γ) α1 H1 (bnd (gk en h1) fun zs h2 => if zs.length = π.length then callF fs k i (kwD π ds zs) h2 else .bad) Q (fun c d H' => W c d σ H')) :
    u σ H1 fun zs H2 => zs.length = π.length ∧ spF Γ fs k i f.ps.length f.own (vs ++ π.map fun j => zs.getD j .non) H2 Q (fun c d H' => W c d σ H') := by
  refine lu _ _ _ _ _ _ hr1 er1 (p1.bnd fun zs h2 α2 H2 ws st2 hr2 r2 p2 => ?_)
  by_cases c : zs.length = π.length
  · rw [if_pos c] at p2
    have p3 : PstC Γ f.own α2 H2 (callF fs k i (kwD π ds zs) h2) Q (fun c d H' => W c d σ H') := by rw [ho]; exact p2
    have rr : Reps Γ.K α2 H2 (kwD π ds zs) (vs ++ π.map fun j => ws.getD j .non) := reps_app (reps_kw r2 π) (r1.mono st2)
    exact ⟨by rw [← r2.length]; exact c, by rw [← rr.length]; exact callF_len hf p3, α2, h2, _, hr2, rr, p3⟩
  · rw [if_neg c] at p2; exact False.elim p2
theorem de_callK {e : Expr} {es : List Expr} {kws : List Keyword} {g gk : En → Hh → R (List D)} {m : Nat} {ks : List Str} {π : List Nat} (ho : f.own = false) (hf : fget fs i = some f) (F : FnG X.prog X.w X.K X.mg X.base (L2.CX X.prog X.w) k a fd f.ps (spF Γ fs k i f.ps.length f.own)) (hr : Room k X.A) (gd : X.A.guards = some []) (hg : Gl X f.name)
    (hm : X.mg f.name = some (.ref a)) (hk : PySem.W.keepIn X.K (.ref a) = true) (hb : KB X.K fd f.ps m ks π) (tk : Takes X W) (hs : (e :: es).any star = false) (hn : kwNames kws = some ks) (hdb : (f.name == ("__debug__" : Str)) = false) (hes : DA Γ X W (e :: es) g) (hks : DK Γ X W kws gk) :
    DE Γ X W (.Call (.Name f.name p) (e :: es) kws pos) (fun en h => bnd (g en h) fun ds h1 => bnd (gk en h1) fun zs h2 => if zs.length = π.length then callF fs k i (kwD π ds zs) h2 else .bad) := by
  obtain ⟨u, pu, lu⟩ := hks.ex
  obtain ⟨a1, a2, a3⟩ := kw_all (env := X.env) (pos := pos) hn
  obtain ⟨t, pt, l⟩ := hes.ex
  have hs' := hs
  rw [List.any_cons, Bool.or_eq_false_iff] at hs'
  refine ⟨_, pe_callGK F hr gd hg hm hk hb (fun σ => passAt tk σ) pt pu a1 a2 hdb (starEach_cons hs'.1) (by rw [starEach_any hs, a3]; rfl), fun α h H en σ Q hr er p => l _ _ _ _ _ _ hr er (p.bnd fun ds h1 α1 H1 vs st1 hr1 r1 p1 => ?_)⟩
  exact kw_fin (kws := kws) ho hf lu hr1 (er.mono st1) r1 p1
theorem de_callK0 {kws : List Keyword} {gk : En → Hh → R (List D)} {m : Nat} {ks : List Str} {π : List Nat} (ho : f.own = false) (hf : fget fs i = some f) (F : FnG X.prog X.w X.K X.mg X.base (L2.CX X.prog X.w) k a fd f.ps (spF Γ fs k i f.ps.length f.own)) (hr : Room k X.A) (gd : X.A.guards = some []) (hg : Gl X f.name)
    (hm : X.mg f.name = some (.ref a)) (hk : PySem.W.keepIn X.K (.ref a) = true) (hb : KB X.K fd f.ps m ks π) (tk : Takes X W) (hn : kwNames kws = some ks) (hdb : (f.name == ("__debug__" : Str)) = false) (hks : DK Γ X W kws gk) :
    DE Γ X W (.Call (.Name f.name p) [] kws pos) (fun en h => bnd (.ok [] h) fun ds h1 => bnd (gk en h1) fun zs h2 => if zs.length = π.length then callF fs k i (kwD π ds zs) h2 else .bad) := by
  obtain ⟨u, pu, lu⟩ := hks.ex
  obtain ⟨a1, a2, a3⟩ := kw_all (env := X.env) (pos := pos) hn
  refine ⟨_, pe_callGK0 F hr gd hg hm hk hb (fun σ => passAt tk σ) pu a1 a2 hdb (by rw [a3]; rfl), fun α h H en σ Q hr er p => ?_⟩
  exact kw_fin (kws := kws) (ds := []) (vs := []) ho hf lu hr er .nil p
end
end
end PD

set_option Elab.async false
set_option linter.all false
set_option maxRecDepth 100000
set_option maxHeartbeats 1000000
namespace PD
open PySem PySem.Spec PyProof.Rows L2
section
variable {Γ : Wd} {X : Cx} {W : WX} {pos p : Pos}
/-! ### comprehensions -/
theorem wipe_get {σ : L2.St} {j : Nat} : ∀ {vs : List Nat}, j ∉ vs → (L2.wipe σ vs)[j]? = σ[j]?
  | [], _ => rfl
  | v :: vs, h => by
    unfold L2.wipe
    rw [List.getElem?_set_ne (fun e => h (by simp [e]))]
    exact wipe_get fun z => h (List.mem_cons_of_mem _ z)
theorem wipe_in {σ : L2.St} {j : Nat} : ∀ {vs : List Nat}, j ∈ vs → j < σ.length → (L2.wipe σ vs)[j]? = some none
  | v :: vs, h, hl => by
    unfold L2.wipe
    by_cases e : v = j
    · subst e
      rw [List.getElem?_set_self (by rw [wipe_length]; exact hl)]
    · rw [List.getElem?_set_ne e]
      exact wipe_in ((List.mem_cons.mp h).resolve_left fun z => e z.symm) hl
theorem wipe_agr {sl vs : List Nat} {σ σ2 : L2.St} (a : Agr sl (L2.wipe σ vs) σ2) (hs : ∀ j ∈ sl, j ∈ vs) : L2.wipe σ2 vs = L2.wipe σ vs := by
  have hl : σ2.length = σ.length := by rw [a.1, wipe_length]
  apply List.ext_getElem?
  intro j
  by_cases hj : j ∈ vs
  · by_cases hn : j < σ.length
    · rw [wipe_in hj hn, wipe_in hj (by rw [hl]; exact hn)]
    · rw [List.getElem?_eq_none (by rw [wipe_length]; omega), List.getElem?_eq_none (by rw [wipe_length]; omega)]
  · rw [wipe_get hj, a.2 j fun z => hj (hs j z)]
structure DTs (Γ : Wd) (X : Cx) (W : WX) (es : List Expr) (f : En → Hh → R Bool) : Prop where
  pt : PTs X es (tTD Γ W f)
theorem dts_nil : DTs Γ X W [] (fun _ h => .ok true h) := ⟨⟨fun pins s σ H Q I ⟨α, h, en, hr, er, p⟩ => pts_nil.run pins s σ H Q I (p _ _ _ Step.refl hr rfl)⟩⟩
theorem dts_one {c : Expr} {f : En → Hh → R Bool} (h : DT Γ X W c f) : DTs Γ X W [c] f := ⟨pts_one h.pt⟩
theorem ER.monoF {Γ : Wd} {α α1 : Al} {H H1 : Hp} {en : En} {σ : L2.St} {q : Addr} (s : StepF Γ.K α H α1 H1 q) (r : ER Γ α H en σ) : ER Γ α1 H1 en σ :=
  ⟨r.len, fun i d h => by
    obtain ⟨v, e0, z⟩ := r.get i d h
    refine ⟨v, e0, ?_⟩
    cases z with
    | val z => exact .val (z.monoE s.toExt)
    | err hx e hc r => exact .err hx (s.frm _ _ hc e) (fun z => (s.new _ z).elim hc fun q => by rw [e] at q; cases q) (r.monoE s.toExt)
    | own e ho hc hb rs => exact .own (s.frm _ _ hc e) (by rw [s.ho]; exact List.mem_cons_of_mem _ ho) (fun z => (s.new _ z).elim hc fun q => by rw [e] at q; cases q) (by rw [s.hb]; exact hb) (rs.monoE s.toExt), r.uq⟩
theorem StepF.thenS {K : PySem.W.Frag} {α α1 α2 : Al} {H H1 H2 : Hp} {q : Addr} (a : StepF K α H α1 H1 q) (b : Step K α1 H1 α2 H2) : StepF K α H α2 H2 q := by
  refine ⟨a.toExt.trans b.toExt, by rw [b.ho, a.ho], b.hb.trans a.hb, a.q0, fun x hx => ?_, fun x o hx e => ?_⟩
  · rcases b.new x hx with h | h
    · exact a.new x h
    · by_cases hm : x ∈ α.c
      · exact .inl hm
      · cases q : H x with
        | none => exact .inr rfl
        | some o =>
          rw [a.frm x o hm q] at h
          cases h
  · refine b.frm x o (fun hm => ?_) (a.frm x o hx e)
    rcases a.new x hm with h | h
    · exact hx h
    · rw [h] at e; cases e
/-- the new list itself is written -/
theorem StepF.write {K : PySem.W.Frag} {α α1 : Al} {H H1 : Hp} {q : Addr} {vs vs' : List V} (a : StepF K α H α1 H1 q) (e : H1 q = some (.lst vs)) : StepF K α H α1 (upd H1 q (.lst vs')) q :=
  .of a.pre (fun x xs s => over_tup e (a.tup x xs s)) (fun x xs s => over_ro e (a.ro x xs s)) a.ho a.hb a.q0 a.new fun x o hx e' => by
    rw [upd_ne (ne_of_none e' a.q0)]
    exact a.frm x o hx e'
theorem StepF.mem {K : PySem.W.Frag} {α α1 : Al} {H H1 : Hp} {q : Addr} (a : StepF K α H α1 H1 q) : q ∈ α1.o := by rw [a.ho]; exact List.mem_cons_self ..
/-- an evaluation from where the new list stands, what is wanted being told from the start -/
theorem PstF.at {A B : Type} {Rl : Al → Hp → A → B → Prop} {α α1 : Al} {H H1 : Hp} {Q : V → Hp → Prop} {Q' : B → Hp → Prop} {E E' : XK} {r : R A} {f : A → Hh → R (List D)} (p : PstF Γ α H (noExc (PD.bnd r f)) Q E)
    (k : ∀ a h' α2 H2 b, Step Γ.K α1 H1 α2 H2 → HR Γ.K α2 h' H2 → Rl α2 H2 a b → PstF Γ α H (noExc (f a h')) Q E → Q' b H2) : Pst Γ Rl α1 H1 (noExc r) Q' E' := by
  cases r with
  | ok a h => exact fun α2 H2 b st hr rl => k a h α2 H2 b st hr rl p
  | exc c x h => exact False.elim p
  | bad => exact p
theorem drop_at {A : Type} {l : List A} {i : Nat} {x : A} (h : l[i]? = some x) : l.drop i = x :: l.drop (i + 1) := by
  obtain ⟨hl, e⟩ := List.getElem?_eq_some_iff.mp h
  rw [List.drop_eq_getElem_cons hl, e]
theorem df_comp {elt tg iter : Expr} {ifs : List Expr} {scope : Scope} {own : List (Str × Nat)} {sl : List Nat} {fi : En → Hh → R It} {fg : D → En → Hh → R En} {ft : En → Hh → R Bool} {fe : En → Hh → R D}
    (hc : X.calm = true) (hN : X.N.Nodup) (hi : DI Γ X W tg iter fi) (ok : BlkOk X.N X.env.scope scope own) (hsl : ∀ j ∈ sl, j ∈ own.map (·.2))
    (hg : ∀ (s : Shared) (H : Hp) (C : Addr) (cl : List (Str × Addr)) (fp : List Addr), DG Γ (X.blk s H scope (compEnvC scope cl C X.env) fp) tg sl fg)
    (ht : ∀ (s : Shared) (H : Hp) (C : Addr) (cl : List (Str × Addr)) (fp : List Addr), DTs Γ (X.blk s H scope (compEnvC scope cl C X.env) fp) (fun _ _ _ _ => False) ifs ft)
    (he : ∀ (s : Shared) (H : Hp) (C : Addr) (cl : List (Str × Addr)) (fp : List Addr), DE Γ (X.blk s H scope (compEnvC scope cl C X.env) fp) (fun _ _ _ _ => False) elt fe)
    (hs : ∀ x, foldedSetIterable iter X.env x = pure x) :
    ∃ t, (PE X (.ListComp elt [⟨tg, iter, ifs, 0⟩] scope pos) t ∧
      (∀ {i : Nat} {y : Str} {py spos : Pos}, X.N[i]? = some y → X.env.scope.names.lookup y = some .local → swapsWith (.ListComp elt [⟨tg, iter, ifs, 0⟩] scope pos) (some (.Name y py)) spos.line X.env = pure true →
        PS X (.Assign [.Name y py] (.ListComp elt [⟨tg, iter, ifs, 0⟩] scope pos) spos) (tAsg t (gName i)))) ∧
      ∀ α h H en σ Q, HR Γ.K α h H → ER Γ α H en σ → PstF Γ α H (bnd (fi en h) fun I h1 => if I.length ≤ sizeLine then noExc (compL (fun d h2 => bnd (fg d (wipeE en (own.map (·.2))) h2) fun en3 h3 => bnd (ft en3 h3) fun k h4 =>
        if k = true then bnd (fe en3 h4) fun y h5 => .ok (some y) h5 else .ok none h4) I h1) else .bad) Q (fun c d H' => W c d σ H') → t σ H Q := by
  obtain ⟨ti, pi, ki⟩ := hi.ex
  refine ⟨_, ⟨pe_lc hc hN pi ok (fun s H C cl fp => (hg s H C cl fp).pg) (fun s H C cl fp => (ht s H C cl fp).pt) (fun s H C cl fp => (he s H C cl fp).pe) hs, fun hy hyl hsw => ps_setLc hc hN hy hyl hsw pi ok (fun s H C cl fp => (hg s H C cl fp).pg) (fun s H C cl fp => (ht s H C cl fp).pt) (fun s H C cl fp => (he s H C cl fp).pe) hs⟩, fun α h H en σ Q hr er p => ?_⟩
  refine ki _ _ _ _ _ _ hr er (p.bnd fun I h1 α1 H1 J st1 hr1 itr p1 => ?_)
  by_cases hlen : I.length ≤ sizeLine
  · rw [if_pos hlen] at p1
    intro Dd hD
    generalize hbody : (fun (d : D) (h2 : Hh) => bnd (fg d (wipeE en (own.map (·.2))) h2) fun en3 h3 => bnd (ft en3 h3) fun k h4 => if k = true then bnd (fe en3 h4) fun y h5 => R.ok (some y) h5 else R.ok none h4) = body at p1
    have p1' : PstF Γ α1 H1 (noExc (bnd (compL body (I.drop 0) h1) fun r h2 => .ok ([] ++ r) h2)) Q (fun c d H' => W c d σ H') := by
      rw [List.drop_zero]
      cases q : compL body I h1 with
      | ok a h => rw [q] at p1; exact p1
      | exc c x h => rw [q] at p1; exact p1
      | bad => rw [q] at p1; exact p1
    refine ⟨fun i m H' => ∃ α' h' acc accV, StepF Γ.K α1 H1 α' H' Dd ∧ H' Dd = some (.lst accV) ∧ HR Γ.K α' h' H' ∧ Reps Γ.K α' H' acc accV ∧ m + i = I.length ∧ acc.length ≤ i ∧
        PstF Γ α1 H1 (noExc (bnd (compL body (I.drop i) h') fun r h2 => .ok (acc ++ r) h2)) Q (fun c d H' => W c d σ H'),
      ⟨I.length, _, h1, [], [], StepF.made hD, upd_same, hr1.newO hD, .nil, by omega, Nat.le_refl _, p1'⟩, ?_⟩
    rintro i m H' ⟨α', h', acc, accV, st, eD, hr', racc, hm, ha, pp⟩
    have hit := itr α' h' H' st.toExt hr' i (by omega)
    cases e : I[i]? with
    | none =>
      rw [e] at hit
      refine .inl ⟨hit, ?_⟩
      rw [List.drop_eq_nil_of_le (List.getElem?_eq_none_iff.mp e)] at pp
      have pp' : PstF Γ α1 H1 (.ok (acc ++ []) h') Q (fun c d H' => W c d σ H') := pp
      rw [List.append_nil] at pp'
      exact pp' _ _ _ _ st hr' eD racc
    | some d =>
      rw [e] at hit
      have hil : i < I.length := (List.getElem?_eq_some_iff.mp e).1
      cases m with
      | zero => omega
      | succ m =>
      refine .inr ⟨hit.1, fun H'' => ∃ α' h' acc accV, StepF Γ.K α1 H1 α' H'' Dd ∧ H'' Dd = some (.lst accV) ∧ HR Γ.K α' h' H'' ∧ Reps Γ.K α' H'' acc accV ∧ m + (i + 1) = I.length ∧ acc.length ≤ i + 1 ∧
        PstF Γ α1 H1 (noExc (bnd (compL body (I.drop (i + 1)) h') fun r h2 => .ok (acc ++ r) h2)) Q (fun c d H' => W c d σ H'), fun H'' hw => ⟨m, Nat.lt_succ_self m, hw⟩, fun x Hx hy => ?_⟩
      obtain ⟨sx, hrx, rx⟩ := hit.2 x Hx hy
      have stx : StepF Γ.K α1 H1 α' Hx Dd := st.thenS sx
      have eDx : Hx Dd = some (.lst accV) := sx.frm Dd _ (fun z => (hr'.dis _ z).1 st.mem) eD
      have raccx := racc.mono sx
      rw [drop_at e] at pp
      unfold compL at pp
      subst hbody
      dsimp only at pp
      rw [bnd_assoc, bnd_assoc] at pp
      -- the target
      refine ⟨α', h', d, wipeE en (own.map (·.2)), hrx, ((er.mono st1).monoF stx).wipe _, rx, PstF.at pp fun en3 h3 α3 H3 σ3 st3 hr3 r3 p3 => ?_⟩
      refine ⟨wipe_agr r3.2.1 hsl, ?_⟩
      have stB : StepF Γ.K α1 H1 α3 H3 Dd := stx.thenS st3
      have eD3 : H3 Dd = some (.lst accV) := st3.frm Dd _ (fun z => (hrx.dis _ z).1 st.mem) eDx
      -- the test
      rw [bnd_assoc] at p3
      refine ⟨α3, h3, en3, hr3, r3.1, Pst.noExc (E := fun _ _ _ => False) (PstF.at p3 fun k h4 α4 H4 kv st4 hr4 r4 p4 => ?_)⟩
      cases r4
      have stA : StepF Γ.K α1 H1 α4 H4 Dd := stB.thenS st4
      have eD4 : H4 Dd = some (.lst accV) := st4.frm Dd _ (fun z => (hr3.dis _ z).1 stB.mem) eD3
      cases k with
      | false =>
        simp only [Bool.false_eq_true, if_false] at p4 ⊢
        refine ⟨α4, h4, acc, accV, stA, eD4, hr4, (raccx.mono st3).mono st4, by omega, by omega, ?_⟩
        have p5 : PstF Γ α1 H1 (noExc (bnd (bnd (compL _ (I.drop (i + 1)) h4) fun r h2 => R.ok r h2) fun r h2 => .ok (acc ++ r) h2)) Q (fun c d H' => W c d σ H') := p4
        rw [bnd_assoc] at p5
        exact p5
      | true =>
        simp only [if_true] at p4 ⊢
        rw [bnd_assoc] at p4
        refine ⟨α4, h4, en3, hr4, r3.1.mono st4, Pst.noExc (E := fun _ _ _ => False) (PstF.at p4 fun y h5 α5 H5 yv st5 hr5 r5 p5 => ?_)⟩
        have stE : StepF Γ.K α1 H1 α5 H5 Dd := stA.thenS st5
        have eD5 : H5 Dd = some (.lst accV) := st5.frm Dd _ (fun z => (hr4.dis _ z).1 stA.mem) eD4
        have racc5 := ((raccx.mono st3).mono st4).mono st5
        refine ⟨accV, eD5, by rw [← racc.length]; omega, α5, h5, acc ++ [y], accV ++ [yv], stE.write eD5, upd_same, hr5.setO eD5 stE.mem, (racc5.append (.cons r5 .nil)).monoE (Stp.set eD5 stE.mem).toExt, by omega, by rw [List.length_append]; simp; omega, ?_⟩
        have p6 : PstF Γ α1 H1 (noExc (bnd (bnd (compL _ (I.drop (i + 1)) h5) fun r h2 => R.ok (y :: r) h2) fun r h2 => .ok (acc ++ r) h2)) Q (fun c d H' => W c d σ H') := p5
        rw [bnd_assoc] at p6
        have e2 : (fun (r : List D) (h2 : Hh) => bnd (R.ok (y :: r) h2) fun r h2 => R.ok (acc ++ r) h2) = fun r h2 => R.ok ((acc ++ [y]) ++ r) h2 := by
          funext r h2
          show R.ok (acc ++ (y :: r)) h2 = _
          rw [List.append_assoc]
          rfl
        rw [e2] at p6
        exact p6
  · rw [if_neg hlen] at p1; exact False.elim p1
end
end PD

set_option Elab.async false
set_option linter.all false
set_option maxRecDepth 100000
set_option maxHeartbeats 1000000
namespace PD
open PySem PySem.Spec PyProof.Rows L2
section
variable {Γ : Wd} {X : Cx} {W : WX} {pos p : Pos}
/-! ### statements -/
theorem dss_nil : DSs Γ X W [] (fun en h => .nx en h) := ⟨_, pss_nil, fun _ _ _ _ _ _ hr er p => p _ _ _ Stp.refl hr er⟩
theorem thenS_post {α : Al} {H : Hp} {r : RS} {f : En → Hh → RS} {Dn : Ends} (p : PstS Γ α H (thenS r f) Dn W) {N : L2.St → Hp → Prop} (k : ∀ en h α' H' σ', Stp Γ.K α H α' H' → HR Γ.K α' h H' → ER Γ α' H' en σ' → PstS Γ α' H' (f en h) Dn W → N σ' H') : PstS Γ α H r { Dn with nx := N } W := by
  cases r with
  | nx en h => exact fun α' H' σ' st hr er => k en h α' H' σ' st hr er (PstS.step st p)
  | rt d h => exact p
  | ro d h => exact p
  | bk en h => exact p
  | ct en h => exact p
  | exc c x en h => exact p
  | bad => exact p
theorem dss_cons {st : Stmt} {rest : List Stmt} {f g : En → Hh → RS} (h1 : DS Γ X W st f) (h2 : DSs Γ X W rest g) : DSs Γ X W (st :: rest) (fun en h => thenS (f en h) g) := by
  obtain ⟨t, pt, k⟩ := h1.ex
  obtain ⟨u, pu, l⟩ := h2.ex
  refine ⟨_, pss_cons pt pu, fun α h H en σ Dn hr er p => k _ _ _ _ _ _ hr er (thenS_post p fun en1 h1 α1 H1 σ1 st1 hr1 er1 p1 => l _ _ _ _ _ _ hr1 er1 p1)⟩
theorem ds_expr {e : Expr} {f : En → Hh → R D} (hs : swapsWith e none pos.line X.env = pure false) (he : DE Γ X W e f) : DS Γ X W (.Expr e pos) (fun en h => bndS (f en h) en fun _ h1 => .nx en h1) := by
  obtain ⟨t, pt, k⟩ := he.ex
  exact ⟨_, ps_expr pt hs, fun α h H en σ Dn hr er p => k _ _ _ _ _ _ hr er (PstS.bnd p er fun d h1 α1 H1 v st1 hr1 r1 p1 => p1 _ _ _ Stp.refl hr1 (er.mono st1))⟩
theorem ds_doc {x j pos'} : DS Γ X W (.Expr (.Constant (.str x) j pos') pos) (fun en h => .nx en h) := ⟨_, ps_doc, fun _ _ _ _ _ _ hr er p => p _ _ _ Stp.refl hr er⟩
theorem ds_ret {e : Expr} {f : En → Hh → R D} (he : DE Γ X W e f) : DS Γ X W (.Return (some e) pos) (fun en h => bndS (f en h) en fun d h1 => .rt d h1) := by
  obtain ⟨t, pt, k⟩ := he.ex
  exact ⟨_, ps_ret pt, fun α h H en σ Dn hr er p => k _ _ _ _ _ _ hr er (PstS.bnd p er fun d h1 α1 H1 v st1 hr1 r1 p1 => p1 _ _ _ Stp.refl hr1 r1)⟩
theorem ds_retN : DS Γ X W (.Return none pos) (fun _ h => .rt .non h) := ⟨_, ps_retN, fun _ _ _ _ _ _ hr er p => p _ _ _ Stp.refl hr .non⟩
theorem ds_pass : DS Γ X W (.Pass pos) (fun en h => .nx en h) := ⟨_, ps_pass, fun _ _ _ _ _ _ hr er p => p _ _ _ Stp.refl hr er⟩
theorem ds_break : DS Γ X W (.Break pos) (fun en h => .bk en h) := ⟨_, ps_break, fun _ _ _ _ _ _ hr er p => p _ _ _ Stp.refl hr er⟩
theorem ds_cont : DS Γ X W (.Continue pos) (fun en h => .ct en h) := ⟨_, ps_continue, fun _ _ _ _ _ _ hr er p => p _ _ _ Stp.refl hr er⟩
theorem ds_if {c : Expr} {a b : List Stmt} {w : En → Hh → R Bool} {f g : En → Hh → RS} (hc : DT Γ X W c w) (ha : DSs Γ X W a f) (hb : DSs Γ X W b g) : DS Γ X W (.If c a b pos) (fun en h => bndS (w en h) en fun k h1 => if k = true then f en h1 else g en h1) := by
  obtain ⟨z, pz, n⟩ := hc.ex
  obtain ⟨t, pt, k⟩ := ha.ex
  obtain ⟨u, pu, l⟩ := hb.ex
  refine ⟨_, ps_if pz pt pu, fun α h H en σ Dn hr er p => n _ _ _ _ _ _ hr er (PstS.bnd p er fun d h1 α1 H1 v st1 hr1 r1 p1 => ?_)⟩
  cases r1
  cases d with
  | true => rw [if_pos rfl] at p1 ⊢; exact k _ _ _ _ _ _ hr1 (er.mono st1) p1
  | false => rw [if_neg (by decide)] at p1 ⊢; exact l _ _ _ _ _ _ hr1 (er.mono st1) p1
theorem ds_asg {tg e : Expr} {sl : List Nat} {f : En → Hh → R D} {g : D → En → Hh → R En} (hs : swapsWithSole [tg] e pos.line X.env = pure false) (hw : swappedStores [tg] e X.env = pure none) (h1 : star tg = false) (he : DE Γ X W e f) (hg : DG Γ X tg sl g) :
    DS Γ X W (.Assign [tg] e pos) (fun en h => bndS (f en h) en fun d h1 => bndS (noExc (g d en h1)) en fun en2 h2 => .nx en2 h2) := by
  obtain ⟨t, pt, k⟩ := he.ex
  obtain ⟨u, pu, l⟩ := hg.ex
  refine ⟨_, ps_asg pt pu hs hw (by rw [assignEach_cons h1]; rfl), fun α h H en σ Dn hr er p => k _ _ _ _ _ _ hr er (PstS.bnd p er fun d h1 α1 H1 v st1 hr1 r1 p1 => ?_)⟩
  refine l _ _ _ _ _ _ _ _ hr1 (er.mono st1) r1 ?_
  cases e : noExc (g d en h1) with
  | ok en2 h2 => rw [e] at p1; exact fun α2 H2 σ2 st2 hr2 r2 => p1 _ _ _ st2.stp hr2 r2.1
  | exc c x h2 =>
    exfalso
    revert e
    cases g d en h1 <;> intro e <;> cases e
  | bad => rw [e] at p1; exact p1
theorem ds_set {i : Nat} {x : Str} {e : Expr} {pos' : Pos} {f : En → Hh → R D} (hN : X.N.Nodup) (hi : X.N[i]? = some x) (hx : Loc X.env.scope x) (hf : X.fn x = true ∨ X.env.scope.names.lookup x = some .local) (hs : swapsWith e (some (.Name x pos')) pos.line X.env = pure false) (he : DE Γ X W e f) :
    DS Γ X W (.Assign [.Name x pos'] e pos) (fun en h => bndS (f en h) en fun d h1 => .nx (en.set i (some d)) h1) := by
  obtain ⟨t, pt, k⟩ := he.ex
  exact ⟨_, ps_set hN hi hx pt hs hf, fun α h H en σ Dn hr er p => k _ _ _ _ _ _ hr er (PstS.bnd p er fun d h1 α1 H1 v st1 hr1 r1 p1 => p1 _ _ _ Stp.refl hr1 ((er.mono st1).set i r1))⟩
theorem er_own {α α' : Al} {h : Hh} {H H' : Hp} {en : En} {σ : L2.St} {i : Nat} {q : Addr} {ds : List D} {vs : List V} {h' : Hh} (hr0 : HR Γ.K α h H) (er : ER Γ α H en σ) (st : StepF Γ.K α H α' H' q) (hr : HR Γ.K α' h' H') (e : H' q = some (.lst vs)) (rs : Reps Γ.K α' H' ds vs) : ER Γ α' H' (en.set i (some (.own ds))) (σ.set i (some (.ref q))) := by
  refine (er.monoF st).setG i (.own e st.mem (fun z => (hr.dis q z).1 st.mem) (by rw [st.hb]; exact (hr0.fresh st.q0).2.2) rs) fun a _ ds' j _ ev hj h1 h2 => ?_
  cases ev
  obtain ⟨ws, z⟩ := er.old h1 h2
  rw [st.q0] at z
  cases z
/-- name = new list, as a list that is written -/
theorem ds_setO {i : Nat} {x : Str} {e : Expr} {pos' : Pos} {f : En → Hh → R (List D)} (hN : X.N.Nodup) (hi : X.N[i]? = some x) (hx : Loc X.env.scope x) (hf : X.fn x = true ∨ X.env.scope.names.lookup x = some .local) (hs : swapsWith e (some (.Name x pos')) pos.line X.env = pure false) (he : DF Γ X W e f) :
    DS Γ X W (.Assign [.Name x pos'] e pos) (fun en h => bndS (bnd (f en h) fun ds h1 => .ok (.own ds) h1) en fun d h1 => .nx (en.set i (some d)) h1) := by
  obtain ⟨t, pt, k⟩ := he.ex
  refine ⟨_, ps_set hN hi hx pt hs hf, fun α h H en σ Dn hr er p => k _ _ _ _ _ _ hr er ?_⟩
  have p' : PstS Γ α H (bndS (f en h) en fun ds h1 => .nx (en.set i (some (.own ds))) h1) Dn W := by
    cases q : f en h <;> rw [q] at p <;> exact p
  exact PstS.bndF p' er fun ds h1 α1 H1 q vs st1 hr1 e1 r1 p1 => p1 _ _ _ Stp.refl hr1 (er_own hr er st1 hr1 e1 r1)
/-- name = [..], the comprehension's own store -/
theorem ds_setLc {i : Nat} {x : Str} {e : Expr} {pos' : Pos} {f : En → Hh → R (List D)} (h : ∃ t, PS X (.Assign [.Name x pos'] e pos) (tAsg t (gName i)) ∧ ∀ α h H en σ Q, HR Γ.K α h H → ER Γ α H en σ → PstF Γ α H (f en h) Q (fun c d H' => W c d σ H') → t σ H Q) :
    DS Γ X W (.Assign [.Name x pos'] e pos) (fun en h => bndS (bnd (f en h) fun ds h1 => .ok (.lst ds) h1) en fun d h1 => .nx (en.set i (some d)) h1) ∧
    DS Γ X W (.Assign [.Name x pos'] e pos) (fun en h => bndS (bnd (f en h) fun ds h1 => .ok (.own ds) h1) en fun d h1 => .nx (en.set i (some d)) h1) := by
  obtain ⟨t, pt, k⟩ := h
  refine ⟨⟨_, pt, fun α h H en σ Dn hr er p => k _ _ _ _ _ _ hr er (Pst.frz hr (PstS.bnd p er fun d h1 α1 H1 v st1 hr1 r1 p1 => p1 _ _ _ Stp.refl hr1 ((er.mono st1).set i r1)))⟩, ⟨_, pt, fun α h H en σ Dn hr er p => k _ _ _ _ _ _ hr er ?_⟩⟩
  have p' : PstS Γ α H (bndS (f en h) en fun ds h1 => .nx (en.set i (some (.own ds))) h1) Dn W := by
    cases q : f en h <;> rw [q] at p <;> exact p
  exact PstS.bndF p' er fun ds h1 α1 H1 q vs st1 hr1 e1 r1 p1 => p1 _ _ _ Stp.refl hr1 (er_own hr er st1 hr1 e1 r1)
theorem ds_retO {e : Expr} {f : En → Hh → R (List D)} (he : DF Γ X W e f) : DS Γ X W (.Return (some e) pos) (fun en h => bndS (f en h) en fun ds h1 => .ro ds h1) := by
  obtain ⟨t, pt, k⟩ := he.ex
  exact ⟨_, ps_ret pt, fun α h H en σ Dn hr er p => k _ _ _ _ _ _ hr er (PstS.bndF p er fun ds h1 α1 H1 q vs st1 hr1 e1 r1 p1 => p1 _ _ _ _ Stp.refl hr1 e1 st1.mem (fun z => (hr1.dis q z).1 st1.mem) r1)⟩
theorem loop_post {α : Al} {H : Hp} {r : RS} {g : En → Hh → RS} {Dn : Ends} {N : L2.St → Hp → Prop}
    (p : PstS Γ α H (match r with | .nx en' h' => g en' h' | .ct en' h' => g en' h' | .bk en' h' => .nx en' h' | r => r) Dn W)
    (k : ∀ en h α' H' σ', Stp Γ.K α H α' H' → HR Γ.K α' h H' → ER Γ α' H' en σ' → PstS Γ α' H' (g en h) Dn W → N σ' H') : PstS Γ α H r { Dn with nx := N, ct := N, bk := Dn.nx } W := by
  cases r with
  | nx en h => exact fun α' H' σ' st hr er => k en h α' H' σ' st hr er (PstS.step st p)
  | ct en h => exact fun α' H' σ' st hr er => k en h α' H' σ' st hr er (PstS.step st p)
  | bk en h => exact p
  | rt d h => exact p
  | ro d h => exact p
  | exc c x en h => exact p
  | bad => exact p
theorem ds_while {c : Expr} {b : List Stmt} {w : En → Hh → R Bool} {f : En → Hh → RS} (hp : PassesOwn (model X.prog X.w) X.A X.env X.xe) (hc : DT Γ X W c w) (hb : DSs Γ X W b f) : DS Γ X W (.While c b [] pos) (fun en h => whileLoop w f turns en h) := by
  obtain ⟨z, pz, n⟩ := hc.ex
  obtain ⟨t, pt, k⟩ := hb.ex
  refine ⟨_, ps_while hp pz pt, fun α h H en σ Dn hr er p => ?_⟩
  refine ⟨fun m σ' H' => ∃ α' h' en', HR Γ.K α' h' H' ∧ ER Γ α' H' en' σ' ∧ PstS Γ α' H' (whileLoop w f m en' h') Dn W, ⟨turns, α, h, en, hr, er, p⟩, ?_⟩
  rintro m σ' H' ⟨α', h', en', hr', er', p'⟩
  cases m with
  | zero => exact False.elim p'
  | succ m =>
    unfold whileLoop at p'
    refine n _ _ _ _ _ _ hr' er' (PstS.bnd p' er' fun d h1 α1 H1 v st1 hr1 r1 p1 => ?_)
    cases r1
    cases d with
    | true =>
      rw [if_pos rfl] at p1 ⊢
      refine ⟨fun σ2 H2 => ∃ α' h' en', HR Γ.K α' h' H2 ∧ ER Γ α' H2 en' σ2 ∧ PstS Γ α' H2 (whileLoop w f m en' h') Dn W, fun σ2 H2 q => ⟨m, Nat.lt_succ_self m, q⟩, ?_⟩
      exact k _ _ _ _ _ _ hr1 (er'.mono st1) (loop_post p1 fun en2 h2 α2 H2 σ2 st2 hr2 er2 p2 => ⟨α2, h2, en2, hr2, er2, p2⟩)
    | false =>
      rw [if_neg (by decide)] at p1 ⊢
      exact p1 _ _ _ Stp.refl hr1 (er'.mono st1)
theorem ds_for {tg iter : Expr} {b : List Stmt} {sl : List Nat} {fi : En → Hh → R It} {g : D → En → Hh → R En} {f : En → Hh → RS} (hp : PassesOwn (model X.prog X.w) X.A X.env X.xe) (hc : X.calm = true) (hfs : ∀ x, foldedSetIterable iter X.env x = pure x) (hi : DI Γ X W tg iter fi) (hg : DG Γ X tg sl g) (hb : DSs Γ X W b f) :
    DS Γ X W (.For tg iter b [] pos) (fun en h => bndS (fi en h) en fun I h1 => forL g f I en h1) := by
  obtain ⟨z, pz, n⟩ := hi.ex
  obtain ⟨u, pu, l⟩ := hg.ex
  obtain ⟨t, pt, k⟩ := hb.ex
  refine ⟨_, ps_for hp hc pz pu pt hfs, fun α h H en σ Dn hr er p => n _ _ _ _ _ _ hr er (PstS.bnd p er fun I h1 α1 H1 J st1 hr1 itr p1 => ?_)⟩
  refine ⟨fun i m σ' H' => ∃ α' h' en', Stp Γ.K α1 H1 α' H' ∧ HR Γ.K α' h' H' ∧ ER Γ α' H' en' σ' ∧ m + i = I.length ∧ PstS Γ α' H' (forL g f (I.drop i) en' h') Dn W, ⟨I.length, α1, h1, en, Stp.refl, hr1, er.mono st1, by omega, by rw [List.drop_zero]; exact p1⟩, ?_⟩
  rintro i m σ' H' ⟨α', h', en', st', hr', er', hm, p'⟩
  have hit := itr α' h' H' st'.toExt hr' i (by omega)
  cases e : I[i]? with
  | none =>
    rw [e] at hit
    rw [List.drop_eq_nil_of_le (List.getElem?_eq_none_iff.mp e)] at p'
    exact .inl ⟨hit, p' _ _ _ Stp.refl hr' er'⟩
  | some d =>
    rw [e] at hit
    have hil : i < I.length := (List.getElem?_eq_some_iff.mp e).1
    rw [drop_at e] at p'
    unfold forL at p'
    cases m with
    | zero => omega
    | succ m =>
    refine .inr ⟨hit.1, fun σ2 H2 => ∃ α' h' en', Stp Γ.K α1 H1 α' H2 ∧ HR Γ.K α' h' H2 ∧ ER Γ α' H2 en' σ2 ∧ m + (i + 1) = I.length ∧ PstS Γ α' H2 (forL g f (I.drop (i + 1)) en' h') Dn W, fun σ2 H2 q => ⟨m, Nat.lt_succ_self m, q⟩, fun x Hx hy => ?_⟩
    obtain ⟨sx, hrx, rx⟩ := hit.2 x Hx hy
    have px := PstS.step sx.stp p'
    refine l _ _ _ _ _ _ _ _ hrx (er'.mono sx) rx ?_
    cases q : noExc (g d en' h') with
    | ok en3 h3 =>
      rw [q] at px
      intro α3 H3 σ3 st3 hr3 r3
      exact k _ _ _ _ _ _ hr3 r3.1 (loop_post (PstS.step st3.stp px) fun en4 h4 α4 H4 σ4 st4 hr4 er4 p4 => ⟨α4, h4, en4, ((st'.trans sx.stp).trans st3.stp).trans st4, hr4, er4, by omega, p4⟩)
    | exc c x h2 =>
      exfalso
      revert q
      cases g d en' h' <;> intro q <;> cases q
    | bad => rw [q] at px; exact px
end
end PD

set_option Elab.async false
set_option linter.all false
set_option maxRecDepth 100000
set_option maxHeartbeats 1000000
namespace PD
open PySem PySem.Spec PyProof.Rows L2
section
variable {Γ : Wd} {X : Cx} {W : WX} {pos p : Pos}
/-! ### methods of lists -/
def meName : Me → Str
  | .append => "append"
  | .extend => "extend"
  | .insert => "insert"
  | .pop => "pop"
def meId : Me → String
  | .append => "list.append"
  | .extend => "list.extend"
  | .insert => "list.insert"
  | .pop => "list.pop"
def meR : Me → V → List V → Hp → VK → Prop
  | .append => rAppend
  | .extend => rExtend
  | .insert => fun x vs H Q => ∃ (l : Addr) (xs : List V) (i : Int) (y : V), x = .ref l ∧ vs = [.int i, y] ∧ H l = some (.lst xs) ∧ xs.length < sizeLine ∧ 0 ≤ i ∧ i < 2 ^ 63 ∧
    Q .non (upd H l (.lst (xs.take i.toNat ++ [y] ++ xs.drop i.toNat)))
  | .pop => fun x xs H Q => rPop x xs H Q ∨ rPopAt x xs H Q
theorem me_mt : ∀ m : Me, MtR X (meId m) (meR m)
  | .append => mt_append
  | .extend => mt_extend
  | .insert => mt_insert
  | .pop => MtR.or mt_pop mt_popAt
theorem me_slot : ∀ m : Me, Slot "list" (meName m) (meId m)
  | .append => PySem.F.slot_list_append
  | .extend => PySem.F.slot_list_extend
  | .insert => PySem.F.slot_list_insert
  | .pop => PySem.F.slot_list_pop
theorem me_ty : ∀ m : Me, typeOf (.builtin (meId m)) = pure (.type "method_descriptor")
  | .append => PySem.F.type_list_append
  | .extend => PySem.F.type_list_extend
  | .insert => PySem.F.type_list_insert
  | .pop => PySem.F.type_list_pop
theorem Reps.erase {K : PySem.W.Frag} {α : Al} {H : Hp} : ∀ {ds : List D} {vs : List V} (i : Nat), Reps K α H ds vs → Reps K α H (ds.eraseIdx i) (vs.eraseIdx i)
  | _, _, _, .nil => .nil
  | _, _, 0, .cons _ t => t
  | _, _, i + 1, .cons r t => .cons r (Reps.erase i t)
theorem Reps.dropLast {K : PySem.W.Frag} {α : Al} {H : Hp} : ∀ {ds : List D} {vs : List V}, Reps K α H ds vs → Reps K α H ds.dropLast vs.dropLast
  | _, _, .nil => .nil
  | _, _, .cons _ .nil => .nil
  | _, _, .cons r (.cons q t) => .cons r (Reps.dropLast (.cons q t))
theorem me_own {m : Me} {α : Al} {H : Hp} {a : Addr} {ws vs : List V} {xs ds : List D} {q : List D × D} {Q : VK} (e1 : H a = some (.lst ws)) (w1 : Reps Γ.K α H xs ws) (rs : Reps Γ.K α H ds vs) (hq : mutOp m xs ds = some q)
    (k : ∀ ws' yv, Reps Γ.K α H q.1 ws' → Rep Γ.K α H q.2 yv → Q yv (upd H a (.lst ws'))) : meR m (.ref a) vs H Q := by
  cases m with
  | append =>
    cases rs with
    | nil => cases hq
    | cons r1 rs =>
      cases rs with
      | cons _ _ => cases hq
      | nil =>
        simp only [mutOp] at hq
        by_cases c : xs.length < sizeLine
        · rw [if_pos c] at hq
          cases hq
          exact ⟨_, _, _, rfl, rfl, e1, by rw [← w1.length]; exact c, k _ _ (w1.append (.cons r1 .nil)) .non⟩
        · rw [if_neg c] at hq; cases hq
  | extend =>
    cases rs with
    | nil => cases hq
    | @cons d1 ds1 _ _ r1 rs =>
      cases rs with
      | cons _ _ => cases d1 <;> cases hq
      | nil =>
        cases d1 <;> first | (cases hq; done) | skip
        rename_i zs
        cases r1 with | lst e2 _ _ _ w2 =>
        simp only [mutOp] at hq
        by_cases c : xs.length + zs.length ≤ sizeLine
        · rw [if_pos c] at hq
          cases hq
          exact ⟨_, _, _, _, rfl, rfl, e1, e2, by rw [← w1.length, ← w2.length]; exact c, k _ _ (w1.append w2) .non⟩
        · rw [if_neg c] at hq; cases hq
  | insert =>
    cases rs with
    | nil => cases hq
    | @cons d1 ds1 _ _ r1 rs =>
      cases rs with
      | nil => cases d1 <;> cases hq
      | cons r2 rs =>
        cases rs with
        | cons _ _ => cases d1 <;> cases hq
        | nil =>
          cases d1 <;> first | (cases hq; done) | skip
          rename_i i
          cases r1
          simp only [mutOp] at hq
          by_cases c : xs.length < sizeLine ∧ 0 ≤ i ∧ i < 2 ^ 63
          · rw [if_pos c] at hq
            cases hq
            exact ⟨_, _, _, _, rfl, rfl, e1, by rw [← w1.length]; exact c.1, c.2.1, c.2.2, k _ _ (((w1.take _).append (.cons r2 .nil)).append (w1.drop _)) .non⟩
          · rw [if_neg c] at hq; cases hq
  | pop =>
    cases rs with
    | nil =>
      simp only [mutOp] at hq
      cases q2 : xs[xs.length - 1]? with
      | none => rw [q2] at hq; cases hq
      | some y =>
        rw [q2] at hq
        cases hq
        obtain ⟨yv, q3, ry⟩ := w1.get q2
        exact .inl ⟨_, _, _, rfl, rfl, e1, by rw [← w1.length]; exact q3, k _ _ w1.dropLast ry⟩
    | @cons d1 ds1 _ _ r1 rs =>
      cases rs with
      | cons _ _ => cases d1 <;> cases hq
      | nil =>
        cases d1 <;> first | (cases hq; done) | skip
        rename_i i
        cases r1
        simp only [mutOp] at hq
        by_cases c : -(2 ^ 63) ≤ i ∧ i < 2 ^ 63
        · rw [if_pos c] at hq
          cases q2 : seqIndex? i xs.length with
          | none => rw [q2] at hq; cases hq
          | some n =>
            rw [q2] at hq
            dsimp only at hq
            cases q3 : xs[n]? with
            | none => rw [q3] at hq; cases hq
            | some y =>
              rw [q3] at hq
              cases hq
              obtain ⟨yv, q4, ry⟩ := w1.get q3
              exact .inr ⟨_, _, _, _, _, rfl, rfl, e1, c.1, c.2, by rw [← w1.length]; exact q2, q4, k _ _ (w1.erase _) ry⟩
        · rw [if_neg c] at hq; cases hq
theorem ER.write {Γ : Wd} {α : Al} {H : Hp} {en : En} {σ : L2.St} {i : Nat} {a : Addr} {xs xs' : List D} {ws ws' : List V} (er : ER Γ α H en σ) (ho : PD.getO en i = some xs) (hs : σ[i]? = some (some (.ref a))) (e : H a = some (.lst ws)) (h1 : a ∈ α.o) (h2 : a ∉ α.c) (h3 : a ∉ α.b) (rs : Reps Γ.K α H xs' ws') :
    ER Γ α (upd H a (.lst ws')) (en.set i (some (.own xs'))) σ := by
  have ex := (Stp.set (K := Γ.K) (α := α) (vs' := ws') e h1).toExt
  have e0 := getO_some ho
  refine ⟨by simp [er.len], fun j d hj => ?_, fun j k b ds ds' hjk g1 g2 g3 g4 => ?_⟩
  · rcases set_get hj with ⟨rfl, z, hl⟩ | ⟨hne, hj'⟩
    · cases z
      exact ⟨_, hs, .own upd_same h1 h2 h3 (rs.monoE ex)⟩
    · obtain ⟨v, q, r⟩ := er.get j d hj'
      refine ⟨v, q, ?_⟩
      cases r with
      | val r => exact .val (r.monoE ex)
      | err hx e' hc r => exact .err hx (by rw [upd_ne (fun z => by rw [z, e] at e'; cases e')]; exact e') hc (r.monoE ex)
      | own e' m1 m2 m3 rs' =>
        refine .own ?_ m1 m2 m3 (rs'.monoE ex)
        rw [upd_ne]
        · exact e'
        · intro z
          rw [z] at q
          exact er.uq i j a xs _ (Ne.symm hne) e0 hj' hs q
  · have g1' : ∃ d0, en[j]? = some (some (.own d0)) := by
      rcases set_get g1 with ⟨rfl, _, _⟩ | ⟨_, z⟩
      · exact ⟨_, e0⟩
      · exact ⟨_, z⟩
    have g2' : ∃ d0, en[k]? = some (some (.own d0)) := by
      rcases set_get g2 with ⟨rfl, _, _⟩ | ⟨_, z⟩
      · exact ⟨_, e0⟩
      · exact ⟨_, z⟩
    obtain ⟨d1, g1'⟩ := g1'
    obtain ⟨d2, g2'⟩ := g2'
    exact er.uq j k b d1 d2 hjk g1' g2' g3 g4
/-- a method of an own list, asked with what r brings -/
def PstM (Γ : Wd) (σ : L2.St) (i : Nat) (m : Me) (xs : List D) (α : Al) (H : Hp) (r : R (List D)) (Q : V → Hp → Prop) (E : XK) : Prop :=
  match r with
  | .ok ds h1 => match mutOp m xs ds with
    | none => False
    | some q => ∀ α1 H1 a ws ws' yv, Step Γ.K α H α1 H1 → HR Γ.K α1 h1 H1 → σ[i]? = some (some (.ref a)) → H1 a = some (.lst ws) → a ∈ α1.o → a ∉ α1.c → a ∉ α1.b → Reps Γ.K α1 H1 q.1 ws' → Rep Γ.K α1 H1 q.2 yv → Q yv (upd H1 a (.lst ws'))
  | .exc c x h' => ∀ α' H' cls d, Step Γ.K α H α' H' → HR Γ.K α' h' H' → XR Γ α' H' c x cls d → E cls d H'
  | .bad => False
structure DM (Γ : Wd) (X : Cx) (W : WX) (i : Nat) (m : Me) (e : Expr) (g : En → Hh → R (List D)) : Prop where
  ex : ∃ t, PE X e t ∧ ∀ α h H en σ Q xs, HR Γ.K α h H → ER Γ α H en σ → getO en i = some xs → PstM Γ σ i m xs α H (g en h) Q (fun c d H' => W c d σ H') → t σ H Q
theorem own_post {α : Al} {h : Hh} {H : Hp} {en : En} {σ : L2.St} {i : Nat} {m : Me} {xs : List D} {a : Addr} {r : R (List D)} {Q : V → Hp → Prop} {E : XK} (hr : HR Γ.K α h H) (er : ER Γ α H en σ) (ho : getO en i = some xs) (hs : σ[i]? = some (some (.ref a)))
    (p : PstM Γ σ i m xs α H r Q E) : Pst Γ (RVs Γ) α H r (fun vs H1 => meR m (.ref a) vs H1 Q) E := by
  cases r with
  | ok ds h1 =>
    intro α1 H1 vs st hr1 rs
    obtain ⟨a', ws, e1, e2, e3, e4, e5, w1⟩ := (er.mono st).getO ho
    rw [hs] at e1
    cases e1
    unfold PstM at p
    dsimp only at p
    cases q : mutOp m xs ds with
    | none => rw [q] at p; exact False.elim p
    | some z =>
      rw [q] at p
      exact me_own e2 w1 rs q fun ws' yv r1 r2 => p _ _ _ _ _ _ st hr1 hs e2 e3 e4 e5 r1 r2
  | exc c x h => exact p
  | bad => exact p
theorem own_ty {α : Al} {H : Hp} {en : En} {σ : L2.St} {i : Nat} {xs : List D} (hK : X.K = Γ.K) (er : ER Γ α H en σ) (ho : getO en i = some xs) : ∃ a, σ[i]? = some (some (.ref a)) ∧ tyV X.K "list" (.ref a) H := by
  obtain ⟨a, ws, e1, e2, _⟩ := er.getO ho
  exact ⟨a, e1, .inl ⟨rfl, _, SqL.of e2⟩⟩
theorem dm_nil {m : Me} {i : Nat} {x : Str} {px apos cpos : Pos} (hK : X.K = Γ.K) (hN : X.N[i]? = some x) (hv : Vis X.env.scope x) (hd : (x == ("__debug__" : Str)) = false) (hcd : (x == ("__classdict__" : Str)) = false) (hl : (apos.endLine == cpos.line) = true) :
    DM Γ X W i m (.Call (.Attribute (.Name x px) (meName m) apos) [] [] cpos) (fun _ h => .ok [] h) := by
  refine ⟨_, pe_bm0 PySem.F.plainAttrs_list (me_slot m) (me_ty m) (me_mt m) (pe_var hN hv hd hcd) rfl hl, fun α h H en σ Q xs hr er ho p => ?_⟩
  obtain ⟨a, hs, ty⟩ := own_ty hK er ho
  exact ⟨_, hs, ty, own_post hr er ho hs p _ _ _ Step.refl hr .nil⟩
theorem dm_cons {m : Me} {i : Nat} {x : Str} {px apos cpos : Pos} {e : Expr} {es : List Expr} {g : En → Hh → R (List D)} (hK : X.K = Γ.K) (hN : X.N[i]? = some x) (hv : Vis X.env.scope x) (hd : (x == ("__debug__" : Str)) = false) (hcd : (x == ("__classdict__" : Str)) = false) (hl : (apos.endLine == cpos.line) = true)
    (hs : (e :: es).any star = false) (hn : (e :: es).length < 30) (ha : DA Γ X W (e :: es) g) :
    DM Γ X W i m (.Call (.Attribute (.Name x px) (meName m) apos) (e :: es) [] cpos) g := by
  obtain ⟨u, pu, l⟩ := ha.ex
  have hs' := hs
  rw [List.any_cons, Bool.or_eq_false_iff] at hs'
  have few : ((backTo cpos (starEach (e :: es) X.env)).all (fun x => !x.1) && (backToKw cpos (keywordEach [] X.env)).all (fun x => x.1.isSome) && decide ((e :: es).length + ([] : List Keyword).length + (if ([] : List Keyword).isEmpty then 0 else 1) < 30)) = true := by
    have h1 : (backTo cpos (starEach (e :: es) X.env)).all (fun x => !x.1) = true := by
      have := starEach_any (pos := cpos) (env := X.env) hs
      rw [List.any_eq_false] at this
      rw [List.all_eq_true]
      exact fun x hx => by
        have := this x hx
        simpa using this
    rw [h1]
    show (true && true && decide ((e :: es).length + 0 + 0 < 30)) = true
    simpa using hn
  refine ⟨_, pe_bm PySem.F.plainAttrs_list (me_slot m) (me_ty m) (me_mt m) (pe_var hN hv hd hcd) pu rfl few hl (starEach_cons hs'.1) (starEach_any hs'.2), fun α h H en σ Q xs hr er ho p => ?_⟩
  obtain ⟨a, hs, ty⟩ := own_ty hK er ho
  exact ⟨_, hs, ty, l _ _ _ _ _ _ hr er (own_post hr er ho hs p)⟩
theorem ds_mut {m : Me} {i : Nat} {e : Expr} {g : En → Hh → R (List D)} (hs : swapsWith e none pos.line X.env = pure false) (he : DM Γ X W i m e g) :
    DS Γ X W (.Expr e pos) (fun en h => match getO en i with | some xs => bndS (g en h) en fun ds h1 => (match mutOp m xs ds with | some p => .nx (en.set i (some (.own p.1))) h1 | none => .bad) | none => .bad) := by
  obtain ⟨t, pt, k⟩ := he.ex
  refine ⟨_, ps_expr pt hs, fun α h H en σ Dn hr er p => ?_⟩
  cases ho : getO en i with
  | none => rw [ho] at p; exact False.elim p
  | some xs =>
    rw [ho] at p
    refine k _ _ _ _ _ _ xs hr er ho ?_
    dsimp only at p
    cases q : g en h with
    | ok ds h1 =>
      rw [q] at p
      show (match mutOp m xs ds with | none => False | some q => _)
      have p' : PstS Γ α H (match mutOp m xs ds with | some p => .nx (en.set i (some (.own p.1))) h1 | none => .bad) Dn W := p
      cases q2 : mutOp m xs ds with
      | none => rw [q2] at p'; exact False.elim p'
      | some z =>
        rw [q2] at p'
        intro α1 H1 a ws ws' yv st hr1 e1 e2 e3 e4 e5 r1 r2
        exact p' _ _ _ (st.stp.trans (Stp.set e2 e3)) (hr1.setO e2 e3) ((er.mono st).write ho e1 e2 e3 e4 e5 r1)
    | exc c x h1 =>
      rw [q] at p
      exact fun α' H' cls d st hr xr => p α' H' σ cls d st.stp hr (er.mono st) xr
    | bad => rw [q] at p; exact p
theorem ds_popO {i : Nat} {tg e : Expr} {sl : List Nat} {g : En → Hh → R (List D)} {w : D → En → Hh → R En} (hs : swapsWithSole [tg] e pos.line X.env = pure false) (hw : swappedStores [tg] e X.env = pure none) (h1 : star tg = false) (he : DM Γ X W i .pop e g) (hg : DG Γ X tg sl w) :
    DS Γ X W (.Assign [tg] e pos) (fun en h => match getO en i with | some xs => bndS (g en h) en fun ds h1 => (match mutOp .pop xs ds with | some p => bndS (noExc (w p.2 (en.set i (some (.own p.1))) h1)) en fun en2 h2 => .nx en2 h2 | none => .bad) | none => .bad) := by
  obtain ⟨t, pt, k⟩ := he.ex
  obtain ⟨u, pu, l⟩ := hg.ex
  refine ⟨_, ps_asg pt pu hs hw (by rw [assignEach_cons h1]; rfl), fun α h H en σ Dn hr er p => ?_⟩
  cases ho : getO en i with
  | none => rw [ho] at p; exact False.elim p
  | some xs =>
    rw [ho] at p
    refine k _ _ _ _ _ _ xs hr er ho ?_
    dsimp only at p
    cases q : g en h with
    | ok ds h1 =>
      rw [q] at p
      show (match mutOp .pop xs ds with | none => False | some q => _)
      have p' : PstS Γ α H (match mutOp .pop xs ds with | some p => bndS (noExc (w p.2 (en.set i (some (.own p.1))) h1)) en fun en2 h2 => .nx en2 h2 | none => .bad) Dn W := p
      cases q2 : mutOp .pop xs ds with
      | none => rw [q2] at p'; exact False.elim p'
      | some z =>
        rw [q2] at p'
        intro α1 H1 a ws ws' yv st hr1 e1 e2 e3 e4 e5 r1 r2
        have st2 : Stp Γ.K α H α1 (upd H1 a (.lst ws')) := st.stp.trans (Stp.set e2 e3)
        refine l _ _ _ _ _ _ _ _ (hr1.setO e2 e3) ((er.mono st).write ho e1 e2 e3 e4 e5 r1) (r2.monoE (Stp.set e2 e3).toExt) ?_
        dsimp only at p'
        cases e : noExc (w z.2 (en.set i (some (.own z.1))) h1) with
        | ok en2 h2 => rw [e] at p'; exact fun α2 H2 σ2 st3 hr2 r3 => p' _ _ _ (st2.trans st3.stp) hr2 r3.1
        | exc c x h2 =>
          exfalso
          revert e
          cases w z.2 (en.set i (some (.own z.1))) h1 <;> intro e <;> cases e
        | bad => rw [e] at p'; exact p'
    | exc c x h1 =>
      rw [q] at p
      exact fun α' H' cls d st hr xr => p α' H' σ cls d st.stp hr (er.mono st) xr
    | bad => rw [q] at p; exact p
/-- x[..] = e -/
theorem ds_setI {i : Nat} {x : Str} {o ix e : Expr} {px ps : Pos} {f g : En → Hh → R D} (hN : X.N[i]? = some x) (hv : Vis X.env.scope x) (hd : (x == ("__debug__" : Str)) = false) (hcd : (x == ("__classdict__" : Str)) = false) (hs : swapsWithSole [.Subscript (.Name x px) ix ps] e pos.line X.env = pure false) (hw : swappedStores [.Subscript (.Name x px) ix ps] e X.env = pure none)
    (ha : ∀ v, assign (.Subscript (.Name x px) ix ps) X.env v = (do
      let ov ← holding [v] (eval (.Name x px) X.env)
      let iv ← holding [v, ov] (eval ix X.env)
      standAt ps
      holding [v, ov, iv] (setItem ov iv v)
      release [v, ov, iv] [])) (he : DE Γ X W e f) (hi : DE Γ X W ix g) :
    DS Γ X W (.Assign [.Subscript (.Name x px) ix ps] e pos) (fun en h => bndS (f en h) en fun d h1 => match getO en i with | some xs => bndS (g en h1) en fun y h2 => (match y with | .int k => (match L2.ixN xs.length k with | some j => .nx (en.set i (some (.own (xs.set j d)))) h2 | none => .bad) | _ => .bad) | none => .bad) := by
  obtain ⟨t, pt, k⟩ := he.ex
  obtain ⟨u, pu, l⟩ := hi.ex
  refine ⟨_, ps_asg pt (pg_sub (pe_var hN hv hd hcd) pu set_list ha) hs hw rfl, fun α h H en σ Dn hr er p => k _ _ _ _ _ _ hr er (PstS.bnd p er fun d h1 α1 H1 v st1 hr1 r1 p1 => ?_)⟩
  cases ho : getO en i with
  | none => rw [ho] at p1; exact False.elim p1
  | some xs =>
    rw [ho] at p1
    dsimp only at p1
    have er1 := er.mono st1
    obtain ⟨a, ws, e1, _⟩ := er1.getO ho
    refine ⟨_, e1, l _ _ _ _ _ _ hr1 er1 (PstS.bnd p1 er1 fun y h2 α2 H2 yv st2 hr2 r2 p2 => ?_)⟩
    have er2 := er1.mono st2
    obtain ⟨a', ws, e1', e2, e3, e4, e5, w1⟩ := er2.getO ho
    rw [e1] at e1'
    cases e1'
    cases r2 <;> first | exact False.elim p2 | skip
    rename_i kk
    dsimp only at p2
    cases q : L2.ixN xs.length kk with
    | none => rw [q] at p2; exact False.elim p2
    | some j =>
      rw [q] at p2
      exact ⟨_, _, _, _, rfl, rfl, e2, by rw [← w1.length]; exact q, p2 _ _ _ (Stp.set e2 e3) (hr2.setO e2 e3) (er2.write ho e1 e2 e3 e4 e5 (Reps.set (r1.mono st2) j w1))⟩
/-- a list is not written any more -/
theorem frz_one {α : Al} {h : Hh} {H : Hp} {en : En} {σ : L2.St} {i : Nat} {xs : List D} (hr : HR Γ.K α h H) (er : ER Γ α H en σ) (ho : getO en i = some xs) : ∃ α', Stp Γ.K α H α' H ∧ HR Γ.K α' h H ∧ ER Γ α' H (en.set i (some (.lst xs))) σ := by
  obtain ⟨a, ws, e1, e2, e3, e4, e5, w1⟩ := er.getO ho
  have sb : ∀ b, b ∈ (α.o.filter fun z => decide (z ≠ a)) ∨ b ∈ α.b → b ∈ α.o ∨ b ∈ α.b := fun b hb => hb.imp (fun z => (List.mem_filter.mp z).1) id
  have ex : Ext Γ.K α H { α with o := α.o.filter fun z => decide (z ≠ a) } H := Ext.sub (α := α) (α1 := { α with o := α.o.filter fun z => decide (z ≠ a) }) rfl sb
  refine ⟨{ α with o := α.o.filter fun z => decide (z ≠ a) }, .of ⟨[], by simp⟩ (fun _ _ s => s) (fun _ _ s => s) rfl (fun b hb => .inl (hb.imp id fun z => (List.mem_filter.mp z).1)) (fun _ _ _ _ e => e), hr.sub rfl sb, ?_⟩
  have e0 := getO_some ho
  refine ⟨by simp [er.len], fun j d hj => ?_, fun j k b ds ds' hjk g1 g2 g3 g4 => ?_⟩
  · rcases set_get hj with ⟨rfl, z, hl⟩ | ⟨hne, hj'⟩
    · cases z
      exact ⟨_, e1, .val (.lst e2 e4 (fun z => by have := (List.mem_filter.mp z).2; simp at this) e5 (w1.monoE ex))⟩
    · obtain ⟨v, q, r⟩ := er.get j d hj'
      refine ⟨v, q, ?_⟩
      cases r with
      | val r => exact .val (r.monoE ex)
      | err hx e' hc r => exact .err hx e' hc (r.monoE ex)
      | own e' m1 m2 m3 rs' =>
        refine .own e' (List.mem_filter.mpr ⟨m1, decide_eq_true fun z => ?_⟩) m2 m3 (rs'.monoE ex)
        rw [z] at q
        exact er.uq i j a xs _ (Ne.symm hne) e0 hj' e1 q
  · rcases set_get g1 with ⟨_, z, _⟩ | ⟨_, g1'⟩
    · cases z
    · rcases set_get g2 with ⟨_, z, _⟩ | ⟨_, g2'⟩
      · cases z
      · exact er.uq j k b _ _ hjk g1' g2' g3 g4
theorem frz_all {h : Hh} {H : Hp} {σ : L2.St} : ∀ (is : List Nat) {α : Al} {en : En}, HR Γ.K α h H → ER Γ α H en σ → ∃ α', Stp Γ.K α H α' H ∧ HR Γ.K α' h H ∧ ER Γ α' H (frzE en is) σ
  | [], α, en, hr, er => ⟨α, Stp.refl, hr, er⟩
  | i :: is, α, en, hr, er => by
    unfold frzE
    cases ho : getO en i with
    | none => exact frz_all is hr er
    | some xs =>
      obtain ⟨α1, s1, hr1, er1⟩ := frz_one hr er ho
      obtain ⟨α2, s2, hr2, er2⟩ := frz_all is hr1 er1
      exact ⟨α2, s1.trans s2, hr2, er2⟩
theorem ds_frz {st : Stmt} {f : En → Hh → RS} (is : List Nat) (hs : DS Γ X W st f) : DS Γ X W st (fun en h => thenS (.nx (frzE en is) h) f) := by
  obtain ⟨t, pt, k⟩ := hs.ex
  refine ⟨t, pt, fun α h H en σ Dn hr er p => ?_⟩
  obtain ⟨α1, s1, hr1, er1⟩ := frz_all is hr er
  exact k _ _ _ _ _ _ hr1 er1 (PstS.step s1 p)
/-! ### a, b = .., .. with new lists that are written -/
inductive RepsQ (K : PySem.W.Frag) (H0 : Hp) (α : Al) (H : Hp) : List D → List V → Prop
  | nil : RepsQ K H0 α H [] []
  | val {d : D} {v : V} {ds : List D} {vs : List V} : Rep K α H d v → RepsQ K H0 α H ds vs → RepsQ K H0 α H (d :: ds) (v :: vs)
  | own {a : Addr} {ws : List V} {xs ds : List D} {vs : List V} : H a = some (.lst ws) → a ∈ α.o → a ∉ α.c → a ∉ α.b → Reps K α H xs ws → H0 a = none → (∀ (j : Nat) (ds' : List D), ds[j]? = some (.own ds') → vs[j]? ≠ some (.ref a)) → RepsQ K H0 α H ds vs → RepsQ K H0 α H (.own xs :: ds) (.ref a :: vs)
structure StepQ (K : PySem.W.Frag) (α : Al) (H : Hp) (α' : Al) (H' : Hp) : Prop extends Ext K α H α' H' where
  ho : ∀ a, a ∈ α.o → a ∈ α'.o
  hb : α'.b = α.b
  newC : ∀ a, a ∈ α'.c → a ∈ α.c ∨ H a = none
  newO : ∀ a, a ∈ α'.o → a ∈ α.o ∨ H a = none
  frm : ∀ a o, a ∉ α.c → H a = some o → H' a = some o
section
variable {K : PySem.W.Frag} {α α' α1 α2 : Al} {H H' H0 H1 H2 : Hp}
theorem StepQ.stp (s : StepQ K α H α' H') : Stp K α H α' H' := ⟨s.toExt, s.hb, fun a h => h.elim (fun z => (s.newC a z).imp .inl id) fun z => (s.newO a z).imp .inr id, fun a o h _ e => s.frm a o h e⟩
theorem StepQ.refl : StepQ K α H α H := ⟨Ext.refl, fun _ h => h, rfl, fun _ h => .inl h, fun _ h => .inl h, fun _ _ _ e => e⟩
theorem Step.q (s : Step K α H α' H') : StepQ K α H α' H' := ⟨s.toExt, fun a h => by rw [s.ho]; exact h, s.hb, s.new, fun a h => .inl (by rw [← s.ho]; exact h), s.frm⟩
theorem StepF.q {q : Addr} (s : StepF K α H α' H' q) : StepQ K α H α' H' := by
  refine ⟨s.toExt, fun a h => by rw [s.ho]; exact List.mem_cons_of_mem _ h, s.hb, s.new, fun a h => ?_, s.frm⟩
  rw [s.ho] at h
  rcases List.mem_cons.mp h with rfl | h
  · exact .inr s.q0
  · exact .inl h
theorem StepQ.trans {h1 : Hh} (hr1 : HR K α1 h1 H1) (a : StepQ K α H α1 H1) (b : StepQ K α1 H1 α2 H2) : StepQ K α H α2 H2 := by
  have key : ∀ x, H1 x = none → x ∈ α.c ∨ H x = none := fun x h => by
    by_cases hm : x ∈ α.c
    · exact .inl hm
    · cases q : H x with
      | none => exact .inr rfl
      | some o =>
        rw [a.frm x o hm q] at h
        cases h
  refine ⟨a.toExt.trans b.toExt, fun x h => b.ho x (a.ho x h), b.hb.trans a.hb, fun x hx => ?_, fun x hx => ?_, fun x o hx e => b.frm x o (fun hm => ?_) (a.frm x o hx e)⟩
  · rcases b.newC x hx with h | h
    · exact a.newC x h
    · exact key x h
  · rcases b.newO x hx with h | h
    · exact a.newO x h
    · cases q : H x with
      | none => exact .inr rfl
      | some o =>
        by_cases hm : x ∈ α.c
        · obtain ⟨β, e⟩ := a.pre
          exact ((hr1.fresh h).1 (by rw [e]; exact List.mem_append_left _ hm)).elim
        · rw [a.frm x o hm q] at h
          cases h
  · rcases a.newC x hm with h | h
    · exact hx h
    · rw [h] at e; cases e
end
section
variable {K : PySem.W.Frag} {α α' α1 α2 : Al} {H H' H0 H1 H2 : Hp} {en : En} {σ : L2.St}
theorem ER.monoQ {Γ : Wd} (s : StepQ Γ.K α H α1 H1) (r : ER Γ α H en σ) : ER Γ α1 H1 en σ :=
  ⟨r.len, fun i d h => by
    obtain ⟨v, e0, z⟩ := r.get i d h
    refine ⟨v, e0, ?_⟩
    cases z with
    | val z => exact .val (z.monoE s.toExt)
    | err hx e hc r => exact .err hx (s.frm _ _ hc e) (fun z => (s.newC _ z).elim hc fun q => by rw [e] at q; cases q) (r.monoE s.toExt)
    | own e ho hc hb rs => exact .own (s.frm _ _ hc e) (s.ho _ ho) (fun z => (s.newC _ z).elim hc fun q => by rw [e] at q; cases q) (by rw [s.hb]; exact hb) (rs.monoE s.toExt), r.uq⟩
theorem RepsQ.length : ∀ {ds : List D} {vs : List V}, RepsQ K H0 α H ds vs → ds.length = vs.length
  | _, _, .nil => rfl
  | _, _, .val _ rs => by rw [List.length_cons, List.length_cons, RepsQ.length rs]
  | _, _, .own _ _ _ _ _ _ _ rs => by rw [List.length_cons, List.length_cons, RepsQ.length rs]
end
def PstQ (Γ : Wd) (α : Al) (H : Hp) (r : R (List D)) (Q : List V → Hp → Prop) (E : XK) : Prop :=
  match r with
  | .ok ds h' => ∀ α' H' vs, StepQ Γ.K α H α' H' → HR Γ.K α' h' H' → RepsQ Γ.K H α' H' ds vs → Q vs H'
  | .exc c x h' => ∀ α' H' cls d, StepQ Γ.K α H α' H' → HR Γ.K α' h' H' → XR Γ α' H' c x cls d → E cls d H'
  | .bad => False
structure DQ (Γ : Wd) (X : Cx) (W : WX) (es : List Expr) (f : En → Hh → R (List D)) : Prop where
  ex : ∃ t, PA X es t ∧ ∀ α h H en σ Q, HR Γ.K α h H → ER Γ α H en σ → PstQ Γ α H (f en h) Q (fun c d H' => W c d σ H') → t σ H Q
theorem dq_nil : DQ Γ X W [] (fun _ h => .ok [] h) := ⟨_, pa_nil, fun _ _ _ _ _ _ hr _ p => p _ _ _ StepQ.refl hr .nil⟩
theorem dq_cons {e : Expr} {es : List Expr} {f : En → Hh → R D} {g : En → Hh → R (List D)} (hs : star e = false) (he : DE Γ X W e f) (hes : DQ Γ X W es g) :
    DQ Γ X W (e :: es) (fun en h => bnd (f en h) fun d h1 => bnd (g en h1) fun ds h2 => .ok (d :: ds) h2) := by
  obtain ⟨t, pt, k⟩ := he.ex
  obtain ⟨u, pu, l⟩ := hes.ex
  refine ⟨_, pa_cons pt pu (starEach_cons hs), fun α h H en σ Q hr er p => k _ _ _ _ _ _ hr er ?_⟩
  cases q : f en h with
  | ok d h1 =>
    rw [q] at p
    intro α1 H1 v st1 hr1 r1
    refine l _ _ _ _ _ _ hr1 (er.mono st1) ?_
    have p' : PstQ Γ α H (bnd (g en h1) fun ds h2 => .ok (d :: ds) h2) Q (fun c d H' => W c d σ H') := p
    cases q2 : g en h1 with
    | ok ds h2 =>
      rw [q2] at p'
      intro α2 H2 vs st2 hr2 r2
      have conv : ∀ {ds : List D} {vs : List V}, RepsQ Γ.K H1 α2 H2 ds vs → RepsQ Γ.K H α2 H2 ds vs := by
        intro ds vs r
        induction r with
        | nil => exact .nil
        | val r _ ih => exact .val r ih
        | own e m1 m2 m3 rs h0 hn _ ih =>
          refine .own e m1 m2 m3 rs ?_ hn ih
          rename_i a _ _ _ _ _
          cases z : H a with
          | none => rfl
          | some o =>
            by_cases hm : a ∈ α.c
            · exact (m2 (by
                obtain ⟨β, e1⟩ := (st1.toExt.trans st2.toExt).pre
                rw [e1]
                exact List.mem_append_left _ hm)).elim
            · rw [st1.frm a o hm z] at h0
              cases h0
      exact p' _ _ _ (st1.q.trans hr1 st2) hr2 (.val (r1.monoE st2.toExt) (conv r2))
    | exc c x h2 => rw [q2] at p'; exact fun α' H' cls d st hr xr => p' _ _ _ _ (st1.q.trans hr1 st) hr xr
    | bad => rw [q2] at p'; exact p'
  | exc c x h1 => rw [q] at p; exact fun α' H' cls d st hr xr => p _ _ _ _ st.q hr xr
  | bad => rw [q] at p; exact p
theorem dq_own {e : Expr} {es : List Expr} {f : En → Hh → R (List D)} {g : En → Hh → R (List D)} (hs : star e = false) (he : DF Γ X W e f) (hes : DQ Γ X W es g) :
    DQ Γ X W (e :: es) (fun en h => bnd (bnd (f en h) fun ds h1 => .ok (.own ds) h1) fun d h1 => bnd (g en h1) fun ds h2 => .ok (d :: ds) h2) := by
  obtain ⟨t, pt, k⟩ := he.ex
  obtain ⟨u, pu, l⟩ := hes.ex
  refine ⟨_, pa_cons pt pu (starEach_cons hs), fun α h H en σ Q hr er p => k _ _ _ _ _ _ hr er ?_⟩
  cases q : f en h with
  | ok xs h1 =>
    rw [q] at p
    intro α1 H1 a ws st1 hr1 e1 r1
    refine l _ _ _ _ _ _ hr1 (er.monoF st1) ?_
    have p' : PstQ Γ α H (bnd (g en h1) fun ds h2 => .ok (.own xs :: ds) h2) Q (fun c d H' => W c d σ H') := p
    have ac : a ∉ α1.c := fun z => (hr1.dis a z).1 st1.mem
    have ab : a ∉ α1.b := by rw [st1.hb]; exact (hr.fresh st1.q0).2.2
    cases q2 : g en h1 with
    | ok ds h2 =>
      rw [q2] at p'
      intro α2 H2 vs st2 hr2 r2
      have conv : ∀ {ds : List D} {vs : List V}, RepsQ Γ.K H1 α2 H2 ds vs → RepsQ Γ.K H α2 H2 ds vs := by
        intro ds vs r
        induction r with
        | nil => exact .nil
        | val r _ ih => exact .val r ih
        | own e m1 m2 m3 rs h0 hn _ ih =>
          refine .own e m1 m2 m3 rs ?_ hn ih
          rename_i b _ _ _ _ _
          cases z : H b with
          | none => rfl
          | some o =>
            by_cases hm : b ∈ α.c
            · exact (m2 (by
                obtain ⟨β, e1⟩ := (st1.toExt.trans st2.toExt).pre
                rw [e1]
                exact List.mem_append_left _ hm)).elim
            · rw [st1.frm b o hm z] at h0
              cases h0
      have e2 := st2.frm a _ ac e1
      have ac2 : a ∉ α2.c := fun z => (st2.newC a z).elim ac fun q => by rw [e1] at q; cases q
      have nin : ∀ {ds : List D} {vs : List V}, RepsQ Γ.K H1 α2 H2 ds vs → ∀ (j : Nat) (ds' : List D), ds[j]? = some (.own ds') → vs[j]? ≠ some (.ref a) := by
        intro ds vs r
        induction r with
        | nil => intro j ds' z; simp at z
        | @val d v ds vs r _ ih =>
          intro j ds' z
          cases j with
          | zero =>
            simp at z
            have := r.plain
            rw [z] at this
            cases this
          | succ j => exact ih j ds' (by simpa using z)
        | own e m1 m2 m3 rs h0 hn _ ih =>
          intro j ds' z
          cases j with
          | zero =>
            intro y
            simp at y
            rw [y, e1] at h0
            cases h0
          | succ j => exact ih j ds' (by simpa using z)
      exact p' _ _ _ (st1.q.trans hr1 st2) hr2 (.own e2 (st2.ho a st1.mem) ac2 (by rw [st2.hb]; exact ab) (r1.monoE st2.toExt) st1.q0 (nin r2) (conv r2))
    | exc c x h2 => rw [q2] at p'; exact fun α' H' cls d st hr xr => p' _ _ _ _ (st1.q.trans hr1 st) hr xr
    | bad => rw [q2] at p'; exact p'
  | exc c x h1 => rw [q] at p; exact fun α' H' cls d st hr xr => p _ _ _ _ st.q hr xr
  | bad => rw [q] at p; exact p
/-- one name after the other is set -/
theorem par_one {α : Al} {H0 H : Hp} {en : En} {σ : L2.St} {i : Nat} {d : D} {v : V} {ds : List D} {vs : List V} (er : ER Γ α H en σ) (hn : ∀ (j : Nat) (xs : List D) (a : Addr), en[j]? = some (some (.own xs)) → σ[j]? = some (some (.ref a)) → ∀ (n : Nat) (ys : List D), (d :: ds)[n]? = some (.own ys) → (v :: vs)[n]? ≠ some (.ref a)) (r : RepsQ Γ.K H0 α H (d :: ds) (v :: vs)) :
    ER Γ α H (en.set i (some d)) (σ.set i (some v)) ∧ RepsQ Γ.K H0 α H ds vs ∧ ∀ (j : Nat) (xs : List D) (a : Addr), (en.set i (some d))[j]? = some (some (.own xs)) → (σ.set i (some v))[j]? = some (some (.ref a)) → ∀ (n : Nat) (ys : List D), ds[n]? = some (.own ys) → vs[n]? ≠ some (.ref a) := by
  cases r with
  | val r rs =>
    refine ⟨er.set i r, rs, fun j xs a h1 h2 n ys h3 h4 => ?_⟩
    rcases set_get h1 with ⟨_, z, _⟩ | ⟨hj, h1'⟩
    · have := r.plain
      cases z
      cases this
    · rw [List.getElem?_set_ne (Ne.symm hj)] at h2
      exact hn j xs a h1' h2 (n + 1) ys (by simpa using h3) (by simpa using h4)
  | @own a ws xs _ _ e m1 m2 m3 w h0 hd rs =>
    refine ⟨er.setG i (.own e m1 m2 m3 w) fun a' xs' ds' j e1 e2 hj h1 h2 => ?_, rs, fun j xs' a' h1 h2 n ys h3 h4 => ?_⟩
    · cases e2
      exact hn j ds' a h1 h2 0 xs rfl rfl
    · rcases set_get h1 with ⟨rfl, z, hl⟩ | ⟨hj, h1'⟩
      · rw [List.getElem?_set_self (by rw [← er.len]; exact hl)] at h2
        cases h2
        exact hd n ys h3 h4
      · rw [List.getElem?_set_ne (Ne.symm hj)] at h2
        exact hn j xs' a' h1' h2 (n + 1) ys (by simpa using h3) (by simpa using h4)
theorem par_old {α : Al} {H0 H : Hp} {en : En} {σ : L2.St} {α0 : Al} {ds : List D} {vs : List V} (er : ER Γ α0 H0 en σ) (r : RepsQ Γ.K H0 α H ds vs) : ∀ (j : Nat) (xs : List D) (a : Addr), en[j]? = some (some (.own xs)) → σ[j]? = some (some (.ref a)) → ∀ (n : Nat) (ys : List D), ds[n]? = some (.own ys) → vs[n]? ≠ some (.ref a) := by
  intro j xs a h1 h2
  obtain ⟨ws, e0⟩ := er.old h1 h2
  induction r with
  | nil => intro n ys z; simp at z
  | @val d v ds vs r _ ih =>
    intro n ys z
    cases n with
    | zero =>
      simp at z
      have := r.plain
      rw [z] at this
      cases this
    | succ n => exact ih n ys (by simpa using z)
  | own e m1 m2 m3 rs h0 hn _ ih =>
    intro n ys z
    cases n with
    | zero =>
      intro y
      simp at y
      rw [y, e0] at h0
      cases h0
    | succ n => exact ih n ys (by simpa using z)
theorem parQ {α : Al} {h : Hh} {H : Hp} {en : En} {σ : L2.St} {r : R (List D)} {f : List D → Hh → RS} {Dn : Ends} {Q : List V → Hp → Prop} (er : ER Γ α H en σ) (p : PstS Γ α H (bndS r en f) Dn W)
    (k : ∀ ds h' α' H' vs, StepQ Γ.K α H α' H' → HR Γ.K α' h' H' → RepsQ Γ.K H α' H' ds vs → PstS Γ α' H' (f ds h') Dn W → Q vs H') : PstQ Γ α H r Q (fun c d H' => W c d σ H') := by
  cases r with
  | ok ds h1 => exact fun α' H' vs st hr rs => k ds h1 α' H' vs st hr rs (PstS.step st.stp p)
  | exc c x h1 => exact fun α' H' cls d st hr xr => p α' H' σ cls d st.stp hr (er.monoQ st) xr
  | bad => exact p
theorem ds_par2 {i j : Nat} {x y : Str} {a b : Expr} {px py pt : Pos} {kt k2 pt2} {g : En → Hh → R (List D)} (hc : X.calm = true) (hN : X.N.Nodup) (hi : X.N[i]? = some x) (hj : X.N[j]? = some y) (hij : i ≠ j) (hx : X.env.scope.names.lookup x = some .local) (hy : X.env.scope.names.lookup y = some .local)
    (hw : swappedStores [.Tuple [.Name x px, .Name y py] kt pt] (.Tuple [a, b] k2 pt2) X.env = pure (some [x, y])) (ha : DQ Γ X W [a, b] g) :
    DS Γ X W (.Assign [.Tuple [.Name x px, .Name y py] kt pt] (.Tuple [a, b] k2 pt2) pos) (fun en h => bndS (g en h) en fun ds h1 => match parSet [i, j] ds en with | some en' => .nx en' h1 | none => .bad) := by
  obtain ⟨t, pt, k⟩ := ha.ex
  refine ⟨_, ps_par hc hN hi hj hij hx hy pt hw rfl, fun α h H en σ Dn hr er p => k _ _ _ _ _ _ hr er (parQ (h := h) er p fun ds h1 α1 H1 vs st1 hr1 r1 p1 => ?_)⟩
  have er1 := er.monoQ st1
  have hn := par_old er r1
  rcases ds with _ | ⟨d1, _ | ⟨d2, _ | ⟨_, _⟩⟩⟩
  · exact False.elim p1
  · exact False.elim p1
  · have hl := r1.length
    rcases vs with _ | ⟨v1, _ | ⟨v2, _ | ⟨_, _⟩⟩⟩ <;> simp at hl
    obtain ⟨e1, q1, n1⟩ := par_one (i := i) er1 hn r1
    obtain ⟨e2, q2, n2⟩ := par_one (i := j) e1 n1 q1
    exact ⟨_, _, rfl, p1 _ _ _ Stp.refl hr1 e2⟩
  · exact False.elim p1
theorem ds_par3 {i j l : Nat} {x y z : Str} {a b c : Expr} {px py pz pt : Pos} {kt k2 pt2} {g : En → Hh → R (List D)} (hc : X.calm = true) (hN : X.N.Nodup) (hi : X.N[i]? = some x) (hj : X.N[j]? = some y) (hl : X.N[l]? = some z) (hij : i ≠ j) (hil : i ≠ l) (hjl : j ≠ l)
    (hx : X.env.scope.names.lookup x = some .local) (hy : X.env.scope.names.lookup y = some .local) (hz : X.env.scope.names.lookup z = some .local)
    (hw : swappedStores [.Tuple [.Name x px, .Name y py, .Name z pz] kt pt] (.Tuple [a, b, c] k2 pt2) X.env = pure (some [x, y, z])) (ha : DQ Γ X W [a, b, c] g) :
    DS Γ X W (.Assign [.Tuple [.Name x px, .Name y py, .Name z pz] kt pt] (.Tuple [a, b, c] k2 pt2) pos) (fun en h => bndS (g en h) en fun ds h1 => match parSet [i, j, l] ds en with | some en' => .nx en' h1 | none => .bad) := by
  obtain ⟨t, pt, k⟩ := ha.ex
  refine ⟨_, ps_par3 hc hN hi hj hl hij hil hjl hx hy hz pt hw rfl, fun α h H en σ Dn hr er p => k _ _ _ _ _ _ hr er (parQ (h := h) er p fun ds h1 α1 H1 vs st1 hr1 r1 p1 => ?_)⟩
  have er1 := er.monoQ st1
  have hn := par_old er r1
  rcases ds with _ | ⟨d1, _ | ⟨d2, _ | ⟨d3, _ | ⟨_, _⟩⟩⟩⟩
  · exact False.elim p1
  · exact False.elim p1
  · exact False.elim p1
  · have hl := r1.length
    rcases vs with _ | ⟨v1, _ | ⟨v2, _ | ⟨v3, _ | ⟨_, _⟩⟩⟩⟩ <;> simp at hl
    obtain ⟨e1, q1, n1⟩ := par_one (i := i) er1 hn r1
    obtain ⟨e2, q2, n2⟩ := par_one (i := j) e1 n1 q1
    obtain ⟨e3, q3, n3⟩ := par_one (i := l) e2 n2 q2
    exact ⟨_, _, _, rfl, p1 _ _ _ Stp.refl hr1 e3⟩
  · exact False.elim p1
/-! ### a range that goes down -/
theorem di_rng3 {tg a b c : Expr} {g : En → Hh → R (List D)} (hg : Gl X "range") (hm : X.mg "range" = none) (hs : [a, b, c].any star = false) (ha : DA Γ X W [a, b, c] g) : DI Γ X W tg (.Call (.Name "range" p) [a, b, c] [] pos) (fun en h => bnd (g en h) rngIt3) := by
  obtain ⟨t, pt, k⟩ := ha.ex
  rw [List.any_cons, Bool.or_eq_false_iff] at hs
  refine ⟨_, pi_range3 hg hm pt (starEach_cons hs.1) (starEach_any hs.2), fun α h H en σ Q hr er p => k _ _ _ _ _ _ hr er (p.bnd fun ds h1 α1 H1 vs st1 hr1 r1 p1 => ?_)⟩
  cases r1 with
  | nil => exact False.elim p1
  | cons r1 rs =>
    cases rs with
    | nil => cases r1 <;> exact False.elim p1
    | cons r2 rs =>
      cases rs with
      | nil => cases r1 <;> cases r2 <;> exact False.elim p1
      | cons r3 rs =>
        cases rs with
        | cons _ _ => cases r1 <;> cases r2 <;> cases r3 <;> exact False.elim p1
        | nil =>
          cases r1 <;> first | exact False.elim p1 | skip
          cases r2 <;> first | exact False.elim p1 | skip
          cases r3 <;> first | exact False.elim p1 | skip
          rename_i lo hi st
          simp only [rngIt3] at p1
          have lim := lim62_eq
          by_cases cc : -lim62 ≤ lo ∧ lo < lim62 ∧ -lim62 ≤ hi ∧ hi < lim62 ∧ st = -1
          · rw [if_pos cc] at p1
            rw [lim] at cc
            obtain ⟨c1, c2, c3, c4, rfl⟩ := cc
            refine ⟨_, _, _, _, rfl, RgC.neg c1 c2 c3 c4, p1 _ _ _ Step.refl hr1 ?_⟩
            intro α' h' H' st' hr' i
            intro hi0
            rw [rng_at]
            by_cases hi' : i < (lo - hi).toNat
            · rw [if_pos hi']
              refine ⟨hi', fun x H'' y => ?_⟩
              obtain ⟨rfl, rfl⟩ := y
              exact ⟨Step.refl, hr', .int _⟩
            · rw [if_neg hi']
              exact Nat.le_of_not_lt hi'
          · rw [if_neg cc] at p1; exact False.elim p1
/-! ### x += e -/
def augX (i : Nat) (op : Operator) (f : En → Hh → R D) (en : En) (h : Hh) : RS := match getE en i with
  | some x => bndS (f en h) en fun y h1 => match augOp op x y with
    | some z => .nx (en.set i (some z)) h1
    | none => .bad
  | none => .bad
theorem ds_augI {i : Nat} {x : Str} {e : Expr} {op : Operator} {pos' : Pos} {f : En → Hh → R D} (g : Int → Int → Int) (ho : PIp X op (ipI g)) (hh : ∀ dx dy z, augOp op dx dy = some z → ∃ a b, dx = .int a ∧ dy = .int b ∧ z = .int (g a b)) (hN : X.N.Nodup) (hi : X.N[i]? = some x) (hx : Loc X.env.scope x) (hf : X.fn x = true ∨ X.env.scope.names.lookup x = some .local) (he : DE Γ X W e f) :
    DS Γ X W (.AugAssign (.Name x pos') op e pos) (augX i op f) := by
  obtain ⟨t, pt, k⟩ := he.ex
  refine ⟨_, ps_aug hN hi hx pt ho hf, fun α h H en σ Dn hr er p => ?_⟩
  unfold augX at p
  cases q : getE en i with
  | none => rw [q] at p; exact False.elim p
  | some d =>
    rw [q] at p
    obtain ⟨v, e1, rv⟩ := er.getV q
    refine ⟨v, e1, k _ _ _ _ _ _ hr er (PstS.bnd p er fun y h1 α1 H1 yv st1 hr1 r1 p1 => ?_)⟩
    cases q2 : augOp op d y with
    | none => rw [q2] at p1; exact False.elim p1
    | some z =>
      rw [q2] at p1
      obtain ⟨a, b, rfl, rfl, rfl⟩ := hh _ _ _ q2
      cases rv
      cases r1
      exact ⟨_, _, rfl, rfl, p1 _ _ _ Stp.refl hr1 ((er.mono st1).set i (.int _))⟩
theorem aug_add (dx dy z : D) (h : augOp .Add dx dy = some z) : ∃ a b, dx = .int a ∧ dy = .int b ∧ z = .int (a + b) := by
  cases dx <;> cases dy <;> first | (cases h; done) | skip
  cases h
  exact ⟨_, _, rfl, rfl, rfl⟩
theorem aug_sub (dx dy z : D) (h : augOp .Sub dx dy = some z) : ∃ a b, dx = .int a ∧ dy = .int b ∧ z = .int (a - b) := by
  cases dx <;> cases dy <;> first | (cases h; done) | skip
  cases h
  exact ⟨_, _, rfl, rfl, rfl⟩
theorem ds_aug {i : Nat} {x : Str} {e : Expr} {op : Operator} {pos' : Pos} {f : En → Hh → R D} (hop : op = .Add ∨ op = .Sub) (hN : X.N.Nodup) (hi : X.N[i]? = some x) (hx : Loc X.env.scope x) (hf : X.fn x = true ∨ X.env.scope.names.lookup x = some .local) (he : DE Γ X W e f) :
    DS Γ X W (.AugAssign (.Name x pos') op e pos) (augX i op f) := by
  rcases hop with rfl | rfl
  · exact ds_augI _ ip_add aug_add hN hi hx hf he
  · exact ds_augI _ ip_sub aug_sub hN hi hx hf he
/-! ### starred displays -/
theorem da_star {e : Expr} {es : List Expr} {sp : Pos} {f : En → Hh → R D} {g : En → Hh → R (List D)} (hK : X.K = Γ.K) (he : DB Γ X W e f) (hes : DA Γ X W es g) :
    DA Γ X W (.Starred e sp :: es) (fun en h => bnd (f en h) fun d h1 => optR (itemsOf h1 d) fun xs => bnd (g en h1) fun ds h2 => .ok (xs ++ ds) h2) := by
  obtain ⟨t, pt, k⟩ := he.ex
  obtain ⟨u, pu, l⟩ := hes.ex
  refine ⟨_, StX.pa_star pt pu rfl, fun α h H en σ Q hr er p => k _ _ _ _ _ _ hr er (p.bnd fun d h1 α1 H1 v st1 hr1 r1 p1 => ?_)⟩
  obtain ⟨xs, e1, p1⟩ := Pst.opt p1
  obtain ⟨a, ws, rfl, hw, rw_⟩ := items_post hr1 r1 e1
  exact ⟨a, ws, rfl, by rw [hK]; exact hw.symm, l _ _ _ _ _ _ hr1 (er.mono st1) (p1.bnd fun ds h2 α2 H2 vs st2 hr2 r2 p2 => p2 _ _ _ Step.refl hr2 ((rw_.mono st2).append r2))⟩
/-! ### isinstance(e, (T, ..)) -/
theorem pa_tys {ts : List Ty} {p2 : Pos} (hg : ∀ t ∈ ts, Gl X (Str.ofString (tyName t))) (hm : ∀ t ∈ ts, X.mg (Str.ofString (tyName t)) = none) : PA X (ts.map fun t => .Name (Str.ofString (tyName t)) p2) (fun _ H Q => Q (ts.map fun t => V.ty (tyName t)) H) := by
  induction ts with
  | nil => exact pa_nil
  | cons t ts ih =>
    have pty : PE X (.Name (Str.ofString (tyName t)) p2) (tC (.ty (tyName t))) := by
      have h1 := hg t (List.mem_cons_self ..)
      have h2 := hm t (List.mem_cons_self ..)
      cases t <;> exact pe_bltn h1 h2 (by decide +kernel) rfl (by decide) (by decide)
    exact pa_cons pty (ih (fun t ht => hg t (List.mem_cons_of_mem _ ht)) (fun t ht => hm t (List.mem_cons_of_mem _ ht))) rfl
theorem kit_any {K : PySem.W.Frag} (k : Kd) : ∀ ts : List Ty, PySem.W.kitAny K (.type (kdName k)) (ts.map fun t => Value.type (tyName t)) = some (ts.any fun t => isK t k)
  | [] => kitAny_nil
  | t :: ts => by
    have ih := kit_any (K := K) k ts
    refine kitAny_cons (b := isK t k) (kit_ty (kit_kd t k)) (fun hb => ?_) fun hb => ?_
    · rw [ih, List.any_cons, hb, Bool.false_or]
    · rw [List.any_cons, hb, Bool.true_or]
theorem pair_tys : ∀ ts : List Ty, Paired ClsV (ts.map fun t => V.ty (tyName t)) (ts.map fun t => Value.type (tyName t))
  | [] => .nil
  | t :: ts => .cons (.ty _) (pair_tys ts)
theorem de_isis {ts : List Ty} {es : List Expr} {e : Expr} {kk : Nat} {p2 : Pos} {f : En → Hh → R D} (hK : X.K = Γ.K) (hg : Gl X "isinstance") (hm : X.mg "isinstance" = none) (hes : PA X es (fun _ H Q => Q (ts.map fun t => V.ty (tyName t)) H)) (hl : ts.length ≤ 30) (hs : star e = false) (he : DE Γ X W e f) :
    DE Γ X W (.Call (.Name "isinstance" p) [e, .Tuple es kk p2] [] pos) (fun en h => bnd (f en h) fun x h1 => .ok (.bl (ts.any fun t => isTyH h1 t x)) h1) := by
  obtain ⟨z, pz, k⟩ := he.ex
  refine ⟨_, pe_callB call_isiT hg hm (by decide +kernel) (pa_cons pz (pa_cons (pe_tup hes) pa_nil rfl) (starEach_cons hs)) (by decide) (by decide) (starEach_cons hs) rfl, fun α h H en σ Q hr er p => k _ _ _ _ _ _ hr er (p.bnd fun d h1 α1 H1 v st1 hr1 r1 p1 => ?_)⟩
  refine ⟨by rw [List.length_map, sizeLine_eq]; omega, fun q hq => ?_⟩
  have hr2 := hr1.other (o := .tup (ts.map fun t => V.ty (tyName t))) hq
  have r2 := r1.mono (Step.other (o := .tup (ts.map fun t => V.ty (tyName t))) hq)
  have ty := rep_ty hr2 r2 (hr2.there r2)
  exact ⟨v, q, _, .type (kdName (if dctB h1 d = true then .dict else kd d)), _, (ts.any fun t => isTyH h1 t d), rfl, upd_same, pair_tys ts, by rw [hK]; exact ty, kit_any _ ts, p1 _ _ _ (Step.other hq) hr2 (.bl _)⟩
end
end PD

set_option Elab.async false
set_option linter.all false
set_option maxRecDepth 100000
set_option maxHeartbeats 2000000
namespace PD
open PySem PySem.Spec PyProof.Rows L2
section
variable {Γ : Wd} {X : Cx} {W : WX} {pos p : Pos}
/-! ### comprehensions with two loops -/
abbrev hd2 (fg : D → En → Hh → R En) (fi1 : En → Hh → R It) (own : List Nat) (en : En) : D → Hh → R (En × It) := fun d h2 => bnd (fg d (wipeE en own) h2) fun en3 h3 => bnd (fi1 en3 h3) fun J h4 => .ok (en3, J) h4
abbrev bd2 (fg1 : D → En → Hh → R En) (ft : En → Hh → R Bool) (fe : En → Hh → R D) (own1 : List Nat) : En → D → Hh → R (Option D) := fun en3 d h2 => bnd (fg1 d (wipeE en3 own1) h2) fun en4 h4 => bnd (ft en4 h4) fun k h5 =>
      if k = true then bnd (fe en4 h5) fun y h6 => .ok (some y) h6 else .ok none h5
theorem df_comp2 {elt tg iter tg1 iter1 : Expr} {ifs1 : List Expr} {scope : Scope} {own : List (Str × Nat)} {own1 sl sl1 : List Nat} {fi fi1 : En → Hh → R It} {fg fg1 : D → En → Hh → R En} {ft : En → Hh → R Bool} {fe : En → Hh → R D}
    (hc : X.calm = true) (hN : X.N.Nodup) (hi : DI Γ X W tg iter fi) (ok : BlkOk X.N X.env.scope scope own) (hsl : ∀ j ∈ sl, j ∈ own.map (·.2)) (hsl1 : ∀ j ∈ sl1, j ∈ own1) (hv : ∀ j ∈ own1, j ∈ own.map (·.2))
    (hg : ∀ (s : Shared) (H : Hp) (C : Addr) (cl : List (Str × Addr)) (fp : List Addr), DG Γ (X.blk s H scope (compEnvC scope cl C X.env) fp) tg sl fg)
    (hi1 : ∀ (s : Shared) (H : Hp) (C : Addr) (cl : List (Str × Addr)) (fp : List Addr), DI Γ (X.blk s H scope (compEnvC scope cl C X.env) fp) (fun _ _ _ _ => False) tg1 iter1 fi1)
    (hg1 : ∀ (s : Shared) (H : Hp) (C : Addr) (cl : List (Str × Addr)) (fp : List Addr), DG Γ (X.blk s H scope (compEnvC scope cl C X.env) fp) tg1 sl1 fg1)
    (ht : ∀ (s : Shared) (H : Hp) (C : Addr) (cl : List (Str × Addr)) (fp : List Addr), DTs Γ (X.blk s H scope (compEnvC scope cl C X.env) fp) (fun _ _ _ _ => False) ifs1 ft)
    (he : ∀ (s : Shared) (H : Hp) (C : Addr) (cl : List (Str × Addr)) (fp : List Addr), DE Γ (X.blk s H scope (compEnvC scope cl C X.env) fp) (fun _ _ _ _ => False) elt fe)
    (hs : ∀ x, foldedSetIterable iter X.env x = pure x) (hs1 : ∀ env x, foldedSetIterable iter1 env x = pure x) :
    ∃ t, (PE X (.ListComp elt [⟨tg, iter, [], 0⟩, ⟨tg1, iter1, ifs1, 0⟩] scope pos) t ∧
      (∀ {i : Nat} {y : Str} {py spos : Pos}, X.N[i]? = some y → X.env.scope.names.lookup y = some .local → swapsWith (.ListComp elt [⟨tg, iter, [], 0⟩, ⟨tg1, iter1, ifs1, 0⟩] scope pos) (some (.Name y py)) spos.line X.env = pure true →
        PS X (.Assign [.Name y py] (.ListComp elt [⟨tg, iter, [], 0⟩, ⟨tg1, iter1, ifs1, 0⟩] scope pos) spos) (tAsg t (gName i)))) ∧
      ∀ α h H en σ Q, HR Γ.K α h H → ER Γ α H en σ → PstF Γ α H (bnd (fi en h) fun I h1 => noExc (comp2L (hd2 fg fi1 (own.map (·.2)) en) (bd2 fg1 ft fe own1) sizeLine I h1)) Q (fun c d H' => W c d σ H') → t σ H Q := by
  obtain ⟨ti, pi, ki⟩ := hi.ex
  have htt : ∀ (s : Shared) (H : Hp) (C : Addr) (cl : List (Str × Addr)) (fp : List Addr), PTs (X.blk s H scope (compEnvC scope cl C X.env) fp) [] (tTD Γ (fun _ _ _ _ => False) fun _ h => .ok true h) := fun s H C cl fp => dts_nil.pt
  refine ⟨_, ⟨pe_lc2 hc hN pi ok hv (fun s H C cl fp => (hg s H C cl fp).pg) htt (fun s H C cl fp => (hi1 s H C cl fp).pi) (fun s H C cl fp => (hg1 s H C cl fp).pg) (fun s H C cl fp => (ht s H C cl fp).pt) (fun s H C cl fp => (he s H C cl fp).pe) hs hs1,
    fun hy hyl hsw => ps_setLc2 hc hN hy hyl hsw pi ok hv (fun s H C cl fp => (hg s H C cl fp).pg) htt (fun s H C cl fp => (hi1 s H C cl fp).pi) (fun s H C cl fp => (hg1 s H C cl fp).pg) (fun s H C cl fp => (ht s H C cl fp).pt) (fun s H C cl fp => (he s H C cl fp).pe) hs hs1⟩, fun α h H en σ Q hr er p => ?_⟩
  refine ki _ _ _ _ _ _ hr er (p.bnd fun I h1 α1 H1 J st1 hr1 itr p1 => ?_)
  intro Dd hD
  generalize hHD : hd2 fg fi1 (own.map (·.2)) en = HD at p1
  generalize hBD : bd2 fg1 ft fe own1 = BD at p1
  have p1' : PstF Γ α1 H1 (noExc (bnd (comp2L HD BD sizeLine (I.drop 0) h1) fun r h2 => .ok ([] ++ r) h2)) Q (fun c d H' => W c d σ H') := by
    rw [List.drop_zero]
    cases q : comp2L HD BD sizeLine I h1 with
    | ok a h => rw [q] at p1; exact p1
    | exc c x h => rw [q] at p1; exact p1
    | bad => rw [q] at p1; exact p1
  refine ⟨fun i m H' => ∃ α' h' acc accV n, StepF Γ.K α1 H1 α' H' Dd ∧ H' Dd = some (.lst accV) ∧ HR Γ.K α' h' H' ∧ Reps Γ.K α' H' acc accV ∧ m + i = I.length ∧ acc.length + n ≤ sizeLine ∧
      PstF Γ α1 H1 (noExc (bnd (comp2L HD BD n (I.drop i) h') fun r h2 => .ok (acc ++ r) h2)) Q (fun c d H' => W c d σ H'),
    ⟨I.length, _, h1, [], [], sizeLine, StepF.made hD, upd_same, hr1.newO hD, .nil, by omega, by simp, p1'⟩, ?_⟩
  rintro i m H' ⟨α', h', acc, accV, n, st, eD, hr', racc, hm, ha, pp⟩
  have hit := itr α' h' H' st.toExt hr' i (by omega)
  cases e : I[i]? with
  | none =>
    rw [e] at hit
    refine .inl ⟨hit, ?_⟩
    rw [List.drop_eq_nil_of_le (List.getElem?_eq_none_iff.mp e)] at pp
    have pp' : PstF Γ α1 H1 (.ok (acc ++ []) h') Q (fun c d H' => W c d σ H') := by
      unfold comp2L at pp
      exact pp
    rw [List.append_nil] at pp'
    exact pp' _ _ _ _ st hr' eD racc
  | some d =>
    rw [e] at hit
    have hil : i < I.length := (List.getElem?_eq_some_iff.mp e).1
    cases m with
    | zero => omega
    | succ m =>
    refine .inr ⟨hit.1, fun H'' => ∃ α' h' acc accV n, StepF Γ.K α1 H1 α' H'' Dd ∧ H'' Dd = some (.lst accV) ∧ HR Γ.K α' h' H'' ∧ Reps Γ.K α' H'' acc accV ∧ m + (i + 1) = I.length ∧ acc.length + n ≤ sizeLine ∧
      PstF Γ α1 H1 (noExc (bnd (comp2L HD BD n (I.drop (i + 1)) h') fun r h2 => .ok (acc ++ r) h2)) Q (fun c d H' => W c d σ H'), fun H'' hw => ⟨m, Nat.lt_succ_self m, hw⟩, fun x Hx hy => ?_⟩
    obtain ⟨sx, hrx, rx⟩ := hit.2 x Hx hy
    have stx : StepF Γ.K α1 H1 α' Hx Dd := st.thenS sx
    have eDx : Hx Dd = some (.lst accV) := sx.frm Dd _ (fun z => (hr'.dis _ z).1 st.mem) eD
    have raccx := racc.mono sx
    rw [drop_at e] at pp
    unfold comp2L at pp
    rw [bnd_assoc] at pp
    have hdd : HD d h' = hd2 fg fi1 (own.map (·.2)) en d h' := by rw [hHD]
    rw [hdd, bnd_assoc] at pp
    -- the target
    refine ⟨α', h', d, wipeE en (own.map (·.2)), hrx, ((er.mono st1).monoF stx).wipe _, rx, PstF.at pp fun en3 h3 α3 H3 σ3 st3 hr3 r3 p3 => ?_⟩
    refine ⟨wipe_agr r3.2.1 hsl, ?_⟩
    have stB : StepF Γ.K α1 H1 α3 H3 Dd := stx.thenS st3
    have eD3 : H3 Dd = some (.lst accV) := st3.frm Dd _ (fun z => (hrx.dis _ z).1 st.mem) eDx
    -- no test
    refine ⟨α3, h3, en3, hr3, r3.1, fun αt Ht bt stt hrt rt => ?_⟩
    cases rt
    simp only [if_true]
    have stT : StepF Γ.K α1 H1 αt Ht Dd := stB.thenS stt
    have eDt : Ht Dd = some (.lst accV) := stt.frm Dd _ (fun z => (hr3.dis _ z).1 stB.mem) eD3
    -- the inner iterable
    rw [bnd_assoc] at p3
    refine ⟨αt, h3, en3, hrt, r3.1.mono stt, Pst.noExc (E := fun _ _ _ => False) (PstF.at p3 fun J1 h4 α4 H4 K1 st4 hr4 itr4 p4 => ?_)⟩
    have st4' : StepF Γ.K α1 H1 α4 H4 Dd := stT.thenS st4
    have eD4 : H4 Dd = some (.lst accV) := st4.frm Dd _ (fun z => (hrt.dis _ z).1 stT.mem) eDt
    have er4 : ER Γ α4 H4 en3 σ3 := (r3.1.mono stt).mono st4
    have p4' : PstF Γ α1 H1 (noExc (bnd (if J1.length ≤ n then bnd (compL (BD en3) J1 h4) fun r h2 => bnd (comp2L HD BD (n - r.length) (I.drop (i + 1)) h2) fun r' h3 => R.ok (r ++ r') h3 else .bad) fun r h2 => .ok (acc ++ r) h2)) Q (fun c d H' => W c d σ H') := p4
    by_cases hJ : J1.length ≤ n
    · rw [if_pos hJ, bnd_assoc] at p4'
      -- the state of the inner loop: what it has brought
      refine ⟨fun j k H' => ∃ α' h' r rV, StepF Γ.K α1 H1 α' H' Dd ∧ Ext Γ.K α4 H4 α' H' ∧ α'.o = α4.o ∧ (∀ a o, a ∉ α4.c → a ≠ Dd → H4 a = some o → H' a = some o) ∧ (∀ a, a ∈ α'.c → a ∈ α4.c ∨ H4 a = none) ∧ H' Dd = some (.lst (accV ++ rV)) ∧ HR Γ.K α' h' H' ∧ Reps Γ.K α' H' (acc ++ r) (accV ++ rV) ∧ k + j = J1.length ∧ r.length ≤ j ∧
        PstF Γ α1 H1 (noExc (bnd (compL (BD en3) (J1.drop j) h') fun r' h2 => bnd (bnd (comp2L HD BD (n - (r ++ r').length) (I.drop (i + 1)) h2) fun r'' h3 => R.ok ((r ++ r') ++ r'') h3) fun r h2 => .ok (acc ++ r) h2)) Q (fun c d H' => W c d σ H'),
        ⟨J1.length, α4, h4, [], [], st4', Ext.refl, rfl, fun _ _ _ _ e => e, fun _ h => .inl h, by rw [List.append_nil]; exact eD4, hr4, by rw [List.append_nil, List.append_nil]; exact ((raccx.mono st3).mono stt).mono st4, by omega, by simp, by rw [List.drop_zero]; exact p4'⟩, ?_⟩
      clear p4 p4' p3 pp hit
      rintro j k H5 ⟨α5, h5, r5, rV5, st5, ex5, o5, f5, n5, eD5, hr5, racc5, hk, hl5, p5⟩
      have hit5 := itr4 α5 h5 H5 ex5 hr5 j (by omega)
      have er5 : ER Γ α5 H5 en3 σ3 := by
        refine ⟨er4.len, fun i d h => ?_, er4.uq⟩
        obtain ⟨v, e0, z⟩ := er4.get i d h
        refine ⟨v, e0, ?_⟩
        cases z with
        | val z => exact .val (z.monoE ex5)
        | err hx e hc r => exact .err hx (f5 _ _ hc (fun z => by rw [z, eD4] at e; cases e) e) (fun z => (n5 _ z).elim hc fun q => by rw [e] at q; cases q) (r.monoE ex5)
        | own e ho hc hb rs =>
          rename_i a _ _
          have hz : a ≠ Dd := by
            rintro rfl
            obtain ⟨g1, g2⟩ := r3.2.2 i _ h
            obtain ⟨g3, g4⟩ := OwP.wipe _ i _ g1
            rw [g2, g4] at e0
            obtain ⟨ws, e1⟩ := (er.mono st1).old g3 e0
            rw [hD] at e1
            cases e1
          exact .own (f5 a _ hc hz e) (by rw [o5]; exact ho) (fun z => (n5 a z).elim hc fun q => by rw [e] at q; cases q) (by rw [st5.hb, ← st4'.hb]; exact hb) (rs.monoE ex5)
      cases e5 : J1[j]? with
      | none =>
        rw [e5] at hit5
        refine .inl ⟨hit5, ?_⟩
        rw [List.drop_eq_nil_of_le (List.getElem?_eq_none_iff.mp e5)] at p5
        have p6 : PstF Γ α1 H1 (noExc (bnd (bnd (comp2L HD BD (n - (r5 ++ []).length) (I.drop (i + 1)) h5) fun r'' h3 => R.ok ((r5 ++ []) ++ r'') h3) fun r h2 => .ok (acc ++ r) h2)) Q (fun c d H' => W c d σ H') := p5
        rw [List.append_nil, bnd_assoc] at p6
        have e7 : (fun (r : List D) (h2 : Hh) => bnd (R.ok (r5 ++ r) h2) fun r h2 => R.ok (acc ++ r) h2) = fun r h2 => R.ok ((acc ++ r5) ++ r) h2 := by
          funext r h2
          show R.ok (acc ++ (r5 ++ r)) h2 = _
          rw [List.append_assoc]
        rw [e7] at p6
        exact ⟨α5, h5, acc ++ r5, accV ++ rV5, n - r5.length, st5, eD5, hr5, racc5, by omega, by rw [List.length_append]; omega, p6⟩
      | some d5 =>
        rw [e5] at hit5
        have hjl : j < J1.length := (List.getElem?_eq_some_iff.mp e5).1
        cases k with
        | zero => omega
        | succ k =>
        refine .inr ⟨hit5.1, fun H' => ∃ α' h' r rV, StepF Γ.K α1 H1 α' H' Dd ∧ Ext Γ.K α4 H4 α' H' ∧ α'.o = α4.o ∧ (∀ a o, a ∉ α4.c → a ≠ Dd → H4 a = some o → H' a = some o) ∧ (∀ a, a ∈ α'.c → a ∈ α4.c ∨ H4 a = none) ∧ H' Dd = some (.lst (accV ++ rV)) ∧ HR Γ.K α' h' H' ∧ Reps Γ.K α' H' (acc ++ r) (accV ++ rV) ∧ k + (j + 1) = J1.length ∧ r.length ≤ j + 1 ∧
          PstF Γ α1 H1 (noExc (bnd (compL (BD en3) (J1.drop (j + 1)) h') fun r' h2 => bnd (bnd (comp2L HD BD (n - (r ++ r').length) (I.drop (i + 1)) h2) fun r'' h3 => R.ok ((r ++ r') ++ r'') h3) fun r h2 => .ok (acc ++ r) h2)) Q (fun c d H' => W c d σ H'),
          fun H'' hw => ⟨k, Nat.lt_succ_self k, hw⟩, fun x6 H6 hy6 => ?_⟩
        obtain ⟨s6, hr6, r6⟩ := hit5.2 x6 H6 hy6
        have mv : ∀ {α7 : Al} {H7 : Hp}, Step Γ.K α5 H5 α7 H7 → Ext Γ.K α4 H4 α7 H7 ∧ α7.o = α4.o ∧ (∀ a o, a ∉ α4.c → a ≠ Dd → H4 a = some o → H7 a = some o) ∧ (∀ a, a ∈ α7.c → a ∈ α4.c ∨ H4 a = none) := fun {α7 H7} s7 => by
          refine ⟨ex5.trans s7.toExt, s7.ho.trans o5, fun a o h1 h2 h3 => s7.frm a o (fun z => ?_) (f5 a o h1 h2 h3), fun a ha => ?_⟩
          · rcases n5 a z with z | z
            · exact h1 z
            · rw [h3] at z; cases z
          · rcases s7.new a ha with z | z
            · exact n5 a z
            · by_cases hm : a ∈ α4.c
              · exact .inl hm
              · cases q : H4 a with
                | none => exact .inr rfl
                | some o =>
                  by_cases hd : a = Dd
                  · subst hd
                    rw [eD5] at z; cases z
                  · rw [f5 a o hm hd q] at z; cases z
        have st6 : StepF Γ.K α1 H1 α5 H6 Dd := st5.thenS s6
        have eD6 : H6 Dd = some (.lst (accV ++ rV5)) := s6.frm Dd _ (fun z => (hr5.dis _ z).1 st5.mem) eD5
        have racc6 := racc5.mono s6
        rw [drop_at e5] at p5
        unfold compL at p5
        have hbb : BD en3 d5 h5 = bd2 fg1 ft fe own1 en3 d5 h5 := by rw [hBD]
        rw [bnd_assoc, hbb, bnd_assoc] at p5
        refine ⟨α5, h5, d5, wipeE en3 own1, hr6, (er5.mono s6).wipe _, r6, PstF.at p5 fun en7 h7 α7 H7 σ7 st7 hr7 r7 p7 => ?_⟩
        refine ⟨wipe_agr r7.2.1 hsl1, ?_⟩
        have stC : StepF Γ.K α1 H1 α7 H7 Dd := st6.thenS st7
        have eD7 : H7 Dd = some (.lst (accV ++ rV5)) := st7.frm Dd _ (fun z => (hr6.dis _ z).1 st6.mem) eD6
        rw [bnd_assoc] at p7
        refine ⟨α7, h7, en7, hr7, r7.1, Pst.noExc (E := fun _ _ _ => False) (PstF.at p7 fun kb h8 α8 H8 kv st8 hr8 r8 p8 => ?_)⟩
        cases r8
        have stE : StepF Γ.K α1 H1 α8 H8 Dd := stC.thenS st8
        have eD8 : H8 Dd = some (.lst (accV ++ rV5)) := st8.frm Dd _ (fun z => (hr7.dis _ z).1 stC.mem) eD7
        cases kb with
        | false =>
          simp only [Bool.false_eq_true, if_false] at p8 ⊢
          obtain ⟨m1, m2, m3, m4⟩ := mv ((s6.trans st7).trans st8)
          have p9 : PstF Γ α1 H1 (noExc (bnd (bnd (compL (BD en3) (J1.drop (j + 1)) h8) fun r h2 => R.ok r h2) fun r' h2 => bnd (bnd (comp2L HD BD (n - (r5 ++ r').length) (I.drop (i + 1)) h2) fun r'' h3 => R.ok ((r5 ++ r') ++ r'') h3) fun r h2 => .ok (acc ++ r) h2)) Q (fun c d H' => W c d σ H') := p8
          rw [bnd_assoc] at p9
          exact ⟨α8, h8, r5, rV5, stE, m1, m2, m3, m4, eD8, hr8, (racc6.mono st7).mono st8, by omega, by omega, p9⟩
        | true =>
          simp only [if_true] at p8 ⊢
          rw [bnd_assoc] at p8
          refine ⟨α8, h8, en7, hr8, r7.1.mono st8, Pst.noExc (E := fun _ _ _ => False) (PstF.at p8 fun y h9 α9 H9 yv st9 hr9 r9 p9 => ?_)⟩
          have stF : StepF Γ.K α1 H1 α9 H9 Dd := stE.thenS st9
          have eD9 : H9 Dd = some (.lst (accV ++ rV5)) := st9.frm Dd _ (fun z => (hr8.dis _ z).1 stE.mem) eD8
          have racc9 := ((racc6.mono st7).mono st8).mono st9
          obtain ⟨m1, m2, m3, m4⟩ := mv (((s6.trans st7).trans st8).trans st9)
          have hw := (Stp.set (K := Γ.K) (vs' := accV ++ (rV5 ++ [yv])) eD9 stF.mem).toExt
          refine ⟨accV ++ rV5, eD9, ?_, ?_⟩
          · have := racc9.length
            rw [List.length_append, List.length_append] at this
            rw [List.length_append]
            omega
          rw [List.append_assoc]
          refine ⟨α9, h9, r5 ++ [y], rV5 ++ [yv], stF.write eD9, m1.trans hw, m2, fun a o g1 g2 g3 => by rw [upd_ne g2]; exact m3 a o g1 g2 g3, m4, upd_same, hr9.setO eD9 stF.mem, ?_, by omega, by rw [List.length_append]; simp; omega, ?_⟩
          · rw [← List.append_assoc, ← List.append_assoc]
            rw [← List.append_assoc] at hw
            exact (racc9.append (.cons r9 .nil)).monoE hw
          · have p10 : PstF Γ α1 H1 (noExc (bnd (bnd (compL (BD en3) (J1.drop (j + 1)) h9) fun r h2 => R.ok (y :: r) h2) fun r' h2 => bnd (bnd (comp2L HD BD (n - (r5 ++ r').length) (I.drop (i + 1)) h2) fun r'' h3 => R.ok ((r5 ++ r') ++ r'') h3) fun r h2 => .ok (acc ++ r) h2)) Q (fun c d H' => W c d σ H') := p9
            rw [bnd_assoc] at p10
            have e7 : (fun (r : List D) (h2 : Hh) => bnd (R.ok (y :: r) h2) fun r' h2 => bnd (bnd (comp2L HD BD (n - (r5 ++ r').length) (I.drop (i + 1)) h2) fun r'' h3 => R.ok ((r5 ++ r') ++ r'') h3) fun r h2 => R.ok (acc ++ r) h2)
                = fun r' h2 => bnd (bnd (comp2L HD BD (n - ((r5 ++ [y]) ++ r').length) (I.drop (i + 1)) h2) fun r'' h3 => R.ok (((r5 ++ [y]) ++ r') ++ r'') h3) fun r h2 => R.ok (acc ++ r) h2 := by
              funext r h2
              have : r5 ++ [y] ++ r = r5 ++ y :: r := by simp
              rw [this]
              rfl
            rw [e7] at p10
            exact p10
    · rw [if_neg hJ] at p4'
      exact False.elim p4'
end
end PD

set_option Elab.async false
set_option linter.all false
set_option maxRecDepth 100000
set_option maxHeartbeats 1000000
/-! Names set from a display in which new lists stand. -/
namespace PD
open PySem PySem.Spec PyProof.Rows L2
section
variable {Γ : Wd} {X : Cx} {W : WX} {pos : Pos}
inductive NmOk (X : Cx) : List Expr → List Nat → Prop
  | nil : NmOk X [] []
  | cons {x : Str} {i : Nat} {p : Pos} {es : List Expr} {is : List Nat} : X.N[i]? = some x → Loc X.env.scope x → (X.fn x = true ∨ X.env.scope.names.lookup x = some .local) → NmOk X es is → NmOk X (.Name x p :: es) (i :: is)
def setV : List Nat → List V → L2.St → L2.St
  | i :: is, v :: vs, σ => setV is vs (σ.set i (some v))
  | _, _, σ => σ
theorem NmOk.pgs {es : List Expr} {is : List Nat} (hN : X.N.Nodup) (h : NmOk X es is) : ∃ t, PGs X es t ∧ ∀ vs σ H Q, vs.length = is.length → Q (setV is vs σ) H → t vs σ H Q := by
  induction h with
  | nil =>
    refine ⟨_, pgs_nil, fun vs σ H Q hl q => ?_⟩
    cases vs with
    | nil => exact ⟨rfl, q⟩
    | cons _ _ => cases hl
  | cons h1 h2 h3 _ ih =>
    obtain ⟨t, pt, k⟩ := ih
    refine ⟨_, pgs_cons (pg_name hN h1 h2 h3) pt rfl, fun vs σ H Q hl q => ?_⟩
    cases vs with
    | nil => cases hl
    | cons v vs => exact ⟨v, vs, rfl, k vs _ H Q (by simpa using hl) q⟩
theorem NmOk.len {es : List Expr} {is : List Nat} (h : NmOk X es is) : es.length = is.length := by
  induction h with
  | nil => rfl
  | cons _ _ _ _ ih => simp [ih]
theorem NmOk.star {es : List Expr} {is : List Nat} (h : NmOk X es is) : es.any star = false := by
  induction h with
  | nil => rfl
  | cons _ _ _ _ ih => rw [List.any_cons, ih]; rfl
theorem RepsQ.other {K : PySem.W.Frag} {α : Al} {H0 H : Hp} {q : Addr} {o : HO} (hq : H q = none) : ∀ {ds : List D} {vs : List V}, RepsQ K H0 α H ds vs → RepsQ K H0 α (upd H q o) ds vs
  | _, _, .nil => .nil
  | _, _, .val r rs => .val (r.mono (Step.other hq)) (RepsQ.other hq rs)
  | _, _, .own e m1 m2 m3 r h0 hn rs => .own (by rw [upd_ne (ne_of_none e hq)]; exact e) m1 m2 m3 (r.mono (Step.other hq)) h0 hn (RepsQ.other hq rs)
theorem par_len : ∀ {is : List Nat} {ds : List D} {en en' : En}, parSet is ds en = some en' → ds.length = is.length
  | [], [], _, _, _ => rfl
  | [], _ :: _, _, _, h => by cases h
  | _ :: _, [], _, _, h => by cases h
  | i :: is, d :: ds, en, en', h => by simp [par_len (is := is) (ds := ds) h]
theorem par_all {α : Al} {H0 H : Hp} : ∀ {is : List Nat} {ds : List D} {vs : List V} {en en' : En} {σ : L2.St}, ER Γ α H en σ →
    (∀ (j : Nat) (xs : List D) (a : Addr), en[j]? = some (some (.own xs)) → σ[j]? = some (some (.ref a)) → ∀ (n : Nat) (ys : List D), ds[n]? = some (.own ys) → vs[n]? ≠ some (.ref a)) → RepsQ Γ.K H0 α H ds vs → parSet is ds en = some en' → ER Γ α H en' (setV is vs σ)
  | [], [], vs, en, en', σ, er, _, r, e => by
    cases r
    cases e
    exact er
  | [], _ :: _, _, _, _, _, _, _, _, e => by cases e
  | _ :: _, [], _, _, _, _, _, _, _, e => by cases e
  | i :: is, d :: ds, vs, en, en', σ, er, hn, r, e => by
    cases vs with
    | nil => cases r
    | cons v vs =>
      obtain ⟨e1, q1, n1⟩ := par_one (i := i) er hn r
      exact par_all (is := is) e1 n1 q1 e
theorem ds_parT {ts vs : List Expr} {is : List Nat} {kt k2 : Nat} {pt p2 : Pos} {g : En → Hh → R (List D)} (hK : X.K = Γ.K) (hc : X.calm = true) (hN : X.N.Nodup) (hn : NmOk X ts is) (h30 : is.length ≤ 30)
    (hs : swapsWithSole [.Tuple ts kt pt] (.Tuple vs k2 p2) pos.line X.env = pure false) (hw : swappedStores [.Tuple ts kt pt] (.Tuple vs k2 p2) X.env = pure none) (ha : DQ Γ X W vs g) :
    DS Γ X W (.Assign [.Tuple ts kt pt] (.Tuple vs k2 p2) pos) (fun en h => bndS (g en h) en fun ds h1 => match parSet is ds en with | some en' => .nx en' h1 | none => .bad) := by
  obtain ⟨t, pq, k⟩ := ha.ex
  obtain ⟨u, pu, l⟩ := hn.pgs hN
  refine ⟨_, ps_asg (pe_tup pq) (pg_tup (n := ts.length) hc pu assignEach_len (assignEach_idx hn.star)) hs hw rfl, fun α h H en σ Dn hr er p => k _ _ _ _ _ _ hr er (parQ (h := h) er p fun ds h1 α1 H1 us st1 hr1 r1 p1 => ?_)⟩
  cases q : parSet is ds en with
  | none => rw [q] at p1; exact False.elim p1
  | some en' =>
    rw [q] at p1
    have hl := par_len q
    have hl2 := r1.length
    refine ⟨by rw [← hl2, hl, PySem.sizeLine_eq]; omega, fun a ha => ⟨a, us, rfl, SqT.of upd_same, by rw [← hl2, hl, hn.len], l _ _ _ _ (by rw [← hl2, hl]) ?_⟩⟩
    have st2 : Step Γ.K α1 H1 α1 (upd H1 a (.tup us)) := Step.other ha
    exact p1 _ _ _ st2.stp (hr1.other ha) (par_all ((er.monoQ st1).mono st2) (par_old er r1) (r1.other (o := .tup us) ha) q)
/-- L1.append(L2.pop(..)) -/
theorem ds_appP {i j : Nat} {x : Str} {px apos cpos : Pos} {e : Expr} {g : En → Hh → R (List D)} (hij : i ≠ j) (hK : X.K = Γ.K) (hN : X.N[i]? = some x) (hv : Vis X.env.scope x) (hd : (x == ("__debug__" : Str)) = false) (hcd : (x == ("__classdict__" : Str)) = false) (hl : (apos.endLine == cpos.line) = true)
    (hst : star e = false) (hs : swapsWith (.Call (.Attribute (.Name x px) "append" apos) [e] [] cpos) none pos.line X.env = pure false) (he : DM Γ X W j .pop e g) :
    DS Γ X W (.Expr (.Call (.Attribute (.Name x px) "append" apos) [e] [] cpos) pos) (fun en h => match PD.getO en i, PD.getO en j with | some xs, some ys => bndS (g en h) en fun ds h1 => (match mutOp .pop ys ds with | some p => (match mutOp .append xs [p.2] with | some q => .nx ((en.set j (some (.own p.1))).set i (some (.own q.1))) h1 | none => .bad) | none => .bad) | _, _ => .bad) := by
  obtain ⟨t, pt, k⟩ := he.ex
  have hs' : ([e] : List Expr).any star = false := by simp [hst]
  have few : ((backTo cpos (starEach [e] X.env)).all (fun x => !x.1) && (backToKw cpos (keywordEach [] X.env)).all (fun x => x.1.isSome) && decide (([e] : List Expr).length + ([] : List Keyword).length + (if ([] : List Keyword).isEmpty then 0 else 1) < 30)) = true := by
    have h1 : (backTo cpos (starEach [e] X.env)).all (fun x => !x.1) = true := by
      have := starEach_any (pos := cpos) (env := X.env) hs'
      rw [List.any_eq_false] at this
      rw [List.all_eq_true]
      exact fun x hx => by
        have := this x hx
        simpa using this
    rw [h1]
    rfl
  refine ⟨_, ps_expr (pe_bm PySem.F.plainAttrs_list (me_slot .append) (me_ty .append) (me_mt .append) (pe_var hN hv hd hcd) (pa_cons pt pa_nil (starEach_cons hst)) rfl few hl (starEach_cons hst) (starEach_any (es := []) rfl)) hs, fun α h H en σ Dn hr er p => ?_⟩
  cases hoi : PD.getO en i with
  | none => rw [hoi] at p; exact False.elim p
  | some xs =>
    cases hoj : PD.getO en j with
    | none => rw [hoi, hoj] at p; exact False.elim p
    | some ys =>
      rw [hoi, hoj] at p
      obtain ⟨a, hsa, ty⟩ := own_ty hK er hoi
      refine ⟨_, hsa, ty, k _ _ _ _ _ _ ys hr er hoj ?_⟩
      dsimp only at p
      cases q : g en h with
      | ok ds h1 =>
        rw [q] at p
        show (match mutOp .pop ys ds with | none => False | some q => _)
        have p' : PstS Γ α H (match mutOp .pop ys ds with | some p => (match mutOp .append xs [p.2] with | some q => .nx ((en.set j (some (.own p.1))).set i (some (.own q.1))) h1 | none => .bad) | none => .bad) Dn W := p
        cases q2 : mutOp .pop ys ds with
        | none => rw [q2] at p'; exact False.elim p'
        | some z =>
          rw [q2] at p'
          intro α1 H1 a2 ws ws' yv st hr1 e1 e2 e3 e4 e5 r1 r2
          dsimp only at p'
          cases q3 : mutOp .append xs [z.2] with
          | none => rw [q3] at p'; exact False.elim p'
          | some z2 =>
            rw [q3] at p'
            have er1 := (er.mono st).write hoj e1 e2 e3 e4 e5 r1
            have ho1 : PD.getO (en.set j (some (.own z.1))) i = some xs := by
              unfold PD.getO
              rw [List.getElem?_set_ne (Ne.symm hij)]
              exact hoi
            obtain ⟨a', us, f1, f2, f3, f4, f5, w1⟩ := er1.getO ho1
            rw [hsa] at f1
            cases f1
            have st2 := Stp.set (K := Γ.K) (α := α1) (vs' := ws') e2 e3
            exact me_own f2 w1 (.cons (r2.monoE st2.toExt) .nil) q3 fun us' yv' s1 s2 => p' _ _ _ ((st.stp.trans st2).trans (Stp.set f2 f3)) ((hr1.setO e2 e3).setO f2 f3) (er1.write ho1 hsa f2 f3 f4 f5 s1)
      | exc c x h1 =>
        rw [q] at p
        exact fun α' H' cls d st hr xr => p α' H' σ cls d st.stp hr (er.mono st) xr
      | bad => rw [q] at p; exact p
end
end PD

set_option Elab.async false
set_option linter.all false
set_option maxRecDepth 100000
set_option maxHeartbeats 2000000
/-! An own error with one field, value: raised, caught, asked. (The first part is skel/42 turned to the field value.) -/
namespace PySem
namespace OwnX
open PySem.W PySem.Calls PyProof.Rows PySem.HandSPX
/-! ### the text of __init__ -/
def iA (p1 p2 : Pos) : Arguments := { posonlyargs := [], args := [{ arg := "self", annotation := none, pos := p1 }, { arg := "value", annotation := none, pos := p2 }], vararg := none, kwonlyargs := [], kw_defaults := [], kwarg := none, defaults := [] }
def iB (q1 q2 q3 q4 : Pos) : List Stmt := [.Assign [.Attribute (.Name "self" q1) "value" q2] (.Name "value" q3) q4]
def iS : Scope := { kind := .function, names := [(PySem.Str.ofString "self", .local), (PySem.Str.ofString "value", .local)], isGenerator := false, isCoroutine := false, more := [] }
/-- what the written part says of an own error at C, and of its __init__, at fI -/
structure OwnTxt (K : Frag) (C fI : Addr) : Prop where
  cls : ∃ nm q N bs bm sn sub ab col dd k0 k1 k2 k3 k5, K.lookup C = some (excClassObj nm q C N bs bm true sn sub ab col dd k0 k1 k2 k3 k5 "ValueError.__new__") ∧ refsVE bm = true
  sa : findIn K (.ref C) "__setattr__" = some (some (.builtin "object.__setattr__"))
  ga : findIn K (.ref C) "__getattribute__" = some (some (.builtin "BaseException.__getattribute__"))
  gg : findIn K (.ref C) "__getattr__" = some none
  noN : findIn K (.ref C) "value" = some none
  iC : findIn K (.ref C) "__init__" = some (some (.ref fI))
  tC : typeIn K (.ref fI) = some (.type "function")
  kC : keepIn K (.ref C) = true
  exC : subIn K (.ref C) (.type "BaseException") = some true
  tyC : typeIn K (.ref C) = some (.type "type")
  hdC : hasDictIn K C = true
  fn : ∃ (qn : Str) (oc : Value) (od : Option Addr) (doc pm : Value) (an : Option Addr) (cdv ct : Value) (osl : Array (Option Value)) (p1 p2 q1 q2 q3 q4 : Pos),
    K.lookup fI = some ⟨oc, od, .func (fnOf "__init__" qn (iA p1 p2) (iB q1 q2 q3 q4) iS .none .none doc pm an cdv ct), osl⟩ ∧ codeIn K cdv qn = true
theorem one_size (v : Value) : [v].length ≤ sizeLine := by
  rw [sizeLine_eq]
  exact (by decide : 1 ≤ 16777216)
theorem kept_but {K : Frag} {h h' : Heap} {x : Addr} (X : K.In h) (hx : K.lookup x = none) (k : ∀ b o, b ≠ x → h.get? b = some o → h'.get? b = some o) : K.In h' := fun a o e =>
  k a o (fun z => by rw [z, hx] at e; cases e) (X a o e)
theorem ldC {M : Model} {s : Shared} {name : Str} {scope : Scope} {L a : Addr} {cd : Value} {m : Str → Option Value} {x : Str} {pos : Pos} {v : Value} {Q : Value → Shared → Prop} {A : Around} {E : Value → Shared → Prop} (hn : s.heap.Ns L m) (hv : m x = some v) (h : Q v s)
    (hk : scope.kind = .function := by rfl) (hl : (envOfC name scope L a cd).kindOf x = some .local := by rfl) (hd : (x == ("__debug__" : Str)) = false := by decide) :
    wpAny M A (eval (.Name x pos) (envOfC name scope L a cd)) Q E s := wpAny_Name (wpAny_loadName_local hk hl hn hv h) hd
/-- what __init__ leaves of a fresh exception at x -/
structure InitEnd (h h' : Heap) (x C dx t1 : Addr) (v : Value) : Prop where
  keep : ∀ b o, b ≠ x → h.get? b = some o → h'.get? b = some o
  obj : h'.get? x = some { cls := .ref C, dict := some dx, data := .fields #[.ref t1, .none, .none, .none, .bool false, .none] }
  dbig : h.objs.size ≤ dx
  dne : dx ≠ x
  ns : h'.Ns1 dx (fun y => if y = "value" then some v else none)
/-- a made error -/
structure OwnMade (h h' : Heap) (e C d : Addr) (v : Value) : Prop where
  keep : ∀ b o, h.get? b = some o → h'.get? b = some o
  new : h.objs.size ≤ e
  obj : ∃ oe vs, h'.get? e = some oe ∧ oe.cls = .ref C ∧ oe.dict = some d ∧ oe.data = .fields vs ∧ vs[1]? = some .none
  dbig : h.objs.size ≤ d
  dne : d ≠ e
  ns : h'.Ns1 d (fun y => if y = "value" then some v else none)
section
variable {prog : Program} {w : World} {A : Around} {E : Value → Shared → Prop} {R : Result → Shared → Prop} {s : Shared} {K : Frag} {C fI : Addr}
theorem own_init (T : OwnTxt K C fI) {x t0 : Addr} {v : Value} (X : K.In s.heap) (hlim : s.heap.NoLimit) (hx : s.heap.get? x = some (excO C t0)) (hnx : K.lookup x = none) (hroom : A.depth < recursionLimit)
    (hq : ∀ h' tk dx, InitEnd s.heap h' x C dx t0 v → R (.ok (.ret .none)) { s with heap := h', toks := tk }) :
    codeAny (model prog w) A (.call (.ref fI) ⟨[.ref x, v], []⟩) R s := by
  obtain ⟨qn, oc, od, doc, pm, an, cdv, ct, osl, p1, p2, q1, q2, q3, q4, ho, hcd⟩ := T.fn
  obtain ⟨nm, q, N, bs, bm, sn, sub, ab, col, dd, k0, k1, k2, k3, k5, hC, hbm⟩ := T.cls
  have hcl : clsIn K C = some { name := nm, bases := bs, mro := .ref C :: bm, ns := N, qualname := q, hasDict := true, slotNames := sn, subclasses := sub, abstract := ab, collection := col, hasDel := false } := by unfold clsIn; rw [hC] <;> rfl
  refine Att.call_fn (binds := [("self", .ref x), ("value", v)]) X hlim ho hcd hroom (BindsTo.of_eq (by first | rfl | with_unfolding_all rfl)) (by first | rfl | decide | with_unfolding_all rfl) (fun s₁ IC => ?_) rfl rfl rfl
  obtain ⟨h₁, tk₁, rfl⟩ := IC.toInCall.same
  have k : ∀ b o, s.heap.get? b = some o → h₁.get? b = some o := IC.toInCall.keep
  have hn := IC.toInCall.ns
  have hxL : s.heap.objs.size ≠ x := Nat.ne_of_gt (Heap.lt_size hx)
  have X₁ : K.In h₁ := X.keeps k
  have hx₁ := k _ _ hx
  -- self.by = by
  show wpAny _ _ (execs _ _) _ _ _
  refine wpAny_execs_cons (plainObj_wpAny_Assign_Attribute ?_)
  refine ldC (v := v) hn (by first | rfl | with_unfolding_all rfl | kernel_rfl) (ldC (v := .ref x) hn (by first | rfl | with_unfolding_all rfl | kernel_rfl) ?_)
  refine set_plain X₁ (ox := excO C t0) (od := none) ⟨hx₁, rfl, rfl, trivial⟩ T.sa ?_
  refine exc_osa X₁ hx₁ hcl (show refsVE (.ref C :: bm) = true from hbm) rfl T.noN (fun h₃ tk₃ dx k₃ dn dne hx₃ hn₃ => ?_)
  show wpAny _ _ (execs _ _) _ _ _
  have z : s.heap.objs.size < h₁.objs.size := hn.lt
  exact wpAny_execs_nil (hq h₃ tk₃ dx ⟨fun b o hb e => k₃ b o hb (k b o e), hx₃, Nat.le_of_lt (Nat.lt_of_lt_of_le z dn), dne, hn₃⟩)
theorem own_made (T : OwnTxt K C fI) {v : Value} (X : K.In s.heap) (hlim : s.heap.NoLimit) (hroom : A.depth + 1 < recursionLimit)
    (hq : ∀ h' tk e d, OwnMade s.heap h' e C d v → R (.ok (.ret (.ref e))) { s with heap := h', toks := tk }) :
    codeAny (model prog w) A (.call (.ref C) ⟨[v], []⟩) R s := by
  obtain ⟨nm, q, N, bs, bm, sn, sub, ab, col, dd, k0, k1, k2, k3, k5, hC, hbm⟩ := T.cls
  obtain ⟨hp, g, dr, tk, os⟩ := s
  have k : ∀ b o, hp.get? b = some o → ((hp.push (kdv_tup [v])).push (excO C hp.objs.size)).get? b = some o := fun b o e => Heap.get?_push_of_some _ (Heap.get?_push_of_some _ e)
  have hget : ((hp.push (kdv_tup [v])).push (excO C hp.objs.size)).get? (hp.objs.size + 1) = some (excO C hp.objs.size) := by heap_get
  have hnx : K.lookup (hp.objs.size + 1) = none := by
    cases e : K.lookup (hp.objs.size + 1) with
    | none => rfl
    | some o =>
      have z : hp.get? (hp.objs.size + 1) = some o := X _ _ e
      exact absurd (Nat.lt_of_succ_lt (Heap.lt_size z)) (Nat.lt_irrefl _)
  refine call_own F.excBase_ValueError (fun X => refsVE_contains X bm hbm) (X _ _ hC) (looks_findIn X T.iC) (fun self => bind_fn X self T.tC) (one_size v) ?_
  refine own_init (s := ⟨(hp.push (kdv_tup [v])).push (excO C hp.objs.size), g, dr, tk, os⟩) T (X.keeps k) (hlim.keeps k) hget hnx ?_ fun h' tk' dx ⟨k', hx, dn, dne, hns⟩ => ?_
  · show A.depth + 1 < recursionLimit
    exact hroom
  · have old : ∀ b o, hp.get? b = some o → h'.get? b = some o := fun b o e => k' b o (Nat.ne_of_lt (Nat.lt_succ_of_lt (Heap.lt_size e))) (k b o e)
    have z : hp.objs.size + 1 + 1 ≤ dx := by
      first
        | (simpa only [Heap.size_push] using dn)
        | exact dn
        | (have q := dn; rw [Heap.size_push, Heap.size_push] at q; exact q)
    exact ⟨rfl, hq h' tk' (hp.objs.size + 1) dx ⟨old, Nat.le_succ _, ⟨_, _, hx, rfl, rfl, rfl, rfl⟩, Nat.le_trans (Nat.le_trans (Nat.le_succ _) (Nat.le_succ _)) z, dne, hns⟩⟩
end
end OwnX
end PySem
namespace L2
open PySem PySem.Spec PyProof.Rows
theorem relO_own {v : V} {v' : Value} (r : RelV v v') (f : Str) : RelO (List.lookup f [(("value" : Str), v)]) (if f = "value" then some v' else none) := by
  by_cases hw : f = "value"
  · subst hw
    rw [if_pos rfl]
    have q : List.lookup ("value" : Str) [(("value" : Str), v)] = some v := by simp [List.lookup]
    rw [q]
    exact r
  · rw [if_neg hw]
    have qw : (f == ("value" : Str)) = false := by simpa using hw
    have q2 : List.lookup f [(("value" : Str), v)] = none := by simp [List.lookup, qw]
    rw [q2]
    trivial
section
variable {X : Cx} {C fI : Addr}
/-- x(e) -/
def tMkOwn (C : Addr) (ta : TA) : St → Hp → XK → Prop := fun σ H Q => ta σ H fun vs H1 => ∃ v, vs = [v] ∧ ∀ d, H1 d = none → Q (.ref C) (some d) (upd H1 d (.xd [(("value" : Str), v)]))
theorem pmk_ownv {x : Str} {a : Expr} {ta : TA} {p pos : Pos} {k : Nat} (T : PySem.OwnX.OwnTxt X.K C fI) (gC : X.mg x = some (.ref C)) (hdb : (x == ("__debug__" : Str)) = false) (hr : Room k X.A) (ha : PA X [a] ta) (hg : Gl X x)
    (he : starEach (a :: []) X.env = (false, eval a X.env) :: starEach [] X.env := by rfl) (hpl : (backTo pos (starEach [] X.env)).any (·.1) = false := by rfl) :
    PMk X (.Call (.Name x p) [a] [] pos) (tMkOwn C ta) := by
  intro pins s σ H Q I h
  refine wpAny_Call_Name_kw (ld_glob I hg gC ?_ hdb)
  refine PySem.W.callWith_K (h₀ := X.base) I.ok.mod.kin T.kC (thn (ha.run pos pins s σ H _ I h) fun us s1 hh => ?_) he hpl
  obtain ⟨vs, H1, I1, r1, v, ev, q1⟩ := hh
  subst ev
  refine ⟨I1.kIn, ?_⟩
  cases r1 with
  | cons rv rn =>
    rename_i v' us'
    cases rn
    show wpAny _ _ (call (.ref C) [v']) _ _ _
    have hlim := I1.nolimit
    obtain ⟨hp, g, dr, tk, os⟩ := s1
    refine wpAny_call (PySem.OwnX.own_made T I1.kIn hlim (by have := hr.dp; omega) fun h' tk' e d M => ?_)
    show MkP X pins σ Q (.ref e) ⟨h', g, dr, tk', os⟩
    obtain ⟨oe, fv, hoe, hc, hd, hdat, h1⟩ := M.obj
    have hns := M.ns
    obtain ⟨G', g1, g2⟩ := restrict h' fun b => decide (b ≠ e)
    have gk : ∀ b, b ≠ e → G'.get? b = h'.get? b := fun b hb => g1 b (decide_eq_true hb)
    have ge : G'.get? e = none := g2 e (by simp)
    have old : ∀ b o, hp.get? b = some o → G'.get? b = some o := fun b o q => (gk b (Nat.ne_of_lt (Nat.lt_of_lt_of_le (Heap.lt_size q) M.new))).trans (M.keep b o q)
    have ob : ObjOk X.prog X.w (upd H1 d (.xd [(("value" : Str), v)])) G' d (.xd [(("value" : Str), v)]) :=
      ⟨_, hns.at (fun o q => (gk d M.dne).trans q), fun f => relO_own rv f⟩
    have J : Inv X pins σ (upd H1 d (.xd [(("value" : Str), v)])) ⟨G', g, dr, tk', os⟩ := I1.laid (t' := tk') old M.dbig ob
    refine ⟨e, oe, fv, ⟨G', g, dr, tk', os⟩, _, .ref C, some d, rfl, J, fun b o q => ?_, ge, hoe, ⟨hc, hd⟩, hdat, h1, ?_, rfl, I1.bare, raises_own T.exC T.tyC, q1 d (I1.hok.fresh M.dbig)⟩
    · by_cases hb : b = e
      · have q' : G'.get? b = some o := q
        rw [hb, ge] at q'; cases q'
      · exact (gk b hb).symm.trans q
    · rw [upd_ne (Ne.symm M.dne)]
      exact I1.hok.fresh M.new
end
end L2

namespace PD
open PySem PySem.Spec PyProof.Rows L2
section
variable {Γ : Wd} {X : Cx} {W : WX} {pos pos2 p np pos' : Pos}
theorem ds_raise {x : Str} {a : Expr} {c k : Nat} {fI : Addr} {f : En → Hh → R D} (hc : X.calm = true) (tk : Takes X W) (T : PySem.OwnX.OwnTxt X.K (Γ.ca c) fI) (gC : X.mg x = some (.ref (Γ.ca c))) (hdb : (x == ("__debug__" : Str)) = false) (hr : Room k X.A) (hg : Gl X x) (hs : star a = false) (ha : DE Γ X W a f) :
    DS Γ X W (.Raise (some (.Call (.Name x p) [a] [] pos)) none pos2) (fun en h => bndS (f en h) en fun d h1 => .exc c d en h1) := by
  obtain ⟨u, pu, l⟩ := (da_cons hs ha da_nil).ex
  refine ⟨_, ps_raise hc tk (pmk_ownv T gC hdb hr pu hg (starEach_cons hs) rfl), fun α h H en σ Dn hr er pp => l _ _ _ _ _ _ hr er ?_⟩
  cases q : f en h with
  | ok d h1 =>
    rw [q] at pp
    intro α' H' vs st hr' rs
    cases rs with
    | cons rv rn =>
      cases rn
      exact ⟨_, rfl, fun dd hdd => pp α' _ σ _ _ (st.trans (Step.other hdd)).stp (hr'.other hdd) ((er.mono st).mono (Step.other hdd)) ⟨dd, _, rfl, rfl, (hr'.fresh hdd).1, upd_same, rv.mono (Step.other hdd)⟩⟩
  | exc c' y h1 =>
    rw [q] at pp
    exact fun α' H' cls d st hr' xr => pp _ _ σ _ _ st.stp hr' (er.mono st) xr
  | bad => rw [q] at pp; exact pp
/-- the canonical reading of statements -/
def tSD (Γ : Wd) (W : WX) (f : En → Hh → RS) : TS := fun Dn σ H => ∃ α h en, HR Γ.K α h H ∧ ER Γ α H en σ ∧ PstS Γ α H (f en h) Dn W
theorem DSs.pss {sts : List Stmt} {f : En → Hh → RS} (h : DSs Γ X W sts f) : PSs X sts (tSD Γ W f) := by
  obtain ⟨t, pt, k⟩ := h.ex
  exact ⟨fun pins s σ H Q I ⟨α, hh, en, hr, er, pp⟩ => pt.run pins s σ H Q I (k _ _ _ _ _ _ hr er pp)⟩
/-- with the exception that the suite holds -/
def Wd.at (Γ : Wd) (a : Addr) (c : Nat) (dd : Addr) (i : Nat) : Wd := ⟨Γ.K, Γ.ca, some (a, c, dd, i)⟩
theorem ER.hold {α : Al} {H : Hp} {en : En} {σ : L2.St} (h0 : Γ.xs = none) (er : ER Γ α H en σ) {a dd : Addr} {c i : Nat} {x : D} {v : V} (e : H dd = some (.xd [(("value" : Str), v)])) (hc : dd ∉ α.c) (r : Rep Γ.K α H x v) :
    ER (Γ.at a c dd i) α H (en.set i (some (.err c x))) (σ.set i (some (.ref a))) := by
  have er' : ER (Γ.at a c dd i) α H en σ := ⟨er.len, fun j d h => by
    obtain ⟨w, e1, z⟩ := er.get j d h
    refine ⟨w, e1, ?_⟩
    cases z with
    | val z => exact .val z
    | own e ho hc hb rs => exact .own e ho hc hb rs
    | err hx _ _ _ => exact (by rw [h0] at hx; cases hx), er.uq⟩
  exact er'.setG i (.err rfl e hc r) fun _ _ _ _ z => by cases z
theorem ER.drop {α : Al} {H : Hp} {en : En} {σ : L2.St} {a dd : Addr} {c i : Nat} (er : ER (Γ.at a c dd i) α H en σ) : ER Γ α H (en.set i none) (σ.set i none) := by
  have u := er.unset i
  refine ⟨u.len, fun j d h => ?_, u.uq⟩
  obtain ⟨w, e1, z⟩ := u.get j d h
  refine ⟨w, e1, ?_⟩
  cases z with
  | val z => exact .val z
  | own e ho hc hb rs => exact .own e ho hc hb rs
  | err hx _ _ _ =>
    have e : i = j := by
      have q : (some (a, c, dd, i) : Option (Addr × Nat × Addr × Nat)) = _ := hx
      cases q
      rfl
    subst e
    rcases set_get h with ⟨_, z, _⟩ | ⟨z, _⟩
    · cases z
    · exact (z rfl).elim
theorem ds_try {x n : Str} {cH i : Nat} {body suite : List Stmt} {b₀ : Stmt} {fb fh : En → Hh → RS} {cs ds : List Nat} (hs : X.stack = X.env :: X.outer) (hf : X.env.frame = some X.env.locals) (hN : X.N.Nodup) (hi : X.N[i]? = some n) (hln : X.env.kindOf n = some .local)
    (gC : X.mg x = some (.ref (Γ.ca cH))) (hg : Gl X x) (hdb : (x == ("__debug__" : Str)) = false) (tk : Takes X W) (h0 : Γ.xs = none)
    (hin : ∀ c, c ∈ cs → PySem.W.exmOne X.K (.ref (Γ.ca c)) (.ref (Γ.ca cH)) = some true) (hout : ∀ c, c ∈ ds → PySem.W.exmOne X.K (.ref (Γ.ca c)) (.ref (Γ.ca cH)) = some false)
    (hb : ∀ (W : WX) (pn : List (Addr × Obj)) (xe : Value → Shared → Prop), Takes (X.tr pn xe) W → PassesOwn (model X.prog X.w) X.A X.env xe → DSs Γ (X.tr pn xe) W body fb)
    (hsu : ∀ (a : Addr) (oe : Obj) (c : Nat) (dd : Addr) (pn : List (Addr × Obj)), c ∈ cs → Zc (.ref (Γ.ca c)) (some dd) oe → (∃ vs, oe.data = .fields vs) → DSs (Γ.at a c dd i) (X.suite a ((a, oe) :: pn)) (fun _ _ _ _ => False) (b₀ :: suite) fh) :
    DS Γ X W (.Try body [.ExceptHandler (some (.Name x np)) (some n) (b₀ :: suite) pos'] [] [] pos) (fun en h => catchS (fb en h) cs ds i fh) := by
  refine ⟨_, ps_try_as (tb := fun W => tSD Γ W fb) (ts := fun a cls d Dn σ H => ∃ c dd, c ∈ cs ∧ cls = .ref (Γ.ca c) ∧ d = some dd ∧ tSD (Γ.at a c dd i) (fun _ _ _ _ => False) fh Dn σ H) hs hf hN hi hln ⟨hg, hdb, .inl gC⟩ tk (fun W pn xe t1 t2 => (hb W pn xe t1 t2).pss)
    (fun a oe cls d pn hz hd => ⟨fun pins s σ H Dn I ⟨c, dd, m, e1, e2, z⟩ => (hsu a oe c dd pn m (by rw [← e1, ← e2]; exact hz) hd).pss.run pins s σ H Dn I z⟩), fun α h H en σ Dn hr er pp => ⟨α, h, en, hr, er, ?_⟩⟩
  cases q : fb en h with
  | nx en1 h1 => rw [q] at pp; exact pp
  | rt d h1 => rw [q] at pp; exact pp
  | ro d h1 => rw [q] at pp; exact pp
  | bk en1 h1 => rw [q] at pp; exact pp
  | ct en1 h1 => rw [q] at pp; exact pp
  | bad => rw [q] at pp; exact pp
  | exc c y en1 h1 =>
    rw [q] at pp
    intro α1 H1 σ1 cls d st hr1 er1 xr
    have p1 := PstS.step st pp
    obtain ⟨da, v, e1, e2, e3, e4, e5⟩ := xr
    subst e1 e2
    by_cases c1 : cs.contains c = true
    · have m : c ∈ cs := by simpa using c1
      refine ⟨true, hin c m, fun _ a na => ⟨c, da, m, rfl, rfl, α1, h1, _, hr1, er1.hold h0 e4 e3 e5, ?_⟩, fun z => by cases z⟩
      simp only [catchS, c1, if_true] at p1
      cases q2 : fh (en1.set i (some (.err c y))) h1 with
      | nx en2 h2 => rw [q2] at p1; exact fun α2 H2 σ2 st2 hr2 er2 => p1 _ _ _ st2 hr2 er2.drop
      | bk en2 h2 => rw [q2] at p1; exact fun α2 H2 σ2 st2 hr2 er2 => p1 _ _ _ st2 hr2 er2.drop
      | ct en2 h2 => rw [q2] at p1; exact fun α2 H2 σ2 st2 hr2 er2 => p1 _ _ _ st2 hr2 er2.drop
      | rt d2 h2 => rw [q2] at p1; exact p1
      | ro d2 h2 => rw [q2] at p1; exact p1
      | exc c2 y2 en2 h2 => rw [q2] at p1; exact False.elim p1
      | bad => rw [q2] at p1; exact p1
    · have c1' : cs.contains c = false := by simpa using c1
      simp only [catchS, c1', Bool.false_eq_true, if_false] at p1
      by_cases c2 : ds.contains c = true
      · have m : c ∈ ds := by simpa using c2
        rw [if_pos c2] at p1
        exact ⟨false, hout c m, (fun z => by cases z), fun _ => p1 _ _ _ _ _ Stp.refl hr1 er1 ⟨da, v, rfl, rfl, e3, e4, e5⟩⟩
      · rw [if_neg c2] at p1
        exact False.elim p1
/-! ### in the suite -/
theorem getX_some {en : En} {i : Nat} {q : Nat × D} (h : getX en i = some q) : en[i]? = some (some (.err q.1 q.2)) := by
  unfold getX at h
  split at h
  · cases h; assumption
  · cases h
/-- e.value -/
theorem de_errV {i : Nat} {n : Str} {a dd : Addr} {oe : Obj} {c : Nat} {pn : List (Addr × Obj)} (T : XfC X.K (Γ.ca c)) (hno : PySem.W.findIn X.K (.ref (Γ.ca c)) "value" = some none) (hz : Zc (.ref (Γ.ca c)) (some dd) oe) (hd : ∃ vs, oe.data = .fields vs)
    (hN : X.N[i]? = some n) (hv : Vis X.env.scope n) (hdb : (n == ("__debug__" : Str)) = false) (hcd : (n == ("__classdict__" : Str)) = false) :
    DE (Γ.at a c dd i) (X.suite a ((a, oe) :: pn)) W (.Attribute (.Name n np) "value" pos) (fun en h => optR (getX en i) fun q => .ok q.2 h) := by
  refine ⟨_, pe_xf T hno hz hd (pe_var (X := X.suite a ((a, oe) :: pn)) hN hv hdb hcd) rfl, fun α h H en σ Q hr er pp => ?_⟩
  obtain ⟨q, e, p'⟩ := Pst.opt pp
  obtain ⟨w, e1, z⟩ := er.get i _ (getX_some e)
  cases z with
  | val z => have := z.plain; cases this
  | err hx e4 e3 r =>
    have q : (some (a, c, dd, i) : Option (Addr × Nat × Addr × Nat)) = _ := hx
    cases q
    exact ⟨_, e1, rfl, rfl, dd, _, _, rfl, e4, by simp [List.lookup], p' _ _ _ Step.refl hr r⟩
/-- what the class of an own error says, so that isinstance can be asked of it -/
structure ExC (K : PySem.W.Frag) (C : Addr) : Prop where
  hcl : (PySem.W.clsIn K C).isSome = true
  hga : PySem.W.findIn K (.ref C) "__getattribute__" = some (some (.builtin "BaseException.__getattribute__"))
  hgt : PySem.W.findIn K (.ref C) "__getattr__" = some none
  hsub : PySem.W.subIn K (.ref C) (.type "BaseException") = some true
  ha : PySem.W.findIn K (.ref C) "__class__" = some (some (.builtin "object.__class__"))
  hn : PySem.W.specialIn K (.builtin "object.__class__") "__get__" = some (some (.builtin "getset_descriptor.__get__"))
  htk : PySem.W.takesIn K (.builtin "object.__class__") = some true
  hm : PySem.W.mroIn K C (.type "object") = some true
def rIsX (K : PySem.W.Frag) (C a dd : Addr) : List V → Hp → VK → Prop := fun xs H Q => ∃ (c : V) (cv : Value) (b : Bool) (fs : List (Str × V)), xs = [.ref a, c] ∧ (∀ u, RelV c u → u = cv) ∧ PySem.W.kitOne K (.ref C) cv = some b ∧ H dd = some (.xd fs) ∧ Q (.bl b) H
theorem call_isX {a dd C : Addr} {oe : Obj} {pn : List (Addr × Obj)} (T : ExC X.K C) (hz : Zc (.ref C) (some dd) oe) (hd : ∃ vs, oe.data = .fields vs) : CallR (X.suite a ((a, oe) :: pn)) (.builtin "isinstance") (rIsX X.K C a dd) := by
  intro pins s σ H xs us Q I r h
  obtain ⟨c, cv, b, fs, rfl, hcv, e, hx, q⟩ := h
  cases r with
  | cons rx rr =>
    cases rr with
    | cons rt rr =>
      cases rr
      cases rx
      have ec := hcv _ rt
      subst ec
      obtain ⟨hget, _⟩ := I.pin (a, oe) (List.mem_append.mpr (.inl List.mem_cons_self))
      obtain ⟨vs, hv⟩ := hd
      have ho : ObjOk X.prog X.w H s.heap dd (.xd fs) := I.hok dd _ hx
      obtain ⟨mA, hns, _⟩ := ho
      obtain ⟨od, ho, _⟩ := lookIn_ns hns
      have J : PySem.W.InstAt s.heap a oe C (some od) := ⟨hget, hz.1, by unfold PySem.W.notCls; rw [hv] <;> rfl, by rw [hz.2]; exact ho⟩
      exact PySem.W.kia_one (PySem.W.kitx_exc T.hcl T.hga T.hgt T.hsub T.ha T.hn T.htk T.hm) I.kIn J e (fun z => nomatch z) fun tk => ⟨.bl b, H, I.kept (t' := tk) fun _ _ z => z, rfl, q⟩
theorem de_errIs {i : Nat} {n x : Str} {a dd : Addr} {oe : Obj} {c cH : Nat} {cs ds : List Nat} {p2 : Pos} {pn : List (Addr × Obj)} (T : ExC X.K (Γ.ca c)) (hz : Zc (.ref (Γ.ca c)) (some dd) oe) (hd : ∃ vs, oe.data = .fields vs)
    (hN : X.N[i]? = some n) (hv : Vis X.env.scope n) (hdb : (n == ("__debug__" : Str)) = false) (hcd : (n == ("__classdict__" : Str)) = false)
    (hg : Gl X "isinstance") (hm : X.mg "isinstance" = none) (hg2 : Gl X x) (gC : X.mg x = some (.ref (Γ.ca cH))) (hdb2 : (x == ("__debug__" : Str)) = false)
    (hin : c ∈ cs → PySem.W.kitOne X.K (.ref (Γ.ca c)) (.ref (Γ.ca cH)) = some true) (hout : c ∈ ds → PySem.W.kitOne X.K (.ref (Γ.ca c)) (.ref (Γ.ca cH)) = some false) :
    DE (Γ.at a c dd i) (X.suite a ((a, oe) :: pn)) W (.Call (.Name "isinstance" p) [.Name n np, .Name x p2] [] pos) (fun en h => optR (getX en i) fun q => if cs.contains q.1 = true then .ok (.bl true) h else if ds.contains q.1 = true then .ok (.bl false) h else .bad) := by
  refine ⟨_, pe_callB (X := X.suite a ((a, oe) :: pn)) (call_isX T hz hd) hg hm (by decide +kernel) (pa_cons (pe_var (X := X.suite a ((a, oe) :: pn)) hN hv hdb hcd) (pa_cons (pe_glob (X := X.suite a ((a, oe) :: pn)) (v := .ref (Γ.ca cH)) hg2 gC rfl hdb2) pa_nil rfl) rfl) (by decide) (by decide) rfl rfl, fun α h H en σ Q hr er pp => ?_⟩
  obtain ⟨q, e, p'⟩ := Pst.opt pp
  obtain ⟨w, e1, z⟩ := er.get i _ (getX_some e)
  cases z with
  | val z => have := z.plain; cases this
  | err hx e4 e3 r =>
    have hx' : (some (a, c, dd, i) : Option (Addr × Nat × Addr × Nat)) = _ := hx
    simp only [Option.some.injEq, Prod.mk.injEq] at hx'
    obtain ⟨rfl, hc, rfl, _⟩ := hx'
    rw [← hc] at p'
    have key : ∃ b, PySem.W.kitOne X.K (.ref (Γ.ca c)) (.ref (Γ.ca cH)) = some b ∧ Q (.bl b) H := by
      by_cases c1 : cs.contains c = true
      · rw [if_pos c1] at p'
        exact ⟨true, hin (by simpa using c1), p' _ _ _ Step.refl hr (.bl _)⟩
      · rw [if_neg c1] at p'
        by_cases c2 : ds.contains c = true
        · rw [if_pos c2] at p'
          exact ⟨false, hout (by simpa using c2), p' _ _ _ Step.refl hr (.bl _)⟩
        · rw [if_neg c2] at p'
          exact False.elim p'
    obtain ⟨b, kb, qb⟩ := key
    exact ⟨_, e1, _, _, b, _, rfl, (fun u r => r), kb, e4, qb⟩
/-- repr, where an exception is held too -/
theorem de_repr {e : Expr} {f : En → Hh → R D} (hK : X.K = Γ.K) (gd : X.A.guards = some []) (hu : X.A.units + 200 < cLine) (hg : Gl X "repr") (hm : X.mg "repr" = none) (hs : star e = false) (he : DB Γ X W e f) :
    DE Γ X W (.Call (.Name "repr" p) [e] [] pos) (fun en h => bnd (f en h) (biOp .repr)) := de_call1B (call_repr gd hu) (cs_repr hK) hg hm (by decide +kernel) (by decide) (by decide) hs he
end
end PD

set_option Elab.async false
set_option linter.all false
set_option maxRecDepth 100000
set_option maxHeartbeats 1000000
/-! try with several named clauses. -/
namespace L2
open PySem PySem.Spec PyProof.Rows
abbrev ClT := Addr → Value → Option Addr → TS
/-- what the clauses want, one after the other; each has a class, a slot and a suite -/
def wHs (K : PySem.W.Frag) (Wo : WX) (Dn : Ends) : List (Value × Nat × ClT) → WX
  | [] => Wo
  | q :: r => fun cls d τ G => ∃ y, PySem.W.exmOne K cls q.1 = some y ∧ (y = true → ∀ a, G a = none → q.2.2 a cls d { nx := fun τ' G' => Dn.nx (τ'.set q.2.1 none) G', rt := Dn.rt, bk := fun τ' G' => Dn.bk (τ'.set q.2.1 none) G', ct := fun τ' G' => Dn.ct (τ'.set q.2.1 none) G' } (τ.set q.2.1 (some (.ref a))) G) ∧ (y = false → wHs K Wo Dn r cls d τ G)
inductive HdN (X : Cx) : List ExceptHandler → List (Value × Nat × ClT) → Prop
  | nil : HdN X [] []
  | cons {x n : Str} {c : Value} {i : Nat} {ts : ClT} {s0 : Stmt} {su : List Stmt} {np hp : Pos} {hds : List ExceptHandler} {l : List (Value × Nat × ClT)} (hi : X.N[i]? = some n) (hln : X.env.kindOf n = some .local) (hc : Names X x c)
      (hsu : ∀ (a : Addr) (oe : Obj) (cls : Value) (d : Option Addr) (pn : List (Addr × Obj)), Zc cls d oe → (∃ vs, oe.data = .fields vs) → PSs (X.suite a ((a, oe) :: pn)) (s0 :: su) (ts a cls d)) (r : HdN X hds l) :
      HdN X (.ExceptHandler (some (.Name x np)) (some n) (s0 :: su) hp :: hds) ((c, i, ts) :: l)
section
variable {X : Cx} {bd : List Stmt} {hd0 : ExceptHandler} {hds : List ExceptHandler} {l : List (Value × Nat × ClT)} {tp : Pos} {tb : WX → TS} {Wo : WX}
theorem ps_tryN (sk : X.stack = X.env :: X.outer) (fr : X.env.frame = some X.env.locals) (nd : X.N.Nodup) (tk : Takes X Wo)
    (hb : ∀ (W : WX) (pn : List (Addr × Obj)) (xe : Value → Shared → Prop), Takes (X.tr pn xe) W → PassesOwn (model X.prog X.w) X.A X.env xe → PSs (X.tr pn xe) bd (tb W))
    (hh : HdN X (hd0 :: hds) l) : PS X (.Try bd (hd0 :: hds) [] [] tp) (fun Dn τ G => tb (wHs X.K Wo Dn l) Dn τ G) := by
  refine ⟨fun pp s τ G Dn I z => ?_⟩
  have ok := I.ok
  have frs' : X.A.frames = some (X.env :: X.outer) := by rw [ok.frames, sk]
  refine wpAny_Try_except ?_
  refine wpAny_mono ((hb (wHs X.K Wo Dn l) (X.pn ++ pp) (fun e s1 => wpAny (model X.prog X.w) X.A (noteFrame e X.env) (fun _ s2 => wpAny (model X.prog X.w) X.A (setFlight e none) (fun _ s3 => wpAny (model X.prog X.w) X.A (handleBy e X.env (hd0 :: hds)) (SP X pp Dn) X.xe s3) X.xe s2) X.xe s1) (fun u s' xx => ?_) PassesOwn.looking).run [] s τ G Dn (I.toTry _) z) (fun f s1 got => ?_) (fun e s1 he => he)
  · obtain ⟨a, B, sI, pp', τ1, G1, cls, d, rfl, J', nb, up, sky, na, os, ag, wi⟩ := xx
    have J : Inv X pp τ1 G1 sI := J'.ofTry ok
    have sky' : Sky B (X.env :: X.outer) a (Zc cls d) X.env.locals s'.heap := by rw [← sk]; exact sky
    show wpAny (model X.prog X.w) X.A (noteFrame (.ref a) X.env) _ _ _
    refine Sky.land Zc.steady frs' fr sky' fun h3 fl3 up3 => ?_
    have J3 : Inv X pp τ1 G1 { s' with heap := h3 } := J.landed nb fl3.1 (up.trans up3) os ag
    obtain ⟨oe3, vs3, he3, hz3, hd3⟩ := fl3.there
    have nfr : a ∉ frs (X.env :: X.outer) := fun hm => by
      obtain ⟨_, o1, e1, hnf⟩ := fl3.2.2.1.mem hm
      rw [he3] at e1; cases e1
      exact hnf _ hd3
    have nL : a ≠ X.env.locals := fun q => nfr (List.mem_filterMap.mpr ⟨X.env, List.mem_cons_self, by rw [fr, q]⟩)
    have nF : a ∉ X.fs := fun hm => by
      obtain ⟨e1, he1, q⟩ := List.mem_filterMap.mp hm
      exact nfr (List.mem_filterMap.mpr ⟨e1, List.mem_cons_of_mem _ he1, q⟩)
    have S3 := J3.suite he3 hd3 na nL nF
    have go : ∀ {hs2 : List ExceptHandler} {l2 : List (Value × Nat × ClT)}, HdN X hs2 l2 → wHs X.K Wo Dn l2 cls d τ1 G1 → wpAny (model X.prog X.w) X.A (handleBy (.ref a) X.env hs2) (SP X pp Dn) X.xe { s' with heap := h3 } := by
      intro hs2 l2 hk
      induction hk with
      | nil =>
        intro wi
        refine wpAny_handleBy_nil ?_
        obtain ⟨k1, k2, k3, oe, vs, T, oT, ts', he, hz, hdd, h1, hr⟩ := id fl3
        unfold PySem.passOn
        refine wpAny_bind (wpAny_field he hdd h1 ?_)
        rw [if_neg (show ¬ ((Value.ref T == Value.none) = true) from by simp)]
        have last : wpAny (model X.prog X.w) X.A (setFlight (.ref a) X.env.frame) (fun _ s4 => wpAny (model X.prog X.w) X.A (throw (.ref a) : Sem Flow) (SP X pp Dn) X.xe s4) X.xe { s' with heap := h3 } := by
          rw [fr]
          refine HandSPX.setFlight_upZ fl3 fun h4 hh4 up4 => wpAny_throw (tk _ _ ?_)
          exact ⟨a, B, sI, pp, τ1, G1, cls, d, rfl, J, nb, (up.trans up3).trans up4, .inr (.inr (by rw [sk]; exact hh4)), na, os, ag, wi⟩
        first
          | exact wpAny_bind (wpAny_pure (wpAny_bind last))
          | exact wpAny_bind last
      | @cons x n c i ts s0 su np hp hds2 l3 hi hln hc hsu r ih =>
        intro wi
        obtain ⟨y, hy, yes, no⟩ := wi
        refine wpAny_handleBy_cons (codeAny_handlers_test ?_) (by intro q; cases q)
        have look : PySem.W.Looks (model X.prog X.w) h3 (typeOf (.ref a)) cls := fun A Q E s k q => wpAny_typeOf_ref (k _ _ he3) (by rw [hz3.1]; exact q)
        have lm := PySem.W.exm_one (M := model X.prog X.w) (J3.kIn) look hy
        have asks : ∀ {Q : Value → Shared → Prop} {E : Value → Shared → Prop}, Q c { s' with heap := h3 } → wpAny (model X.prog X.w) (X.A.mark (some (.ref a))) (eval (.Name x np) X.env) Q E { s' with heap := h3 } := fun {Q E} q => by
          obtain ⟨g1, g2, g3 | ⟨g3, g4, g5⟩⟩ := hc
          · exact ld_glob (X := X.suite a ((a, oe3) :: (X.pn ++ pp))) S3 g1 g3 q g2
          · exact ld_blt (X := X.suite a ((a, oe3) :: (X.pn ++ pp))) S3 g1 g3 g4 q g5 g2
        refine asks (lm.here ?_)
        cases y with
        | true =>
          refine codeAny_handlers_suite_as ?_
          refine HandSPX.lands_againZ fl3 fun h4 fl4 up4 => ?_
          have J4 : Inv X pp τ1 G1 { s' with heap := h4 } := J.landed nb fl4.1 ((up.trans up3).trans up4) os ag
          obtain ⟨oe4, vs4, he4, hz4, hd4⟩ := fl4.there
          have S4 := J4.suite he4 hd4 na nL nF
          refine store_ok (X := X.suite a ((a, oe4) :: (X.pn ++ pp))) (v := .ref a) S4 nd hi (.inl hln) rfl (fun s5 S5 => ?_) (.inr hln)
          refine wpAny_mono ((hsu a oe4 cls d (X.pn ++ pp) hz4 ⟨_, hd4⟩).run [] s5 _ G1 _ S5 (yes rfl a na)) (fun f s6 got => ?_) (fun _ _ q => False.elim q)
          have fin : ∀ {τ6 : St} {G6 : Hp} {Q : Shared → Prop}, Inv (X.suite a ((a, oe4) :: (X.pn ++ pp))) [] τ6 G6 s6 → (∀ s7, Inv X pp (τ6.set i none) G6 s7 → Q s7) →
              wpAny (model X.prog X.w) X.A (do bindName X.env n .none; unbindBehindTheSuite X.env n hp) (fun _ s7 => Q s7) X.xe s6 := fun {τ6 G6 Q} S6 hq => gone_ok (S6.unsuite ok) nd hi hln hq
          match f, got with
          | .next, ⟨τ6, G6, S6, q6⟩ => exact fin S6 fun s7 J7 => ⟨_, _, J7, q6⟩
          | .brk, ⟨τ6, G6, S6, q6⟩ => exact fin S6 fun s7 J7 => ⟨_, _, J7, q6⟩
          | .cont, ⟨τ6, G6, S6, q6⟩ => exact fin S6 fun s7 J7 => ⟨_, _, J7, q6⟩
          | .ret u, ⟨v6, τ6, G6, S6, r6, q6⟩ => exact fin S6 fun s7 J7 => ⟨_, _, _, J7, r6, q6⟩
        | false =>
          show wpAny _ X.A (handleBy (.ref a) X.env hds2) _ _ _
          exact ih (no rfl)
    exact go hh wi
  · match f, got with
    | .next, ⟨τ1, G1, J1, q⟩ => exact wpAny_execs_nil ⟨τ1, G1, J1.ofTry ok, q⟩
    | .brk, ⟨τ1, G1, J1, q⟩ => exact ⟨τ1, G1, J1.ofTry ok, q⟩
    | .cont, ⟨τ1, G1, J1, q⟩ => exact ⟨τ1, G1, J1.ofTry ok, q⟩
    | .ret u, ⟨v, τ1, G1, J1, r, q⟩ => exact ⟨v, τ1, G1, J1.ofTry ok, r, q⟩
end
end L2
namespace PD
open PySem PySem.Spec PyProof.Rows L2
/-- a clause: what it catches, what it does not, its slot, its suite -/
abbrev Cl := List Nat × List Nat × Nat × (En → Hh → RS)
def catchN (r : RS) : List Cl → RS
  | [] => r
  | q :: l => catchN (catchS r q.1 q.2.1 q.2.2.1 q.2.2.2) l
def isX : RS → Bool
  | .exc _ _ _ _ => true
  | _ => false
theorem catchN_no : ∀ (l : List Cl) {r : RS}, isX r = false → catchN r l = r
  | [], _, _ => rfl
  | q :: l, r, h => by
    have e : catchS r q.1 q.2.1 q.2.2.1 q.2.2.2 = r := by cases r <;> first | rfl | cases h
    show catchN (catchS r q.1 q.2.1 q.2.2.1 q.2.2.2) l = r
    rw [e]
    exact catchN_no l h
theorem unS_no {i : Nat} {r : RS} : isX (unS i r) = false := by cases r <;> rfl
section
variable {Γ : Wd} {X : Cx} {W : WX} {pos : Pos}
def tCl (Γ : Wd) (q : Cl) : ClT := fun a cls d Dn σ H => ∃ c dd, c ∈ q.1 ∧ cls = .ref (Γ.ca c) ∧ d = some dd ∧ tSD (Γ.at a c dd q.2.2.1) (fun _ _ _ _ => False) q.2.2.2 Dn σ H
/-- the clauses of a try -/
inductive ClOk (Γ : Wd) (X : Cx) : List ExceptHandler → List Cl → List (Value × Nat × ClT) → Prop
  | nil : ClOk Γ X [] [] []
  | cons {x n : Str} {cH i : Nat} {cs ds : List Nat} {fh : En → Hh → RS} {s0 : Stmt} {su : List Stmt} {np hp : Pos} {hds : List ExceptHandler} {l : List Cl} {w : List (Value × Nat × ClT)} (hi : X.N[i]? = some n) (hln : X.env.kindOf n = some .local) (gC : X.mg x = some (.ref (Γ.ca cH))) (hg : Gl X x) (hdb : (x == ("__debug__" : Str)) = false)
      (hin : ∀ c, c ∈ cs → PySem.W.exmOne X.K (.ref (Γ.ca c)) (.ref (Γ.ca cH)) = some true) (hout : ∀ c, c ∈ ds → PySem.W.exmOne X.K (.ref (Γ.ca c)) (.ref (Γ.ca cH)) = some false)
      (hsu : ∀ (a : Addr) (oe : Obj) (c : Nat) (dd : Addr) (pn : List (Addr × Obj)), c ∈ cs → Zc (.ref (Γ.ca c)) (some dd) oe → (∃ vs, oe.data = .fields vs) → DSs (Γ.at a c dd i) (X.suite a ((a, oe) :: pn)) (fun _ _ _ _ => False) (s0 :: su) fh) (r : ClOk Γ X hds l w) :
      ClOk Γ X (.ExceptHandler (some (.Name x np)) (some n) (s0 :: su) hp :: hds) ((cs, ds, i, fh) :: l) ((.ref (Γ.ca cH), i, tCl Γ (cs, ds, i, fh)) :: w)
theorem ClOk.hdn {hds : List ExceptHandler} {l : List Cl} {w : List (Value × Nat × ClT)} (h : ClOk Γ X hds l w) : HdN X hds w := by
  induction h with
  | nil => exact .nil
  | cons hi hln gC hg hdb hin hout hsu r ih => exact .cons hi hln ⟨hg, hdb, .inl gC⟩ (fun a oe cls d pn hz hd => ⟨fun pins s σ H Dn I ⟨c, dd, m, e1, e2, z⟩ => (hsu a oe c dd pn m (by rw [← e1, ← e2]; exact hz) hd).pss.run pins s σ H Dn I z⟩) ih
theorem ClOk.catch {hds : List ExceptHandler} {l : List Cl} {w : List (Value × Nat × ClT)} (h0 : Γ.xs = none) (h : ClOk Γ X hds l w) {α1 : Al} {H1 : Hp} {h1 : Hh} {en1 : En} {σ1 : L2.St} {c : Nat} {y : D} {cls : Value} {d : Option Addr} {Dn : Ends}
    (hr1 : HR Γ.K α1 h1 H1) (er1 : ER Γ α1 H1 en1 σ1) (xr : XR Γ α1 H1 c y cls d) (p : PstS Γ α1 H1 (catchN (.exc c y en1 h1) l) Dn W) : wHs X.K W Dn w cls d σ1 H1 := by
  induction h with
  | nil => exact p _ _ _ _ _ Stp.refl hr1 er1 xr
  | @cons x n cH i cs ds fh s0 su np hp hds l w hi hln gC hg hdb hin hout hsu r ih =>
    have xr0 := xr
    obtain ⟨da, v, e1, e2, e3, e4, e5⟩ := xr
    subst e1 e2
    have p1 : PstS Γ α1 H1 (catchN (catchS (.exc c y en1 h1) cs ds i fh) l) Dn W := p
    by_cases c1 : cs.contains c = true
    · have m : c ∈ cs := by simpa using c1
      refine ⟨true, hin c m, fun _ a na => ⟨c, da, m, rfl, rfl, α1, h1, _, hr1, er1.hold h0 e4 e3 e5, ?_⟩, fun z => by cases z⟩
      simp only [catchS, c1, if_true] at p1
      rw [catchN_no _ unS_no] at p1
      dsimp only
      cases q2 : fh (en1.set i (some (.err c y))) h1 with
      | nx en2 h2 => rw [q2] at p1; exact fun α2 H2 σ2 st2 hr2 er2 => p1 _ _ _ st2 hr2 er2.drop
      | bk en2 h2 => rw [q2] at p1; exact fun α2 H2 σ2 st2 hr2 er2 => p1 _ _ _ st2 hr2 er2.drop
      | ct en2 h2 => rw [q2] at p1; exact fun α2 H2 σ2 st2 hr2 er2 => p1 _ _ _ st2 hr2 er2.drop
      | rt d2 h2 => rw [q2] at p1; exact p1
      | ro d2 h2 => rw [q2] at p1; exact p1
      | exc c2 y2 en2 h2 => rw [q2] at p1; exact False.elim p1
      | bad => rw [q2] at p1; exact p1
    · have c1' : cs.contains c = false := by simpa using c1
      simp only [catchS, c1', Bool.false_eq_true, if_false] at p1
      by_cases c2 : ds.contains c = true
      · have m : c ∈ ds := by simpa using c2
        rw [if_pos c2] at p1
        exact ⟨false, hout c m, (fun z => by cases z), fun _ => ih p1⟩
      · rw [if_neg c2, catchN_no _ rfl] at p1
        exact False.elim p1
theorem ds_tryN {body : List Stmt} {hd0 : ExceptHandler} {hds : List ExceptHandler} {l : List Cl} {w : List (Value × Nat × ClT)} {fb : En → Hh → RS} (hs : X.stack = X.env :: X.outer) (hf : X.env.frame = some X.env.locals) (hN : X.N.Nodup) (tk : Takes X W) (h0 : Γ.xs = none)
    (hb : ∀ (W : WX) (pn : List (Addr × Obj)) (xe : Value → Shared → Prop), Takes (X.tr pn xe) W → PassesOwn (model X.prog X.w) X.A X.env xe → DSs Γ (X.tr pn xe) W body fb) (hc : ClOk Γ X (hd0 :: hds) l w) :
    DS Γ X W (.Try body (hd0 :: hds) [] [] pos) (fun en h => catchN (fb en h) l) := by
  refine ⟨_, ps_tryN (tb := fun W => tSD Γ W fb) hs hf hN tk (fun W pn xe t1 t2 => (hb W pn xe t1 t2).pss) hc.hdn, fun α h H en σ Dn hr er pp => ⟨α, h, en, hr, er, ?_⟩⟩
  cases q : fb en h with
  | exc c y en1 h1 =>
    rw [q] at pp
    intro α1 H1 σ1 cls d st hr1 er1 xr
    exact hc.catch h0 hr1 er1 xr (PstS.step st pp)
  | nx en1 h1 => rw [q, catchN_no _ rfl] at pp; exact pp
  | rt d h1 => rw [q, catchN_no _ rfl] at pp; exact pp
  | ro d h1 => rw [q, catchN_no _ rfl] at pp; exact pp
  | bk en1 h1 => rw [q, catchN_no _ rfl] at pp; exact pp
  | ct en1 h1 => rw [q, catchN_no _ rfl] at pp; exact pp
  | bad => rw [q, catchN_no _ rfl] at pp; exact pp
end
end PD

set_option Elab.async false
set_option linter.all false
set_option maxRecDepth 100000
set_option maxHeartbeats 4000000
/-! sorted(set(a list of ints)) -/
namespace PD
open PySem PySem.Spec PyProof.Rows L2
section
variable {P : Program} {w : World} {A : Around} {E : Value → Shared → Prop} {s : Shared}
abbrev nuS (w : World) : Obj := { cls := .type "set", dict := none, data := .set #[] 0 (.fresh 0 0 (!w.params.followText "set-order")) }
abbrev nuH (w : World) (h : Heap) : Heap := h.push (nuS w)
theorem nu_get (w : World) (h : Heap) : (nuH w h).get? h.objs.size = some (nuS w) := Heap.get?_push_size _ rfl
theorem nu_old {w : World} {h : Heap} {b : Addr} {o : Obj} (e : h.get? b = some o) : (nuH w h).get? b = some o := Heap.get?_push_of_some _ e
/-- what the new set and all that was there before are like in the end -/
def SetEnd (w : World) (s : Shared) (ns : List Int) (h' : Heap) : Prop := (∃ c, c ≤ ns.length ∧ SetR w h' s.heap.objs.size (fun j => decide (j ∈ ns)) c) ∧ ∀ b o, s.heap.get? b = some o → h'.get? b = some o
theorem int_items {xs : Array Value} {ns : List Int} (q : IntsAre xs.toList ns) : xs.size = ns.length ∧ ∀ (i : Nat) (v : Value), xs[i]? = some v → ∃ k t, ns[i]? = some k ∧ v = .int k t := by
  have z : xs.size = ns.length := (Array.length_toList (xs := xs)).symm.trans q.length
  refine ⟨z, fun i v e => ?_⟩
  obtain ⟨li, -⟩ := Array.getElem?_eq_some_iff.mp e
  obtain ⟨t, et⟩ := IntsAre.int_at q i v ((Array.getElem?_toList ..).trans e)
  have g := List.getElem?_eq_getElem (z ▸ li : i < ns.length)
  exact ⟨_, t, g, by rw [et, List.getD_eq_getElem?_getD, g]; rfl⟩
/-- the walk over the list fills it -/
theorem fill_set {l : Addr} {xs : Array Value} {ns : List Int} (hh : A.handled = none) (hl : s.heap.IsList l xs) (q : IntsAre xs.toList ns) (hb : ns.length + 1 < scanBound) {R : Result → Shared → Prop}
    (k : ∀ h' tk, SetEnd w s ns h' → R (.ok (.ret .none)) { s with heap := h', toks := tk }) (tk0 : Nat) :
    codeAny (model P w) A (.builtin "set.update.loop" ⟨[.ref s.heap.objs.size, .ref (nuH w s.heap).objs.size], []⟩) R { s with heap := (nuH w s.heap).push { cls := .type "list_iterator", data := .fields #[.ref l, .int 0 0] }, toks := tk0 } := by
  obtain ⟨z, val⟩ := int_items q
  obtain ⟨o, ho, _⟩ := id hl
  have ls := Heap.lt_size ho
  have zs : (nuH w s.heap).objs.size = s.heap.objs.size + 1 := Heap.size_push ..
  have ni : l ≠ (nuH w s.heap).objs.size := fun e => absurd ls (by rw [e, zs]; exact Nat.not_lt.mpr (Nat.le_succ _))
  have nf : s.heap.objs.size ∉ [(nuH w s.heap).objs.size, l] := by
    rw [zs]
    simp only [List.mem_cons, List.not_mem_nil, or_false, not_or]
    exact ⟨fun e => Nat.succ_ne_self _ e.symm, fun e => Nat.lt_irrefl _ (e ▸ ls)⟩
  have hl1 : (nuH w s.heap).IsList l xs := hl.push _
  refine set_update_ints ((Walks.list (A := A.in1) (by simp [hh]) _ l ni xs).toS) _ nf ns z hb val xs.size 0 _ (Nat.sub_zero _) (Nat.zero_le _) ⟨⟨_, Heap.get?_push_size _ rfl, rfl, rfl⟩, hl1.push _⟩ ⟨0, Nat.le_refl _, setR_new_at (Heap.get?_push_of_some _ (nu_get w s.heap))⟩ ?_
  intro s2 c mv hc hr
  obtain ⟨h2, g2, d2, t2, os2⟩ := s2
  cases (mv.gens : g2 = s.gens)
  cases (mv.drawn : d2 = s.drawn)
  cases (mv.os : os2 = s.os)
  refine k h2 t2 ⟨⟨c, z ▸ hc, hr⟩, fun b u e => mv.heap b u ?_ (Heap.get?_push_of_some _ (nu_old e))⟩
  have lb := Heap.lt_size e
  rw [zs]
  simp only [List.mem_cons, List.not_mem_nil, or_false, not_or]
  exact ⟨Nat.ne_of_lt lb, Nat.ne_of_lt (Nat.lt_succ_of_lt lb)⟩
set_option maxHeartbeats 3200000 in
/-- set(a list of ints) -/
theorem call_setL {l : Addr} {xs : Array Value} {ns : List Int} {Q : Value → Shared → Prop} (hh : A.handled = none) (hl : s.heap.IsList l xs) (q : IntsAre xs.toList ns) (hb : ns.length + 1 < scanBound)
    (k : ∀ h' tk, SetEnd w s ns h' → Q (.ref s.heap.objs.size) { s with heap := h', toks := tk }) : wpAny (model P w) A (call (.type "set") [.ref l]) Q E s := by
  obtain ⟨_, _, mr⟩ := F.called_set.mro
  have made := F.called_set.made
  have sub0 := F.called_set.sub
  apply wpAny_call
  apply codeAny_of_tree
  show wpAny _ _ (callAny (.type "set") _) _ _ _
  refine wpAny_pure ⟨Code.quiet_builtin _ (by decide +kernel), ?_⟩
  refine codeAny_builtin F.entry_type_call ?_
  rw [Around.under_plain (weight_type_call_type "set" [.ref l] []) rfl]
  have nt := F.called_set.notType
  have cc := F.called_set.canCreate
  have tc := F.typeCall_set_1 (.ref l)
  repeat (any_goals (first | assumption | wp_step))
  apply codeAny_mono (code_set_led1 (Q₁ := fun v t => v = .ref s.heap.objs.size ∧ t = { s with heap := nuH w s.heap }) (E := E) (.ref l) ⟨rfl, rfl⟩)
  intro r1 t1 e1
  match r1, e1 with
  | .error _, e1 => exact e1
  | .ok (.ret v), ⟨e2, e3⟩ =>
    subst e2 e3
    have ty : Shared.TypeIs { s with heap := nuH w s.heap } (.ref s.heap.objs.size) "set" := ⟨_, nu_get w s.heap, rfl⟩
    have lk := F.called_set.init.lookup
    have bd := F.called_set.init.bind (.ref s.heap.objs.size)
    repeat (any_goals (first | assumption | wp_step))
    apply codeAny_mono (codeAny_call_builtin (R := wants (fun v t => v = Value.none ∧ ∃ h' tk, t = { s with heap := h', toks := tk } ∧ SetEnd w s ns h') E) F.called_set.init.plain F.entry_set_init (check_set_init_1 ty ?_))
    · rintro r2 t2 e2
      match r2, e2 with
      | .error _, e2 => exact e2
      | .ok (.ret v), ⟨e3, h', tk, e4, e5⟩ =>
        subst e3 e4
        repeat (any_goals (first | assumption | wp_step))
        exact k h' tk e5
    · have ll : (nuH w s.heap).IsList l xs := hl.push _
      obtain ⟨⟨lc, ld, lz, lo⟩, lg, lk1, ln, lk2⟩ := id ll
      cases lk1
      cases lk2
      have n1 := F.sub_list_set
      have n2 := F.sub_list_frozenset
      have n3 : (Value.type "list" == Value.type "dict") = false := by decide
      simp only [Builtin.«set.__init__», noKeywords, Builtin.Frozenset.updateFrom]
      generalize ei : pyIter = it
      wp_walk
      rw [← ei]
      apply wpAny_pyIter_list ll
      apply wpAny_bind
      apply wpAny_runValue
      exact fill_set (A := A.in1.in1) (by simp [hh]) hl q hb (fun h' tk en => by
        apply wpAny_pure
        show wpAny (model P w) A.in1.in1 (ret Value.none) _ _ _
        apply wpAny_pure
        exact ⟨rfl, h', tk, rfl, en⟩) s.toks
end
end PD

set_option Elab.async false
set_option linter.all false
set_option maxRecDepth 100000
set_option maxHeartbeats 4000000
/-! sorted(set(..)) in a def's text -/
namespace PD
open PySem PySem.Spec PyProof.Rows L2
/-! ### in the def's text -/
theorem insU_mem (i k : Int) : ∀ l : List Int, k ∈ insU i l ↔ k = i ∨ k ∈ l
  | [] => by simp [insU]
  | j :: r => by
    unfold insU
    split
    · simp
    · split
      · rename_i e
        subst e
        simp
      · simp only [List.mem_cons, insU_mem i k r]
        constructor
        · rintro (z | z | z) <;> simp [z]
        · rintro (z | z | z) <;> simp [z]
theorem insU_up (i : Int) : ∀ l : List Int, l.Pairwise (· < ·) → (insU i l).Pairwise (· < ·)
  | [], _ => by simp [insU]
  | j :: r, h => by
    obtain ⟨h1, h2⟩ := List.pairwise_cons.mp h
    unfold insU
    split
    · rename_i c
      refine List.pairwise_cons.mpr ⟨fun k hk => ?_, h⟩
      rcases List.mem_cons.mp hk with rfl | hk
      · exact c
      · exact Int.lt_trans c (h1 k hk)
    · split
      · exact h
      · refine List.pairwise_cons.mpr ⟨fun k hk => ?_, insU_up i r h2⟩
        rcases (insU_mem i k r).mp hk with rfl | hk
        · omega
        · exact h1 k hk
theorem sortU_mem (k : Int) : ∀ l : List Int, k ∈ sortU l ↔ k ∈ l
  | [] => by simp [sortU]
  | i :: r => by
    show k ∈ insU i (sortU r) ↔ _
    rw [insU_mem, sortU_mem k r, List.mem_cons]
theorem sortU_up : ∀ l : List Int, (sortU l).Pairwise (· < ·)
  | [] => List.Pairwise.nil
  | i :: r => insU_up i _ (sortU_up r)
theorem up_one : ∀ {l m : List Int}, l.Pairwise (· < ·) → m.Pairwise (· < ·) → (∀ k, k ∈ l ↔ k ∈ m) → l = m
  | [], [], _, _, _ => rfl
  | [], j :: m, _, _, h => absurd ((h j).mpr (by simp)) (by simp)
  | i :: l, [], _, _, h => absurd ((h i).mp (by simp)) (by simp)
  | i :: l, j :: m, hl, hm, h => by
    obtain ⟨l1, l2⟩ := List.pairwise_cons.mp hl
    obtain ⟨m1, m2⟩ := List.pairwise_cons.mp hm
    have e : i = j := by
      rcases List.mem_cons.mp ((h i).mp (by simp)) with z | z
      · exact z
      · rcases List.mem_cons.mp ((h j).mpr (by simp)) with y | y
        · exact y.symm
        · have := m1 i z
          have := l1 j y
          omega
    subst e
    congr 1
    refine up_one l2 m2 fun k => ⟨fun z => ?_, fun z => ?_⟩
    · rcases List.mem_cons.mp ((h k).mp (by simp [z])) with y | y
      · have := l1 k z
        omega
      · exact y
    · rcases List.mem_cons.mp ((h k).mpr (by simp [z])) with y | y
      · have := m1 k z
        omega
      · exact y
section
variable {X : Cx}
def rSetL (K : PySem.W.Frag) (w : World) : List V → Hp → VK → Prop := fun xs H Q => ∃ (l : Addr) (ns : List Int), xs = [V.ref l] ∧ SqL K H l (ns.map V.int) ∧ ns.length < 64 ∧
  ∀ (p : Addr) (S : Int → Bool) (n : Nat), H p = none → (∀ k, S k = true ↔ k ∈ ns) → n ≤ ns.length → Q (.ref p) (upd H p (SetO w p S n))
theorem cr_setL (hc : X.calm = true) : CallR X (.type "set") (rSetL X.K X.w) := by
  rintro pins s σ H xs us Q I r ⟨l, ns, rfl, hl, h64, q⟩
  rw [Vals.ref1 r]
  obtain ⟨its, rv, pl, -⟩ := I.list hl
  have hb : ns.length + 1 < scanBound := by unfold scanBound; omega
  refine call_setL (P := X.prog) (w := X.w) (I.ok.hd hc) pl.isList (ns := ns) (by simpa using rv.ints) hb fun h' tk en => ?_
  obtain ⟨⟨c, c1, R⟩, kp⟩ := en
  exact ⟨V.ref s.heap.objs.size, _, I.laid (t' := tk) kp (Nat.le_refl _) (setO_new R), rfl, q _ _ c (I.hok.fresh (Nat.le_refl _)) (fun k => by simp) c1⟩
variable {Γ : Wd} {W : WX} {pos p p2 q2 : Pos}
/-- sorted(set(e)) -/
theorem df_srt {e : Expr} {f : En → Hh → R D} (hc : X.calm = true) (hK : X.K = Γ.K) (hg : Gl X "sorted") (hm : X.mg "sorted" = none) (hg2 : Gl X "set") (hm2 : X.mg "set" = none) (hs : star e = false) (he : DE Γ X W e f) :
    DF Γ X W (.Call (.Name "sorted" p) [.Call (.Name "set" p2) [e] [] q2] [] pos) (fun en h => bnd (f en h) fun x h1 => optR ((seqOf h1 x).bind intsOf) fun is => if is.length < 64 then .ok ((sortU is).map .int) h1 else .bad) := by
  obtain ⟨t, pt, k⟩ := he.ex
  refine ⟨_, pe_callB (cr_sortedSet hc) hg hm (by decide +kernel) (pa_cons (pe_callTy (cr_setL hc) hg2 hm2 (by decide +kernel) (pa_cons pt pa_nil (starEach_cons hs)) (by decide) (by decide) (starEach_cons hs) rfl) pa_nil rfl) (by decide) (by decide) rfl rfl, fun α h H en σ Q hr er p => k _ _ _ _ _ _ hr er (p.bnd fun d h1 α1 H1 v st1 hr1 r1 p1 => ?_)⟩
  obtain ⟨is, e1, p2⟩ := PstF.opt p1
  obtain ⟨ds, e2, e3⟩ := Option.bind_eq_some_iff.mp e1
  obtain ⟨a, vs, rfl, s, rs⟩ := hr1.seqB (.val r1) e2
  rw [reps_intsOf e3 rs] at s
  by_cases c : is.length < 64
  · rw [if_pos c] at p2
    refine ⟨a, is, rfl, by rw [hK]; exact s, c, fun b S n hb hS hn => ?_⟩
    refine ⟨b, S, n, rfl, upd_same, by omega, fun ns' b2 up mem len hb2 => ?_⟩
    have e : ns' = sortU is := up_one up (sortU_up is) fun j => by rw [mem j, hS j, sortU_mem]
    subst e
    have hr2 := hr1.other (o := SetO X.w b S n) hb
    exact new_own hr2 hb2 (by rw [show (sortU is).map V.int = (sortU is).map V.int from rfl]; exact reps_ints _) (PstF.step hr2 (Step.other hb) p2)
  · rw [if_neg c] at p2; exact False.elim p2
end
end PD

set_option Elab.async false
set_option linter.all false
set_option maxRecDepth 100000
set_option maxHeartbeats 4000000
/-! A list of the def's own, lent to a call: what comes back holds nothing of it. -/
namespace PD
open PySem PySem.Spec PyProof.Rows L2
section
variable {Γ : Wd} {X : Cx} {W : WX} {pos : Pos}
mutual
theorem ap_rep {K : PySem.W.Frag} {α1 α2 : Al} {H : Hp} {a : Addr} {ws : List V} {xs : List D} (e : H a = some (.lst ws)) (w : Reps K α1 H xs ws) (hc : α2.c = α1.c) (hb : α2.b = α1.b) (ho : ∀ x, x ∈ α2.o → x = a ∨ x ∈ α1.o) :
    ∀ {d : D} {v : V}, Rep K α1 H d v → apD xs d = true → Rep K α2 H d v
  | _, _, .non, _ => .non
  | _, _, .bl b, _ => .bl b
  | _, _, .int i, _ => .int i
  | _, _, .str x, _ => .str x
  | _, _, .tup s rs, h => .tup s (ap_reps e w hc hb ho rs (by simpa [apD] using h))
  | .lst ds, .ref a', .lst e' h1 h2 h3 rs, h => by
    have h' : apL xs ds = true ∧ apA xs ds = true := by simpa [apD] using h
    refine .lst e' (by rw [hc]; exact h1) (fun z => ?_) (by rw [hb]; exact h3) (ap_reps e w hc hb ho rs h'.2)
    rcases ho _ z with z | z
    · subst z
      rw [e] at e'
      cases e'
      have l1 := w.length
      have l2 := rs.length
      have h'' := h'.1
      unfold apL at h''
      rw [if_pos (by omega)] at h''
      cases w with
      | nil => simp at h''
      | cons r1 _ =>
        cases rs with
        | cons r2 _ =>
          cases r1 <;> cases r2 <;> simp at h''
    · exact h2 z
  | _, _, .ref m, _ => .ref (by rw [hc]; exact m)
  | _, _, .scr s, _ => .scr s
  | _, _, .emp e' h1 h2 h3, _ => .emp e' (by rw [hc]; exact h1) (fun z => by
      rcases ho _ z with z | z
      · subst z
        rw [e] at e'
        cases e'
      · exact h2 z) (by rw [hb]; exact h3)
theorem ap_reps {K : PySem.W.Frag} {α1 α2 : Al} {H : Hp} {a : Addr} {ws : List V} {xs : List D} (e : H a = some (.lst ws)) (w : Reps K α1 H xs ws) (hc : α2.c = α1.c) (hb : α2.b = α1.b) (ho : ∀ x, x ∈ α2.o → x = a ∨ x ∈ α1.o) :
    ∀ {ds : List D} {vs : List V}, Reps K α1 H ds vs → apA xs ds = true → Reps K α2 H ds vs
  | _, _, .nil, _ => .nil
  | _ :: _, _, .cons r rs, h => by
    unfold apA at h
    have h' := (Bool.and_eq_true ..).mp h
    exact .cons (ap_rep e w hc hb ho r h'.1) (ap_reps e w hc hb ho rs h'.2)
end
theorem ap_repK {K : PySem.W.Frag} {α1 α2 : Al} {H : Hp} {a : Addr} {ws : List V} {xs : List D} (e : H a = some (.lst ws)) (w : Reps K α1 H xs ws) (hc : α2.c = α1.c) (hb : α2.b = α1.b) (ho : ∀ x, x ∈ α2.o → x = a ∨ x ∈ α1.o) :
    ∀ {ks : List (Str × D)} {vs : List (Key × V)}, RepK K α1 H ks vs → apA xs (ks.map (·.2)) = true → RepK K α2 H ks vs
  | _, _, .nil, _ => .nil
  | _, _, .cons r rs, h => by
    rw [List.map_cons] at h
    unfold apA at h
    have h' := (Bool.and_eq_true ..).mp h
    exact .cons (ap_rep e w hc hb ho r h'.1) (ap_repK e w hc hb ho rs h'.2)
/-- the list is frozen: the addresses told -/
theorem frz_at {α : Al} {h : Hh} {H : Hp} {en : En} {σ : L2.St} {i : Nat} {xs : List D} {a : Addr} {ws : List V} (hr : HR Γ.K α h H) (er : ER Γ α H en σ) (ho : getO en i = some xs) (e1 : σ[i]? = some (some (.ref a))) (e2 : H a = some (.lst ws)) (e4 : a ∉ α.c) (e5 : a ∉ α.b) (w1 : Reps Γ.K α H xs ws) :
    HR Γ.K { α with o := α.o.filter fun z => decide (z ≠ a) } h H ∧ ER Γ { α with o := α.o.filter fun z => decide (z ≠ a) } H (en.set i (some (.lst xs))) σ ∧ Reps Γ.K { α with o := α.o.filter fun z => decide (z ≠ a) } H xs ws := by
  have sb : ∀ b, b ∈ (α.o.filter fun z => decide (z ≠ a)) ∨ b ∈ α.b → b ∈ α.o ∨ b ∈ α.b := fun b hb => hb.imp (fun z => (List.mem_filter.mp z).1) id
  have ex : Ext Γ.K α H { α with o := α.o.filter fun z => decide (z ≠ a) } H := Ext.sub (α := α) (α1 := { α with o := α.o.filter fun z => decide (z ≠ a) }) rfl sb
  have e0 := getO_some ho
  refine ⟨hr.sub rfl sb, ⟨by simp [er.len], fun j d hj => ?_, fun j k b ds ds' hjk g1 g2 g3 g4 => ?_⟩, w1.monoE ex⟩
  · rcases set_get hj with ⟨rfl, z, hl⟩ | ⟨hne, hj'⟩
    · cases z
      exact ⟨_, e1, .val (.lst e2 e4 (fun z => by have := (List.mem_filter.mp z).2; simp at this) e5 (w1.monoE ex))⟩
    · obtain ⟨v, q, r⟩ := er.get j d hj'
      refine ⟨v, q, ?_⟩
      cases r with
      | val r => exact .val (r.monoE ex)
      | err hx e' hc r => exact .err hx e' hc (r.monoE ex)
      | own e' m1 m2 m3 rs' =>
        refine .own e' (List.mem_filter.mpr ⟨m1, decide_eq_true fun z => ?_⟩) m2 m3 (rs'.monoE ex)
        rw [z] at q
        exact er.uq i j a xs _ (Ne.symm hne) e0 hj' e1 q
  · rcases set_get g1 with ⟨_, z, _⟩ | ⟨_, g1'⟩
    · cases z
    · rcases set_get g2 with ⟨_, z, _⟩ | ⟨_, g2'⟩
      · cases z
      · exact er.uq j k b _ _ hjk g1' g2' g3 g4
theorem apE_get {xs : List D} {i : Nat} : ∀ (k0 : Nat) (en : En), apE xs i k0 en = true → ∀ (k : Nat) (d : D), en[k]? = some (some d) → k0 + k ≠ i → (∃ es, d = .own es ∧ apA xs es = true) ∨ apD xs d = true
  | _, [], _, k, d, h, _ => by simp at h
  | k0, o :: r, h, k, d, hk, hi => by
    unfold apE at h
    rw [Bool.and_eq_true, Bool.or_eq_true] at h
    cases k with
    | zero =>
      have ho : o = some d := by simpa using hk
      subst ho
      rcases h.1 with z | z
      · exact absurd (of_decide_eq_true z) hi
      · cases d with
        | own es => exact .inl ⟨es, rfl, z⟩
        | _ => exact .inr z
    | succ k => exact apE_get (k0 + 1) r h.2 k d (by simpa using hk) (by omega)
theorem ds_asgB {i j : Nat} {x : Str} {e : Expr} {pos' : Pos} {f : En → Hh → R D} (hij : i ≠ j) (hN : X.N.Nodup) (hi : X.N[j]? = some x) (hx : Loc X.env.scope x) (hf : X.fn x = true ∨ X.env.scope.names.lookup x = some .local) (hs : swapsWith e (some (.Name x pos')) pos.line X.env = pure false) (he : DE Γ X W e f) :
    DS Γ X W (.Assign [.Name x pos'] e pos) (fun en h => match PD.getO en i with | some xs => (match f (en.set i (some (.lst xs))) h with | .ok d h1 => if lendOk xs i (en.set j (some d)) h1 = true then .nx (en.set j (some d)) h1 else .bad | _ => .bad) | none => .bad) := by
  obtain ⟨t, pt, k⟩ := he.ex
  refine ⟨_, ps_set hN hi hx pt hs hf, fun α h H en σ Dn hr er p => ?_⟩
  cases ho : PD.getO en i with
  | none => rw [ho] at p; exact False.elim p
  | some xs =>
    rw [ho] at p
    obtain ⟨a, ws, e1, e2, e3, e4, e5, w1⟩ := er.getO ho
    obtain ⟨hr0, er0, w0⟩ := frz_at hr er ho e1 e2 e4 e5 w1
    refine k _ _ _ _ _ _ hr0 er0 ?_
    dsimp only at p
    cases q : f (en.set i (some (.lst xs))) h with
    | exc c y h1 => rw [q] at p; exact False.elim p
    | bad => rw [q] at p; exact False.elim p
    | ok d h1 =>
      rw [q] at p
      intro α1 H1 v st hr1 r1
      by_cases c : lendOk xs i (en.set j (some d)) h1 = true
      · have p' : PstS Γ α H (if lendOk xs i (en.set j (some d)) h1 = true then .nx (en.set j (some d)) h1 else .bad) Dn W := p
        rw [if_pos c] at p'
        have c' : (apE xs i 0 (en.set j (some d)) = true ∧ apA xs xs = true) ∧ (∀ o, o ∈ h1 → apO xs o = true) := by
          simpa [lendOk, List.all_eq_true] using c
        obtain ⟨⟨cE, cX⟩, cH⟩ := c'
        have nf : a ∉ (α.o.filter fun z => decide (z ≠ a)) := fun z => by have := (List.mem_filter.mp z).2; simp at this
        obtain ⟨ea, ac, ao, ab⟩ := st.fz a _ e2 e4 nf e5
        have ho1 : α1.o = α.o.filter fun z => decide (z ≠ a) := st.ho
        have hb1 : α1.b = α.b := st.hb
        have hoo : ∀ y, y ∈ ({ α1 with o := α.o } : Al).o → y = a ∨ y ∈ α1.o := fun y hy => by
          by_cases z : y = a
          · exact .inl z
          · exact .inr (by rw [ho1]; exact List.mem_filter.mpr ⟨hy, decide_eq_true z⟩)
        have w2 : Reps Γ.K α1 H1 xs ws := w0.mono st
        have up := fun {d : D} {v : V} (r : Rep Γ.K α1 H1 d v) (h : apD xs d = true) => ap_rep (α2 := { α1 with o := α.o }) ea w2 rfl rfl hoo r h
        have ups := fun {d : List D} {v : List V} (r : Reps Γ.K α1 H1 d v) (h : apA xs d = true) => ap_reps (α2 := { α1 with o := α.o }) ea w2 rfl rfl hoo r h
        have er1 := er0.mono st
        have e0 := getO_some ho
        have dj : (en.set j (some d))[j]? = some (some d) ∨ en.length ≤ j := by
          by_cases z : j < en.length
          · exact .inl (by simp [z])
          · exact .inr (by omega)
        refine p' { α1 with o := α.o } H1 _ ?_ ?_ ?_
        · obtain ⟨β, eβ⟩ := st.pre
          refine .of ⟨β, eβ⟩ st.tup st.ro hb1 (fun b hb => ?_) (fun b o h1 h2 e => st.frm b o h1 e)
          rcases hb with hb | hb
          · exact (st.new b hb).imp .inl id
          · exact .inl (.inr hb)
        · refine ⟨hr1.len, hr1.nd, fun b hb => ⟨fun z => ?_, (hr1.dis b hb).2⟩, fun b hb => ?_, fun n b o hn hh => ?_⟩
          · rcases hoo b z with z | z
            · subst z; exact ac hb
            · exact (hr1.dis b hb).1 z
          · rcases hb with hb | hb
            · rcases hoo b hb with z | z
              · subst z; rw [ea]; exact fun z => nomatch z
              · exact hr1.al b (.inl z)
            · exact hr1.al b (.inr hb)
          · have x := hr1.obj n b o hn hh
            have m := cH o (List.mem_of_getElem? hh)
            cases o with
            | lst ds =>
              obtain ⟨vs, e, r⟩ := x
              exact ⟨vs, e, ups r (by simpa [apO] using m)⟩
            | dct ds =>
              obtain ⟨vs, e, r⟩ := x
              exact ⟨vs, e, ap_repK (α2 := { α1 with o := α.o }) ea w2 rfl rfl hoo r (by simpa [apO] using m)⟩
        · refine ⟨by simp [er.len], fun n y hn => ?_, fun n m b ds ds' hnm g1 g2 g3 g4 => ?_⟩
          · rcases set_get hn with ⟨rfl, z, hl⟩ | ⟨hne, hn'⟩
            · cases z
              have ad : apD xs d = true := by
                rcases apE_get 0 _ cE n d hn (by omega) with ⟨es, rfl, -⟩ | z
                · cases r1
                · exact z
              exact ⟨v, by rw [er.len] at hl; simp [hl], .val (up r1 ad)⟩
            · by_cases ni : n = i
              · subst ni
                rw [e0] at hn'
                cases hn'
                exact ⟨_, by rw [List.getElem?_set_ne (Ne.symm hne)]; exact e1, .own ea e3 ac ab (ups w2 cX)⟩
              · obtain ⟨v', q', r'⟩ := er1.get n y (by rw [List.getElem?_set_ne (Ne.symm ni)]; exact hn')
                refine ⟨v', by rw [List.getElem?_set_ne (Ne.symm hne)]; exact q', ?_⟩
                have ay := apE_get 0 _ cE n y hn (by omega)
                cases r' with
                | val r' =>
                  rcases ay with ⟨es, rfl, -⟩ | z
                  · cases r'
                  · exact .val (up r' z)
                | own e' m1 m2 m3 rs' =>
                  rcases ay with ⟨es, z, ae⟩ | z
                  · cases z
                    refine .own e' ?_ m2 m3 (ups rs' ae)
                    rw [ho1] at m1
                    exact (List.mem_filter.mp m1).1
                  · simp [apD] at z
                | err _ _ _ _ =>
                  rcases ay with ⟨es, z, -⟩ | z
                  · cases z
                  · simp [apD] at z
          · rcases set_get g1 with ⟨_, z, _⟩ | ⟨n1, g1'⟩
            · injection z with z
              subst z
              cases r1
            · rcases set_get g2 with ⟨_, z, _⟩ | ⟨n2, g2'⟩
              · injection z with z
                subst z
                cases r1
              · rw [List.getElem?_set_ne (Ne.symm n1)] at g3
                rw [List.getElem?_set_ne (Ne.symm n2)] at g4
                exact er.uq n m b _ _ hnm g1' g2' g3 g4
      · have p' : PstS Γ α H (if lendOk xs i (en.set j (some d)) h1 = true then .nx (en.set j (some d)) h1 else .bad) Dn W := p
        rw [if_neg c] at p'
        exact False.elim p'
end
end PD

set_option Elab.async false
set_option linter.all false
set_option maxRecDepth 100000
set_option maxHeartbeats 4000000
/-! Dicts of the heap: two keys, asked and written by them. -/
namespace PD
open PySem PySem.Spec PyProof.Rows L2
section
variable {Γ : Wd} {X : Cx} {W : WX} {pos : Pos}
theorem inr_inj {a b : Str} : ((Sum.inr a : Key) = Sum.inr b) ↔ a = b := ⟨fun z => by injection z, fun z => by rw [z]⟩
theorem RepK.val {K : PySem.W.Frag} {α : Al} {H : Hp} {k : Str} : ∀ {ks : List (Str × D)} {vs : List (Key × V)} {d : D}, RepK K α H ks vs → valD ks k = some d → ∃ v, valV vs (Sum.inr k : Key) = some v ∧ Rep K α H d v
  | _, _, d, .nil, h => by cases h
  | _, _, d, .cons (k := k') (d := d') (v := v') r rs, h => by
    by_cases e : k' = k
    · subst e
      have h' : valD ((k', d') :: _) k' = some d := h
      simp [valD] at h'
      subst h'
      exact ⟨v', valV_pos (p := ((Sum.inr k' : Key), v')) rfl, r⟩
    · simp only [valD, List.find?_cons, decide_eq_false e] at h
      obtain ⟨v, e1, e2⟩ := RepK.val rs h
      exact ⟨v, by rw [valV_neg (p := ((Sum.inr k' : Key), v')) (fun z => e (inr_inj.mp z))]; exact e1, e2⟩
theorem RepK.put {K : PySem.W.Frag} {α : Al} {H : Hp} {k : Str} {d : D} {v : V} (r0 : Rep K α H d v) : ∀ {ks : List (Str × D)} {vs : List (Key × V)}, RepK K α H ks vs → RepK K α H (putD ks k d) (vs.map fun kv => if kv.1 = (Sum.inr k : Key) then (kv.1, v) else kv)
  | _, _, .nil => .nil
  | _, _, .cons (k := k') r rs => by
    simp only [putD, List.map_cons, inr_inj]
    by_cases e : k' = k
    · rw [if_pos e, if_pos e]
      exact .cons r0 (RepK.put r0 rs)
    · rw [if_neg e, if_neg e]
      exact .cons r (RepK.put r0 rs)
theorem RepK.len {K : PySem.W.Frag} {α : Al} {H : Hp} : ∀ {ks : List (Str × D)} {vs : List (Key × V)}, RepK K α H ks vs → ks.length = vs.length
  | _, _, .nil => rfl
  | _, _, .cons _ rs => by simp [RepK.len rs]
/-- a[".."] -/
theorem de_dix {a : Expr} {k : Str} {c : Nat} {p2 : Pos} {f : En → Hh → R D} (hu : X.A.units + 1 < cLine) (ha : DE Γ X W a f) : DE Γ X W (.Subscript a (.Constant (.str k) c p2) pos) (fun en h => bnd (f en h) fun x h1 => dGet x k h1) := by
  obtain ⟨t, pt, kk⟩ := ha.ex
  refine ⟨_, pe_dget hu pt pe_str (fun _ _ => rfl), fun α h H en σ Q hr er p => kk _ _ _ _ _ _ hr er (p.bnd fun d h1 α1 H1 v st1 hr1 r1 p1 => ?_)⟩
  cases d <;> first | exact False.elim p1 | skip
  rename_i n
  cases r1 with | ref han =>
  rename_i b
  obtain ⟨dd, e, p2'⟩ := Pst.opt p1
  obtain ⟨kvs, e1, e2⟩ := Option.bind_eq_some_iff.mp e
  obtain ⟨vs, e3, rs⟩ := hr1.dct han (dctOf_some e1)
  obtain ⟨w, e4, rw'⟩ := rs.val e2
  exact ⟨b, w, rfl, by rw [← e4]; exact DGet.k (k := .inr k) e3, p2' _ _ _ Step.refl hr1 rw'⟩
def rDct : TSet := fun o i v H Q => ∃ a H', o = .ref a ∧ DPut H a i v H' ∧ Q H'
theorem pset_dct (hu : X.A.units + 1 < cLine) : PSet X rDct := by
  intro pins s σ H o i v ov iv u Q I ro ri rv ⟨a, H', eo, g, q⟩
  subst eo
  cases ro
  exact d_setItem hu I g ri rv fun s' I' => ⟨H', I', q⟩
/-- o[".."] = .. -/
theorem dg_dsub {o : Expr} {k : Str} {c : Nat} {p2 : Pos} {f : En → Hh → R D} (hu : X.A.units + 1 < cLine) (ho : DE Γ X W o f)
    (ha : ∀ v, assign (.Subscript o (.Constant (.str k) c p2) pos) X.env v = (do
      let ov ← holding [v] (eval o X.env)
      let iv ← holding [v, ov] (eval (.Constant (.str k) c p2) X.env)
      standAt pos
      holding [v, ov, iv] (setItem ov iv v)
      release [v, ov, iv] [])) : DG Γ X (.Subscript o (.Constant (.str k) c p2) pos) [] (fun d en h => bnd (f en h) fun x h1 => bnd (dPut x k d h1) fun _ h2 => .ok en h2) := by
  obtain ⟨t, pt, kk⟩ := ho.ex
  refine ⟨_, pg_sub pt pe_str (pset_dct hu) ha, fun α h H d v en σ Q hr er rd p => ?_⟩
  rw [noExc_bnd] at p
  refine kk _ _ _ _ _ _ hr er (Pst.noExc (p.bnd fun x h1 α1 H1 xv st1 hr1 r1 p1 => ?_))
  cases r1 <;> first | exact False.elim p1 | skip
  rename_i n a han
  have p3 : Pst Γ (REn Γ [] en σ) α1 H1 (noExc (bnd (optR (dctOf h1 n) fun kvs => optR (valD kvs k) fun _ => if kvs.length < sizeLine then R.ok () (h1.set n (.dct (putD kvs k d))) else .bad) fun _ h3 => .ok en h3)) Q (fun _ _ _ => False) := p1
  cases q1 : dctOf h1 n with
  | none => rw [q1] at p3; exact False.elim p3
  | some kvs =>
    cases q2 : valD kvs k with
    | none => rw [q1, optR_some, q2] at p3; exact False.elim p3
    | some y =>
      rw [q1, optR_some, q2, optR_some] at p3
      by_cases c : kvs.length < sizeLine
      · rw [if_pos c] at p3
        obtain ⟨vs, e, rs⟩ := hr1.dct han (dctOf_some q1)
        obtain ⟨w, e4, -⟩ := rs.val q2
        have st := Step.setD (K := Γ.K) (vs' := putK vs (.inr k) v) e (List.mem_of_getElem? han)
        have ep : putK vs (.inr k) v = vs.map fun kv => if kv.1 = (Sum.inr k : Key) then (kv.1, v) else kv := by
          unfold putK
          rw [if_pos (by rw [valV_any, e4]; rfl)]
        refine ⟨a, _, rfl, DPut.k (k := .inr k) e (by rw [← rs.len]; exact c), ?_⟩
        refine p3 _ _ _ st (hr1.setD han e ?_) ⟨(er.mono st1).mono st, Agr.refl, .refl⟩
        rw [ep]
        exact RepK.put (rd.mono st1) rs
      · rw [if_neg c] at p3; exact False.elim p3
/-- a dict of two keys -/
theorem de_newD {k1 k2 x1 x2 : Str} {i j : Nat} {c1 c2 : Nat} {q1 q2 r1 r2 : Pos} (hN1 : X.N[i]? = some x1) (hv1 : Vis X.env.scope x1) (hd1 : (x1 == ("__debug__" : Str)) = false) (hc1 : (x1 == ("__classdict__" : Str)) = false)
    (hN2 : X.N[j]? = some x2) (hv2 : Vis X.env.scope x2) (hd2 : (x2 == ("__debug__" : Str)) = false) (hc2 : (x2 == ("__classdict__" : Str)) = false) :
    DE Γ X W (.Dict [some (.Constant (.str k1) c1 q1), some (.Constant (.str k2) c2 q2)] [.Name x1 r1, .Name x2 r2] pos) (fun en h => optR (getE en i) fun x => optR (getE en j) fun y => if k1 = k2 then .bad else .ok (.ref h.length) (h ++ [.dct [(k1, x), (k2, y)]])) := by
  refine ⟨_, pe_disp (pps_cons pe_str (pe_var hN1 hv1 hd1 hc1) (pps_cons pe_str (pe_var hN2 hv2 hd2 hc2) pps_nil)) rfl rfl (by simp) (by simp), fun α h H en σ Q hr er p => ?_⟩
  obtain ⟨x, e1, p⟩ := Pst.opt p
  obtain ⟨y, e2, p⟩ := Pst.opt p
  obtain ⟨v, s1, w1⟩ := er.getV e1
  obtain ⟨u, s2, w2⟩ := er.getV e2
  by_cases c : k1 = k2
  · rw [if_pos c] at p; exact False.elim p
  · rw [if_neg c] at p
    intro a hn
    refine ⟨v, s1, u, s2, upd_same, [(.inr k1, v), (.inr k2, u)], rfl, by simp, ?_⟩
    have em : mergeK [] [((.inr k1 : Key), v), (.inr k2, u)] = [((.inr k1 : Key), v), (.inr k2, u)] := by
      have nk : ¬ ((Sum.inr k1 : Key) = Sum.inr k2) := fun z => c (inr_inj.mp z)
      simp [mergeK, putK, nk]
    rw [em]
    have uu : upd (upd H a (.dK [])) a (.dK [((.inr k1 : Key), v), (.inr k2, u)]) = upd H a (.dK [((.inr k1 : Key), v), (.inr k2, u)]) := by
      funext b
      by_cases z : b = a
      · subst z; rw [upd_same, upd_same]
      · rw [upd_ne z, upd_ne z, upd_ne z]
    rw [uu]
    have st : Step Γ.K α H { α with c := α.c ++ [a] } (upd H a (.dK [((.inr k1 : Key), v), (.inr k2, u)])) := Step.new' hn
    exact p _ _ _ st (hr.newG hn ⟨_, upd_same, .cons (w1.mono st) (.cons (w2.mono st) .nil)⟩) (rep_new hr)
end
end PD

set_option Elab.async false
set_option linter.all false
set_option maxRecDepth 100000
set_option maxHeartbeats 4000000
/-! list(zip(a, b)) of two lists. -/
namespace PD
open PySem PySem.Spec PyProof.Rows L2 PySem.W
theorem zip_no_len : typeLookup (.type "zip") "__len__" = pure none := am_miss_of_fast (by decide +kernel)
theorem zip_no_hint : typeLookup (.type "zip") "__length_hint__" = pure none := am_miss_of_fast (by decide +kernel)
/-- a zip on its way, its list being S -/
structure ZSt (h : Heap) (z TI TO i1 i2 l1 l2 S : Addr) (xs ys : Array Value) (i : Nat) : Prop where
  ti : IsPair h TI (.ref i1) (.ref i2)
  h1 : h.IsListIter i1 l1 i
  h2 : h.IsListIter i2 l2 i
  a1 : h.IsList l1 xs
  a2 : h.IsList l2 ys
  zz : (IsZip h z TI TO .none ∧ ∃ a b, IsPair h TO a b) ∨ ∃ T f oT, IsZipHeld h z TI TO T f ∧ h.get? T = some oT ∧ T ≠ z ∧ T ≠ i1 ∧ T ≠ i2 ∧ T ≠ S
structure ZG (xs ys : Array Value) (lo : Addr) (h : Heap) (as : List Addr) : Prop where
  rise : as.Pairwise (· < ·)
  above : ∀ a ∈ as, lo < a
  pairs : ∀ (j : Nat) (a : Addr), as[j]? = some a → ∃ x y, xs[j]? = some x ∧ ys[j]? = some y ∧ h.get? a = some { cls := .type "tuple", data := .seq #[x, y] }
section
variable {prog : Program} {w : World} {A : Around} {E : Value → Shared → Prop} {s : Shared} {z TI TO i1 i2 l1 l2 S : Addr} {xs ys : Array Value}
theorem ZSt.keep {h h' : Heap} {i : Nat} (x : ZSt h z TI TO i1 i2 l1 l2 S xs ys i) (hS : z ≠ S ∧ TI ≠ S ∧ TO ≠ S ∧ i1 ≠ S ∧ i2 ≠ S ∧ l1 ≠ S ∧ l2 ≠ S) (hk : ∀ b o, b ≠ S → h.get? b = some o → h'.get? b = some o) : ZSt h' z TI TO i1 i2 l1 l2 S xs ys i := by
  obtain ⟨hTI, h1, h2, hl1, hl2, hz⟩ := x
  obtain ⟨n1, n2, n3, n4, n5, n6, n7⟩ := hS
  refine ⟨hk _ _ n2 hTI, h1.at fun o e => hk _ o n4 e, h2.at fun o e => hk _ o n5 e, hl1.at fun o e => hk _ o n6 e, hl2.at fun o e => hk _ o n7 e, ?_⟩
  rcases hz with ⟨hz, a, b, hTO⟩ | ⟨T, f, oT, hz, hT, r1, r2, r3, r4⟩
  · exact .inl ⟨hk _ _ n1 hz, a, b, hk _ _ n3 hTO⟩
  · exact .inr ⟨T, f, oT, hk _ _ n1 hz, hk _ _ r4 hT, r1, r2, r3, r4⟩
theorem z_item {i : Nat} {x y : Value} {Q : Option Value → Shared → Prop} (D : ZipApart z TI TO i1 i2 l1 l2) (st : ZSt s.heap z TI TO i1 i2 l1 l2 S xs ys i) (hS : S < s.heap.objs.size) (ex : xs[i]? = some x) (ey : ys[i]? = some y)
    (hQ : ∀ h', ZSt h' z TI TO i1 i2 l1 l2 S xs ys (i + 1) → h'.get? s.heap.objs.size = some { cls := .type "tuple", data := .seq #[x, y] } → h'.objs.size = s.heap.objs.size + 1 → (∀ c o, c ≠ z → c ≠ TO → c ≠ i1 → c ≠ i2 → s.heap.get? c = some o → h'.get? c = some o) → Q (some (.ref s.heap.objs.size)) { s with heap := h' }) :
    wpAny (model prog w) A (pyNext (.ref z)) Q E s := by
  obtain ⟨hTI, h1, h2, hl1, hl2, hz⟩ := st
  have lt : ∀ {c o}, s.heap.get? c = some o → s.heap.objs.size ≠ c := fun e => Nat.ne_of_gt (Heap.lt_size e)
  have n1 : s.heap.objs.size ≠ i1 := let ⟨_, e, _⟩ := h1; lt e
  have n2 : s.heap.objs.size ≠ i2 := let ⟨_, e, _⟩ := h2; lt e
  rcases hz with ⟨hz, a, b, hTO⟩ | ⟨T, f, oT, hz, hT, r1, r2, r3, r4⟩
  · refine wpAny_pyNext_zip_item D hz hTI hTO h1 h2 hl1 hl2 ex ey fun h' a1 a2 a3 a4 a5 a6 hk => ?_
    exact hQ h' ⟨hk _ _ D.TIz D.TITO D.TIi1 D.TIi2 hTI, a3, a4, hl1.at fun o e => hk _ o D.l1z D.l1TO D.l1i1 D.l1i2 e, hl2.at fun o e => hk _ o D.l2z D.l2TO D.l2i1 D.l2i2 e,
      .inr ⟨s.heap.objs.size, false, _, a1, a5, lt hz, n1, n2, Nat.ne_of_gt hS⟩⟩ a5 a6 hk
  · refine wpAny_pyNext_zip_item_held D hz hT hTI h1 h2 hl1 hl2 ex ey fun h' a1 a3 a4 a5 a6 hk => ?_
    exact hQ h' ⟨hk _ _ D.TIz D.TIi1 D.TIi2 hTI, a3, a4, hl1.at fun o e => hk _ o D.l1z D.l1i1 D.l1i2 e, hl2.at fun o e => hk _ o D.l2z D.l2i1 D.l2i2 e,
      .inr ⟨T, true, oT, a1, hk _ _ r1 r2 r3 hT, r1, r2, r3, r4⟩⟩ a5 a6 fun c o h1 _ h3 h4 e => hk c o h1 h3 h4 e
theorem z_done {i : Nat} {Q : Option Value → Shared → Prop} (hh : A.handled = none) (D : ZipApart z TI TO i1 i2 l1 l2) (st : ZSt s.heap z TI TO i1 i2 l1 l2 S xs ys i) (hend : xs[i]? = none ∨ ys[i]? = none)
    (hQ : ∀ h', (∀ c o, c ≠ z → c ≠ TO → c ≠ i1 → c ≠ i2 → s.heap.get? c = some o → h'.get? c = some o) → Q none { s with heap := h' }) : wpAny (model prog w) A (pyNext (.ref z)) Q E s := by
  obtain ⟨hTI, h1, h2, hl1, hl2, hz⟩ := st
  rcases hz with ⟨hz, a, b, hTO⟩ | ⟨T, f, oT, hz, hT, r1, r2, r3, r4⟩
  · exact wpAny_pyNext_zip_end hh D hz hTI hTO h1 h2 hl1 hl2 hend fun h' hk => hQ h' hk
  · exact wpAny_pyNext_zip_end_held hh D hz hT hTI h1 h2 hl1 hl2 hend fun h' hk => hQ h' fun c o h1 _ h3 h4 e => hk c o h1 h3 h4 e
theorem z_loop {R : Result → Shared → Prop} (hh : A.handled = none) (D : ZipApart z TI TO i1 i2 l1 l2) (hS : z < S ∧ TI < S ∧ TO < S ∧ i1 < S ∧ i2 < S ∧ l1 < S ∧ l2 < S) (hn : min xs.size ys.size ≤ sizeLine) (res : Value) {h₁ : Heap}
    (hR : ∀ h' tk acc c as, (∀ b o, b ≠ S → b ≠ z → b ≠ TO → b ≠ i1 → b ≠ i2 → h₁.get? b = some o → h'.get? b = some o) → h'.get? S = some { cls := .type "list", dict := none, data := .seq acc c, slots := #[] } → as.length = min xs.size ys.size → ZG xs ys S h' as →
      acc.toList = as.map Value.ref → R (.ok (.ret res)) { s with heap := h', toks := tk }) :
    ∀ (k i : Nat) (h : Heap) (tk c : Nat) (acc : Array Value) (as : List Addr), min xs.size ys.size - i = k → i ≤ min xs.size ys.size → ZSt h z TI TO i1 i2 l1 l2 S xs ys i → (∀ b o, b ≠ S → b ≠ z → b ≠ TO → b ≠ i1 → b ≠ i2 → h₁.get? b = some o → h.get? b = some o) →
      h.get? S = some { cls := .type "list", dict := none, data := .seq acc c, slots := #[] } → acc.toList = as.map Value.ref → as.length = i → ZG xs ys S h as →
      codeAny (model prog w) A (.builtin "list.extend.loop" ⟨[.ref S, .ref z, res], []⟩) R { s with heap := h, toks := tk } := by
  obtain ⟨b1, b2, b3, b4, b5, b6, b7⟩ := hS
  have off : ∀ {a : Addr}, S < a → a ≠ z ∧ a ≠ TO ∧ a ≠ i1 ∧ a ≠ i2 := fun {a} h => ⟨Nat.ne_of_gt (Nat.lt_trans b1 h), Nat.ne_of_gt (Nat.lt_trans b3 h), Nat.ne_of_gt (Nat.lt_trans b4 h), Nat.ne_of_gt (Nat.lt_trans b5 h)⟩
  have oS : S ≠ z ∧ S ≠ TO ∧ S ≠ i1 ∧ S ≠ i2 := ⟨Nat.ne_of_gt b1, Nat.ne_of_gt b3, Nat.ne_of_gt b4, Nat.ne_of_gt b5⟩
  intro k
  induction k with
  | zero =>
    intro i h tk c acc as hk hi st hkeep hS hacc hal hG
    refine codeAny_builtin PySem.F.entry_extend_loop ?_
    rw [Around.under_plainId PySem.F.plain_extend_loop _]
    show wpAny _ A.in1 (pyNext (.ref z) >>= _) _ _ _
    have hend : xs[i]? = none ∨ ys[i]? = none := by
      rcases Nat.le_total xs.size ys.size with q | q
      · exact .inl (Array.getElem?_eq_none (by rw [Nat.min_eq_left q] at hk hi; omega))
      · exact .inr (Array.getElem?_eq_none (by rw [Nat.min_eq_right q] at hk hi; omega))
    refine wpAny_bind (z_done (s := { s with heap := h, toks := tk }) (A := A.in1) hh D st hend fun h' he => ?_)
    refine wpAny_pure (hR h' tk acc c as (fun b o h1 h2 h3 h4 h5 e => he b o h2 h3 h4 h5 (hkeep b o h1 h2 h3 h4 h5 e)) (he S _ oS.1 oS.2.1 oS.2.2.1 oS.2.2.2 hS) (by omega) ⟨hG.rise, hG.above, fun j a hj => ?_⟩ hacc)
    obtain ⟨x, y, e1, e2, e3⟩ := hG.pairs j a hj
    have o := off (hG.above a (List.mem_of_getElem? hj))
    exact ⟨x, y, e1, e2, he a _ o.1 o.2.1 o.2.2.1 o.2.2.2 e3⟩
  | succ k ih =>
    intro i h tk c acc as hk hi st hkeep hS hacc hal hG
    have hlt : i < min xs.size ys.size := by omega
    have hx := Array.getElem?_eq_getElem (Nat.lt_of_lt_of_le hlt (Nat.min_le_left xs.size ys.size))
    have hy := Array.getElem?_eq_getElem (Nat.lt_of_lt_of_le hlt (Nat.min_le_right xs.size ys.size))
    have hsz : acc.size = i := by rw [← Array.length_toList, hacc, List.length_map, hal]
    have hSl : S < h.objs.size := Heap.lt_size hS
    refine codeAny_builtin PySem.F.entry_extend_loop ?_
    rw [Around.under_plainId PySem.F.plain_extend_loop _]
    show wpAny _ A.in1 (pyNext (.ref z) >>= _) _ _ _
    refine wpAny_bind (z_item (s := { s with heap := h, toks := tk }) D st hSl hx hy fun h' st' ht hz hkp => ?_)
    dsimp only at ht hz hkp ⊢
    have hS' := hkp S _ oS.1 oS.2.1 oS.2.2.1 oS.2.2.2 hS
    have up : ∀ b o, b ≠ S → h'.get? b = some o → (h'.update S (Obj.mapSeq (·.push (Value.ref h.objs.size)))).get? b = some o := fun b o hb e => (Heap.get?_update_other _ _ (Ne.symm hb)).trans e
    show wpAny _ A.in1 (updateSeq S (·.push (Value.ref h.objs.size)) >>= _) _ _ _
    refine wpAny_bind ?_
    refine wpAny_updateSeq hS' rfl (wpAny_pure ⟨plainId_quiet PySem.F.plain_extend_loop _, ih (i + 1) _ tk _ (acc.push (Value.ref h.objs.size)) (as ++ [h.objs.size]) (by omega) hlt (st'.keep ⟨Nat.ne_of_lt b1, Nat.ne_of_lt b2, Nat.ne_of_lt b3, Nat.ne_of_lt b4, Nat.ne_of_lt b5, Nat.ne_of_lt b6, Nat.ne_of_lt b7⟩ up)
      (fun b o h1 h2 h3 h4 h5 e => up b o h1 (hkp b o h2 h3 h4 h5 (hkeep b o h1 h2 h3 h4 h5 e))) (Heap.get?_update_self _ hS' rfl) (by rw [Array.toList_push, hacc, List.map_append]; rfl) (by rw [List.length_append, hal]; rfl) ⟨?_, ?_, ?_⟩⟩) (by rw [hsz]; omega) (by show (acc.push (Value.ref h.objs.size)).size ≤ sizeLine + 1; rw [Array.size_push, hsz]; omega)
    · refine List.pairwise_append.mpr ⟨hG.rise, List.pairwise_singleton _ _, fun a ha b hb => ?_⟩
      rw [List.mem_singleton.mp hb]
      obtain ⟨j, hj⟩ := List.mem_iff_getElem?.mp ha
      obtain ⟨_, _, _, _, e⟩ := hG.pairs j a hj
      exact Heap.lt_size e
    · intro a ha
      rcases List.mem_append.mp ha with ha | ha
      · exact hG.above a ha
      · rw [List.mem_singleton.mp ha]; exact hSl
    · intro j b hj
      rcases Nat.lt_trichotomy j as.length with h1 | h1 | h1
      · rw [List.getElem?_append_left h1] at hj
        obtain ⟨x', y', e1, e2, e3⟩ := hG.pairs j b hj
        have hb := hG.above b (List.mem_of_getElem? hj)
        have o := off hb
        exact ⟨x', y', e1, e2, up b _ (Nat.ne_of_gt hb) (hkp b _ o.1 o.2.1 o.2.2.1 o.2.2.2 e3)⟩
      · subst h1
        have hb : h.objs.size = b := by simpa using hj
        subst hb
        exact ⟨_, _, by rw [hal]; exact hx, by rw [hal]; exact hy, up _ _ (Nat.ne_of_gt hSl) ht⟩
      · have hnone : (as ++ [h.objs.size])[j]? = none := List.getElem?_eq_none (by rw [List.length_append, List.length_singleton]; omega)
        rw [hnone] at hj; cases hj
/-- list(z) -/
theorem z_call {Q : Value → Shared → Prop} (hh : A.handled = none) (D : ZipApart z TI TO i1 i2 l1 l2) (hz : IsZip s.heap z TI TO .none) (hTI : IsPair s.heap TI (.ref i1) (.ref i2)) (hTO : ∃ a b, IsPair s.heap TO a b) (h1 : s.heap.IsListIter i1 l1 0) (h2 : s.heap.IsListIter i2 l2 0) (hl1 : s.heap.IsList l1 xs) (hl2 : s.heap.IsList l2 ys) (hn : min xs.size ys.size ≤ sizeLine)
    (hQ : ∀ h' tk acc c as, (∀ b o, b ≠ z → b ≠ TO → b ≠ i1 → b ≠ i2 → s.heap.get? b = some o → h'.get? b = some o) → h'.get? s.heap.objs.size = some { cls := .type "list", dict := none, data := .seq acc c, slots := #[] } → as.length = min xs.size ys.size → ZG xs ys s.heap.objs.size h' as →
      acc.toList = as.map Value.ref → Q (.ref s.heap.objs.size) { s with heap := h', toks := tk }) :
    wpAny (model prog w) A (call (.type "list") [.ref z]) Q E s := by
  have lz : z < s.heap.objs.size := Heap.lt_size hz
  have lTI : TI < s.heap.objs.size := Heap.lt_size hTI
  have lTO : TO < s.heap.objs.size := let ⟨_, _, e⟩ := hTO; Heap.lt_size e
  have li1 : i1 < s.heap.objs.size := let ⟨_, e, _⟩ := h1; Heap.lt_size e
  have li2 : i2 < s.heap.objs.size := let ⟨_, e, _⟩ := h2; Heap.lt_size e
  have ll1 : l1 < s.heap.objs.size := let ⟨_, e, _⟩ := hl1; Heap.lt_size e
  have ll2 : l2 < s.heap.objs.size := let ⟨_, e, _⟩ := hl2; Heap.lt_size e
  have hSz : s.heap.objs.size ≠ z := Nat.ne_of_gt lz
  refine callType_codes (Q₁ := fun obj s₁ => obj = .ref s.heap.objs.size ∧ s₁ = { s with heap := s.heap.push { cls := .type "list", data := .seq #[] } }) F.called_list (F.typeCall_list_1 _) F.entry_list_init
    (code_list_new _ ⟨rfl, rfl⟩) fun obj s₁ h₁ => ?_
  obtain ⟨rfl, rfl⟩ := h₁
  have hS : (s.heap.push { cls := .type "list", data := .seq #[] }).get? s.heap.objs.size = some { cls := .type "list", data := .seq #[] } := Heap.get?_push_size _ rfl
  refine ⟨⟨_, hS, rfl⟩, F.args_list_init_2 _ _, ?_⟩
  show wpAny _ A.in1.in1 (do let old ← Builtin.List.listItems (.ref s.heap.objs.size); Builtin.List.listUpdate (.ref s.heap.objs.size) (fun _ => #[]); letGo old.toList.reverse; Builtin.List.listExtendWith (.ref s.heap.objs.size) (.ref z) .none) _ _ _
  refine wpAny_bind ?_
  unfold Builtin.List.listItems
  refine wpAny_bind (wpAny_seqItems hS rfl (wpAny_pure ?_))
  show wpAny _ A.in1.in1 (updateSeq s.heap.objs.size (fun _ => #[]) >>= fun _ => letGo (#[] : Array Value).toList.reverse >>= fun _ => Builtin.List.listExtendWith (.ref s.heap.objs.size) (.ref z) .none) _ _ _
  refine wpAny_bind (wpAny_updateSeq hS rfl ?_)
  have hS2 := Heap.get?_update_self (Obj.mapSeq (fun _ => (#[] : Array Value))) hS rfl
  refine wpAny_bind (wpAny_letGo ?_)
  unfold Builtin.List.listExtendWith
  have up : ∀ (h : Heap) (f : Obj → Obj), (∀ b o, s.heap.get? b = some o → h.get? b = some o) → ∀ b o, s.heap.get? b = some o → (h.update s.heap.objs.size f).get? b = some o := fun h f q b o e =>
    (Heap.get?_update_other _ _ (Ne.symm (Nat.ne_of_lt (Heap.lt_size e)))).trans (q b o e)
  have k1 : ∀ b o, s.heap.get? b = some o → (s.heap.push { cls := .type "list", data := .seq #[] }).get? b = some o := fun b o e => Heap.get?_push_of_some _ e
  have k2 := up _ (Obj.mapSeq (fun _ => (#[] : Array Value))) k1
  have gty : ∀ {h : Heap} {t : Nat}, (∀ b o, s.heap.get? b = some o → h.get? b = some o) → Shared.TypeIs { s with heap := h, toks := t } (.ref z) "zip" := fun {h t} q => ⟨_, q _ _ hz, rfl⟩
  refine wpAny_bind (wpAny_typeOf (gty k2) ?_)
  have e1 : Builtin.List.listSameRef (.ref s.heap.objs.size) (.ref z) = false := by simp [Builtin.List.listSameRef, hSz]
  have e2 : (Value.type "zip" == Value.type "list") = false := by decide
  have e3 : (Value.type "zip" == Value.type "tuple") = false := by decide
  simp only [e1, e2, e3, Bool.or_false, Bool.false_eq_true, if_false]
  refine wpAny_bind (wpAny_pyIter_zip (k2 _ _ hz) ?_)
  refine wpAny_bind (wpAny_holding ?_)
  unfold Builtin.List.listLengthHint
  refine wpAny_bind (wpAny_specialOf (gty k2) zip_no_len ?_)
  show wpAny _ A.in1.in1 (specialOf (Value.ref z) (Str.ofString "__length_hint__") >>= _) _ _ _
  refine wpAny_bind (wpAny_specialOf (gty k2) zip_no_hint ?_)
  refine wpAny_pure ?_
  show wpAny _ A.in1.in1 (rule "list.extend.makes-room" >>= fun _ => Builtin.List.listTouch (.ref s.heap.objs.size) >>= fun _ =>
    again (.builtin "list.extend.loop" ⟨[.ref s.heap.objs.size, .ref z, .none], []⟩)) _ _ _
  refine wpAny_bind (wpAny_rule ?_)
  refine wpAny_bind ?_
  show wpAny _ A.in1.in1 (updateSeq s.heap.objs.size (·.push .none) >>= fun _ => updateSeq s.heap.objs.size (·.pop)) _ _ _
  refine wpAny_bind (wpAny_updateSeq hS2 rfl ?_)
  have hS3 := Heap.get?_update_self (Obj.mapSeq (·.push Value.none)) hS2 rfl
  refine wpAny_updateSeq (hz := by seq_fits) hS3 rfl ?_
  have hS4 := Heap.get?_update_self (Obj.mapSeq (·.pop)) hS3 rfl
  have k4 := up _ (Obj.mapSeq (·.pop)) (up _ (Obj.mapSeq (·.push Value.none)) k2)
  refine wpAny_pure ⟨plainId_quiet F.plain_extend_loop _, ?_⟩
  have st0 : ZSt ((((s.heap.push { cls := .type "list", data := .seq #[] }).update s.heap.objs.size (Obj.mapSeq fun _ => (#[] : Array Value))).update s.heap.objs.size (Obj.mapSeq (·.push Value.none))).update s.heap.objs.size (Obj.mapSeq (·.pop))) z TI TO i1 i2 l1 l2 s.heap.objs.size xs ys 0 :=
    ⟨k4 _ _ hTI, h1.at fun o e => k4 _ o e, h2.at fun o e => k4 _ o e, hl1.at fun o e => k4 _ o e, hl2.at fun o e => k4 _ o e, .inl ⟨k4 _ _ hz, let ⟨a, b, e⟩ := hTO; ⟨a, b, k4 _ _ e⟩⟩⟩
  refine z_loop (A := A.in1) (s := s) (h₁ := s.heap) hh D ⟨lz, lTI, lTO, li1, li2, ll1, ll2⟩ hn .none (fun h' tk acc c as hk hS' hl hG hacc => ⟨rfl, hQ h' tk acc c as (fun b o q1 q2 q3 q4 e => hk b o (Nat.ne_of_lt (Heap.lt_size e)) q1 q2 q3 q4 e) hS' hl hG hacc⟩)
    (min xs.size ys.size) 0 _ _ _ #[] [] (Nat.sub_zero _) (Nat.zero_le _) st0 (fun b o _ _ _ _ _ e => k4 b o e) hS4 rfl rfl ⟨List.Pairwise.nil, (fun _ ha => nomatch ha), (fun j a hj => by simp at hj)⟩
end
end PD
namespace PD
open PySem PySem.Spec PyProof.Rows L2 PySem.W
/-- the tuples tracked at their addresses -/
def putZ : Hp → List Addr → List (V × V) → Hp
  | H, a :: as, p :: ps => putZ (upd H a (.tup [p.1, p.2])) as ps
  | H, _, _ => H
theorem putZ_off {b : Addr} : ∀ (as : List Addr) (ps : List (V × V)) (H : Hp), b ∉ as → putZ H as ps b = H b
  | [], _, _, _ => rfl
  | _ :: _, [], _, _ => rfl
  | a :: as, p :: ps, H, h => by
    show putZ (upd H a (.tup [p.1, p.2])) as ps b = H b
    rw [putZ_off as ps _ (fun z => h (List.mem_cons_of_mem _ z)), upd_ne (fun z => h (by rw [z]; exact List.mem_cons_self))]
theorem putZ_at : ∀ (as : List Addr) (ps : List (V × V)) (H : Hp), as.length = ps.length → as.Nodup → Paired (fun (t : Addr) (p : V × V) => putZ H as ps t = some (.tup [p.1, p.2])) as ps
  | [], [], _, _, _ => .nil
  | [], _ :: _, _, h, _ => by cases h
  | _ :: _, [], _, h, _ => by cases h
  | a :: as, p :: ps, H, h, hn => by
    have hn' := List.nodup_cons.mp hn
    refine .cons ?_ (putZ_at as ps (upd H a (.tup [p.1, p.2])) (Nat.succ.inj h) hn'.2)
    show putZ (upd H a (.tup [p.1, p.2])) as ps a = some (.tup [p.1, p.2])
    rw [putZ_off as ps _ hn'.1, upd_same]
def tZL (K : PySem.W.Frag) (ta : TA) : TE := fun σ H Q => ta σ H fun vs H1 => ∃ a b xs ys, vs = [.ref a, .ref b] ∧ SqL K H1 a xs ∧ SqL K H1 b ys ∧ min xs.length ys.length ≤ sizeLine ∧
  ∀ (H' : Hp) (p : Addr) (ts : List Addr), (∀ b o, H1 b = some o → H' b = some o) → H1 p = none → (∀ t ∈ ts, H1 t = none) → p ∉ ts → ts.Nodup → H' p = some (.lst (ts.map V.ref)) → Paired (fun (t : Addr) (q : V × V) => H' t = some (.tup [q.1, q.2])) ts (xs.zip ys) → (∀ b, b ∉ ts → b ≠ p → H' b = H1 b) → Q (.ref p) H'
section
variable {X : Cx} {e e2 : Expr} {ta : TA} {p p2 cpos pos : Pos}
theorem zip_laid {pins : List (Addr × Obj)} {σ : L2.St} {H : Hp} {s : Shared} {h' : Heap} {tk : Nat} {ps : List (V × V)} {its its2 : List Value} {acc : Array Value} {c : Nat} {as : List Addr} {S : Addr} (I : Inv X pins σ H s) (hS0 : s.heap.objs.size ≤ S) (hz : ps.length ≤ sizeLine)
    (hk : ∀ b o, s.heap.get? b = some o → h'.get? b = some o) (hS : h'.get? S = some { cls := .type "list", dict := none, data := .seq acc c, slots := #[] }) (hl : as.length = ps.length) (hG : ZG its.toArray its2.toArray S h' as) (hacc : acc.toList = as.map Value.ref)
    (hv : ∀ (j : Nat) (q : V × V), ps[j]? = some q → ∃ u u2, its[j]? = some u ∧ its2[j]? = some u2 ∧ L2.RelV q.1 u ∧ L2.RelV q.2 u2) :
    ∃ H' : Hp, (∀ b o, H b = some o → H' b = some o) ∧ H S = none ∧ (∀ t ∈ as, H t = none) ∧ S ∉ as ∧ as.Nodup ∧ H' S = some (.lst (as.map V.ref)) ∧ Paired (fun (t : Addr) (q : V × V) => H' t = some (.tup [q.1, q.2])) as ps ∧ (∀ b, b ∉ as → b ≠ S → H' b = H b) ∧ Inv X pins σ H' { s with heap := h', toks := tk } := by
  have hSn : S ∉ as := fun z => Nat.lt_irrefl _ (hG.above _ z)
  have nd : as.Nodup := List.Pairwise.imp (fun {a b} (h : a < b) => Nat.ne_of_lt h) hG.rise
  have up : ∀ t ∈ as, s.heap.objs.size ≤ t := fun t ht => Nat.le_trans hS0 (Nat.le_of_lt (hG.above t ht))
  have new : ∀ t ∈ as, H t = none := fun t ht => I.hok.fresh (up t ht)
  have newS : H S = none := I.hok.fresh hS0
  have atP := putZ_at as ps (upd H S (.lst (as.map V.ref))) hl nd
  have off : ∀ b, b ∉ as → b ≠ S → putZ (upd H S (.lst (as.map V.ref))) as ps b = H b := fun b h1 h2 => by rw [putZ_off as ps _ h1, upd_ne h2]
  have low : ∀ b o, s.heap.get? b = some o → b ∉ as ∧ b ≠ S := fun b o e => ⟨fun z => absurd (Heap.lt_size e) (Nat.not_lt.mpr (up b z)), Nat.ne_of_lt (Nat.lt_of_lt_of_le (Heap.lt_size e) hS0)⟩
  have kp : ∀ b u, H b = some u → (putZ (upd H S (.lst (as.map V.ref))) as ps) b = some u := fun b u e => by
    rw [off b (fun z => by rw [new b z] at e; cases e) (fun z => by rw [z, newS] at e; cases e)]
    exact e
  have eS : putZ (upd H S (.lst (as.map V.ref))) as ps S = some (.lst (as.map V.ref)) := by rw [putZ_off as ps _ hSn, upd_same]
  refine ⟨putZ (upd H S (.lst (as.map V.ref))) as ps, kp, newS, new, hSn, nd, eS, atP, off, ?_⟩
  refine I.call' (ch := []) rfl ⟨fun b o q _ _ _ => hk b o q, fun b o q _ _ _ => ⟨o.slots, hk b o q⟩, fun b o q n _ => ?_, fun b o q _ => ⟨o, hk b o q⟩, fun b xs q => kp b _ q, fun b o u q => kp b _ q, fun b ps q => ⟨#[], by rw [kp b _ q]; simp⟩⟩ (fun b u q => ?_) I.bare fun b z => by simp at z
  · obtain ⟨z1, z2⟩ := low b o q
    rw [off b z1 z2]
    exact n
  · by_cases hb : b ∈ as
    · obtain ⟨j, pk, e1, e2, e3⟩ := LiI.paired_ix atP hb
      rw [e3] at q
      cases q
      obtain ⟨x, y, f1, f2, f3⟩ := hG.pairs j b e1
      obtain ⟨u, u2, g1, g2, g3, g4⟩ := hv j pk e2
      rw [List.getElem?_toArray, g1] at f1
      rw [List.getElem?_toArray, g2] at f2
      cases f1
      cases f2
      exact ⟨by show 2 ≤ sizeLine; decide, [x, y], .cons g3 (.cons g4 .nil), ⟨_, f3, rfl, _, rfl⟩⟩
    · by_cases hb2 : b = S
      · rw [hb2] at q ⊢
        rw [eS] at q
        cases q
        refine ⟨by rw [List.length_map]; omega, acc.toList, c, by rw [hacc]; exact LiI.vals_refs as, ?_⟩
        rw [Array.toArray_toList]
        exact hS
      · rw [off b hb hb2] at q
        exact (I.hok b u q).stay (fun d v _ y => hk d v y) (fun d y => kp d _ y) fun d xs y => kp d _ y
/-- list(zip(a, b)) -/
theorem pe_listZip (hc : X.calm = true) (hg : Gl X "list") (hm : X.mg "list" = none) (hg2 : Gl X "zip") (hm2 : X.mg "zip" = none) (ha : PA X [e, e2] ta)
    (hs : starEach [e, e2] X.env = (false, eval e X.env) :: starEach [e2] X.env) (hpl : (backTo cpos (starEach [e2] X.env)).any (·.1) = false)
    (hs2 : starEach [.Call (.Name "zip" p2) [e, e2] [] cpos] X.env = (false, eval (.Call (.Name "zip" p2) [e, e2] [] cpos) X.env) :: starEach [] X.env := by rfl) :
    PE X (.Call (.Name "list" p) [.Call (.Name "zip" p2) [e, e2] [] cpos] [] pos) (tZL X.K ta) := by
  refine ⟨fun pins s σ H Q I h => ?_⟩
  refine wpAny_Call_Name_kw (ld_blt I hg hm (by decide +kernel : bootBuiltins "list" = some (.type "list")) ?_)
  refine PyProof.Rows.callWith_type1 ?_ hs2 rfl
  rw [hs2]
  show wpAny _ _ (spliced ((false, eval (.Call (.Name "zip" p2) [e, e2] [] cpos) X.env) :: backTo pos (starEach [] X.env))) _ _ s
  refine Calls.spliced_cons ?_
  refine wpAny_Call_Name_kw (ld_blt I hg2 hm2 PyProof.Rows.boot_zip (PyProof.Rows.callWith_type1 (thn (ha.run cpos pins s σ H _ I h) fun us s1 ⟨vs, H1, I1, r1, q1⟩ => ?_) hs hpl))
  obtain ⟨a, b, xs, ys, ex, hqx, hqy, hmn, q⟩ := q1
  subst ex
  cases r1 with
  | cons r rr =>
    cases rr with
    | cons r' rr =>
      cases rr
      cases r
      cases r'
      obtain ⟨its, rv, p1, _⟩ := I1.list hqx
      obtain ⟨its2, rv2, p2, _⟩ := I1.list hqy
      have la : a < s1.heap.objs.size := p1.lt
      have lb : b < s1.heap.objs.size := p2.lt
      refine call_zip_2 p1.isList p2.isList fun h' hz hTI hTO h1 h2 hsz hk => ?_
      refine Calls.spliced_nil ?_
      have lx : its.toArray.size = xs.length := by simp [rv.length]
      have ly : its2.toArray.size = ys.length := by simp [rv2.length]
      have ez : its.length = xs.length := rv.length.symm
      have ez2 : its2.length = ys.length := rv2.length.symm
      have low : ∀ {b o}, s1.heap.get? b = some o → b ≠ s1.heap.objs.size + 4 ∧ b ≠ s1.heap.objs.size + 3 ∧ b ≠ s1.heap.objs.size ∧ b ≠ s1.heap.objs.size + 1 := fun {b o} e =>
        have w := Heap.lt_size e
        ⟨Nat.ne_of_lt (Nat.lt_add_right 4 w), Nat.ne_of_lt (Nat.lt_add_right 3 w), Nat.ne_of_lt w, Nat.ne_of_lt (Nat.lt_add_right 1 w)⟩
      refine z_call (s := { s1 with heap := h' }) (I1.ok.hd hc) (PySem.W.ktu_apart s1.heap.objs.size a b la lb) hz hTI ⟨_, _, hTO⟩ h1 h2 (p1.isList.at fun o e => hk _ o e) (p2.isList.at fun o e => hk _ o e) (by rw [lx, ly]; exact hmn) fun h2 tk acc c as hk2 hS hl hG hacc => ?_
      have hkk : ∀ b o, s1.heap.get? b = some o → h2.get? b = some o := fun b o e => let ⟨n1, n2, n3, n4⟩ := low e; hk2 b o n1 n2 n3 n4 (hk b o e)
      have hsz' : s1.heap.objs.size ≤ h'.objs.size := by rw [hsz]; omega
      obtain ⟨H', k1, k2, k3, k4, k5, k6, k7, k8, J⟩ := zip_laid (tk := tk) (ps := xs.zip ys) (its := its) (its2 := its2) I1 hsz' (by rw [List.length_zip]; exact hmn) hkk hS (by rw [hl, List.length_zip, lx, ly]) hG hacc (fun j q hj => by
        obtain ⟨e1, e2⟩ := List.getElem?_zip_eq_some.mp hj
        obtain ⟨u, hu, ru⟩ := rv.get e1
        obtain ⟨u2, hu2, ru2⟩ := rv2.get e2
        exact ⟨u, u2, hu, hu2, ru, ru2⟩)
      exact ⟨.ref _, H', J, rfl, q H' _ as k1 k2 k3 k4 k5 k6 k7 k8⟩
end
end PD
namespace PD
open PySem PySem.Spec PyProof.Rows L2
section
variable {K : PySem.W.Frag} {α α' : Al} {h : Hh} {H H' : Hp}
/-- a new list becomes a cell -/
theorem StepF.cell {q : Addr} {ds : List D} {vs : List V} (r0 : HR K α h H) {h' : Hh} (s : StepF K α H α' H' q) (r : HR K α' h' H') (e : H' q = some (.lst vs)) (rs : Reps K α' H' ds vs) :
    Step K α H { α' with c := α'.c ++ [q], o := α.o } H' ∧ HR K { α' with c := α'.c ++ [q], o := α.o } (h' ++ [.lst ds]) H' ∧ Rep K { α' with c := α'.c ++ [q], o := α.o } H' (.ref h'.length) (.ref q) := by
  have fr := r0.fresh s.q0
  have mq : q ∈ α'.o := by rw [s.ho]; exact List.mem_cons_self ..
  have qc : q ∉ α'.c := fun z => (r.dis q z).1 mq
  have sub : ∀ a, a ∈ α.o → a ∈ α'.o := fun a z => by rw [s.ho]; exact List.mem_cons_of_mem _ z
  have ex : Ext K α' H' { α' with c := α'.c ++ [q], o := α.o } H' := ⟨⟨[q], rfl⟩, fun _ _ z => z, fun _ _ z => z, fun a xs e1 h1 h2 h3 => ⟨e1, fun z => by
    rcases List.mem_append.mp z with z | z
    · exact h1 z
    · rw [List.mem_singleton] at z
      subst z
      exact h2 mq, fun z => h2 (sub a z), h3⟩⟩
  refine ⟨.of ?_ s.tup s.ro rfl s.hb ?_ s.frm, ⟨?_, ?_, ?_, ?_, ?_⟩, .ref ?_⟩
  · obtain ⟨β, eb⟩ := s.pre
    exact ⟨β ++ [q], by rw [eb, List.append_assoc]⟩
  · intro a ha
    rcases List.mem_append.mp ha with z | z
    · exact s.new a z
    · rw [List.mem_singleton] at z
      subst z
      exact .inr s.q0
  · simp [r.len]
  · rw [List.nodup_append]
    refine ⟨r.nd, by simp, fun a ha b hb => ?_⟩
    rw [List.mem_singleton] at hb
    subst hb
    exact fun z => qc (z ▸ ha)
  · intro a ha
    rcases List.mem_append.mp ha with z | z
    · exact ⟨fun y => (r.dis a z).1 (sub a y), (r.dis a z).2⟩
    · rw [List.mem_singleton] at z
      subst z
      exact ⟨fr.2.1, by show a ∉ α'.b; rw [s.hb]; exact fr.2.2⟩
  · intro a ha
    exact r.al a (ha.imp (sub a) id)
  · intro n a o ha ho
    by_cases hn : n < α'.c.length
    · rw [List.getElem?_append_left hn] at ha
      rw [List.getElem?_append_left (by rw [← r.len]; exact hn)] at ho
      exact (r.obj n a o ha ho).mono ex fun _ e => e
    · have hn' : n = α'.c.length := by
        have := (List.getElem?_eq_some_iff.mp ha).1
        rw [List.length_append, List.length_singleton] at this
        omega
      subst hn'
      rw [List.getElem?_append_right (Nat.le_refl _), Nat.sub_self] at ha
      rw [r.len, List.getElem?_append_right (Nat.le_refl _), Nat.sub_self] at ho
      cases ha
      cases ho
      exact ⟨vs, e, rs.monoE ex⟩
  · show (α'.c ++ [q])[h'.length]? = some q
    rw [← r.len, List.getElem?_append_right (Nat.le_refl _), Nat.sub_self]
    rfl
end
section
variable {Γ : Wd} {X : Cx} {W : WX} {pos p : Pos}
theorem de_newL {e : Expr} {g : En → Hh → R (List D)} (he : DF Γ X W e g) : DE Γ X W e (fun en h => bnd (g en h) fun ds h1 => .ok (.ref h1.length) (h1 ++ [.lst ds])) := by
  obtain ⟨t, pt, k⟩ := he.ex
  refine ⟨t, pt, fun α h H en σ Q hr er p => k _ _ _ _ _ _ hr er ?_⟩
  cases q : g en h with
  | ok ds h1 =>
    rw [q] at p
    intro α' H' a vs st hr' e rs
    obtain ⟨s1, s2, s3⟩ := st.cell hr hr' e rs
    exact p _ _ _ s1 s2 s3
  | exc c x h1 => rw [q] at p; exact p
  | bad => rw [q] at p; exact p
/-- o.pop(..) of a cell -/
theorem de_popR {o e : Expr} {es : List Expr} {apos cpos : Pos} {f : En → Hh → R D} {g : En → Hh → R (List D)} (hK : X.K = Γ.K) (hb : attributeBase o "pop" X.env (eval o X.env) = eval o X.env) (hl : (apos.endLine == cpos.line) = true)
    (hs : (e :: es).any star = false) (hn : (e :: es).length < 30) (ho : DE Γ X W o f) (ha : DA Γ X W (e :: es) g) :
    DE Γ X W (.Call (.Attribute o "pop" apos) (e :: es) [] cpos) (fun en h => bnd (f en h) fun x h1 => optR (cellOf x h1) fun n => bnd (g en h1) fun ds h2 => popH n ds h2) := by
  obtain ⟨t, pt, k⟩ := ho.ex
  obtain ⟨u, pu, l⟩ := ha.ex
  have hs' := hs
  rw [List.any_cons, Bool.or_eq_false_iff] at hs'
  have few : ((backTo cpos (starEach (e :: es) X.env)).all (fun x => !x.1) && (backToKw cpos (keywordEach [] X.env)).all (fun x => x.1.isSome) && decide ((e :: es).length + ([] : List Keyword).length + (if ([] : List Keyword).isEmpty then 0 else 1) < 30)) = true := by
    have h1 : (backTo cpos (starEach (e :: es) X.env)).all (fun x => !x.1) = true := by
      have := starEach_any (pos := cpos) (env := X.env) hs
      rw [List.any_eq_false] at this
      rw [List.all_eq_true]
      exact fun x hx => by
        have := this x hx
        simpa using this
    rw [h1]
    show (true && true && decide ((e :: es).length + 0 + 0 < 30)) = true
    simpa using hn
  refine ⟨_, pe_bm PySem.F.plainAttrs_list (me_slot .pop) (me_ty .pop) (me_mt .pop) pt pu hb few hl (starEach_cons hs'.1) (starEach_any hs'.2), fun α h H en σ Q hr er p => k _ _ _ _ _ _ hr er (p.bnd fun d h1 α1 H1 v st1 hr1 r1 p1 => ?_)⟩
  obtain ⟨n, en', p1⟩ := Pst.opt p1
  cases d <;> first | (cases en'; done) | skip
  rename_i m
  simp only [cellOf, Option.map_eq_some_iff] at en'
  obtain ⟨xs, e1, rfl⟩ := en'
  cases r1 with | ref han =>
  rename_i a
  obtain ⟨ws, e2, w2⟩ := hr1.lst han (lstOf_some e1)
  refine ⟨.inl ⟨rfl, _, SqL.of e2⟩, l _ _ _ _ _ _ hr1 (er.mono st1) (p1.bnd fun ds h2 α2 H2 vs st2 hr2 r2 p2 => ?_)⟩
  obtain ⟨q, e3, p3⟩ := Pst.opt p2
  obtain ⟨ys, e4, e5⟩ := Option.bind_eq_some_iff.mp e3
  have han2 := st2.toExt.at han
  obtain ⟨zs, e6, w6⟩ := hr2.lst han2 (lstOf_some e4)
  refine me_own e6 w6 r2 e5 fun ws' yv rr1 rr2 => ?_
  have sm := List.mem_of_getElem? han2
  have st3 : Step Γ.K α2 H2 α2 (upd H2 a (.lst ws')) := Step.set e6 sm
  exact p3 _ _ _ st3 (hr2.set han2 e6 rr1) (rr2.mono st3)
theorem sqT_grow {K : PySem.W.Frag} {H H' : Hp} (k1 : ∀ b o, H b = some o → H' b = some o) {a : Addr} {xs : List V} (s : SqT K H a xs) : SqT K H' a xs := by
  rcases s with (s | ⟨u, s⟩) | s
  · exact .inl (.inl (k1 _ _ s))
  · exact .inl (.inr ⟨u, k1 _ _ s⟩)
  · exact .inr s
theorem ro_grow {K : PySem.W.Frag} {H H' : Hp} (k1 : ∀ b o, H b = some o → H' b = some o) {a : Addr} {xs : List V} (s : RoL K H a xs) : RoL K H' a xs := by
  rcases s with ⟨u, s⟩ | s
  · exact .inl ⟨u, k1 _ _ s⟩
  · exact .inr s
theorem zip_reps {K : PySem.W.Frag} {α : Al} {H : Hp} : ∀ {ts : List Addr} {ds es : List D} {xs ys : List V}, Reps K α H ds xs → Reps K α H es ys → Paired (fun (t : Addr) (q : V × V) => H t = some (.tup [q.1, q.2])) ts (xs.zip ys) → Reps K α H (zipD ds es) (ts.map V.ref)
  | [], _, _, _, _, .nil, _, _ => by
    cases ‹List D› <;> exact .nil
  | t :: ts, _, _, _, _, .nil, _, h => by simp at h; cases h
  | [], _, _, _, _, .cons _ _, .nil, _ => .nil
  | t :: ts, _, _, _, _, .cons _ _, .nil, h => by simp at h; cases h
  | [], _, _, _, _, .cons _ _, .cons _ _, h => by cases h
  | t :: ts, _, _, _, _, .cons r1 rs1, .cons r2 rs2, h => by
    cases h with
    | cons h1 h2 => exact .cons (.tup (SqT.of h1) (.cons r1 (.cons r2 .nil))) (zip_reps rs1 rs2 h2)
/-- list(zip(a, b)) of lists -/
theorem df_lzip {a b : Expr} {p2 cpos : Pos} {f g : En → Hh → R D} (hK : X.K = Γ.K) (hc : X.calm = true) (hg : Gl X "list") (hm : X.mg "list" = none) (hg2 : Gl X "zip") (hm2 : X.mg "zip" = none) (hs : star a = false) (hs2 : star b = false) (ha : DE Γ X W a f) (hb : DE Γ X W b g) :
    DF Γ X W (.Call (.Name "list" p) [.Call (.Name "zip" p2) [a, b] [] cpos] [] pos) (fun en h => bnd (f en h) fun x h1 => bnd (g en h1) fun y h2 => zipL x y h2) := by
  obtain ⟨t, pt, k⟩ := ha.ex
  obtain ⟨u, pu, l⟩ := hb.ex
  refine ⟨_, pe_listZip hc hg hm hg2 hm2 (pa_cons pt (pa_cons pu pa_nil (starEach_cons hs2)) (starEach_cons hs)) (starEach_cons hs) (starEach_any (es := [b]) (by simp [hs2])), fun α h H en σ Q hr er p => ?_⟩
  refine k _ _ _ _ _ _ hr er (p.bnd fun d h1 α1 H1 v st1 hr1 r1 p1 => ?_)
  refine l _ _ _ _ _ _ hr1 (er.mono st1) (p1.bnd fun y h2 α2 H2 v2 st2 hr2 r2 p2 => ?_)
  have r1' := r1.mono st2
  obtain ⟨xs, e1, p3⟩ := PstF.opt p2
  obtain ⟨ys, e2, p4⟩ := PstF.opt p3
  obtain ⟨a1, vs, rfl, s1, w1⟩ := hr2.seq r1' e1
  obtain ⟨a2, ws, rfl, s2, w2⟩ := hr2.seq r2 e2
  by_cases c : min xs.length ys.length ≤ sizeLine
  · rw [if_pos c] at p4
    refine ⟨a1, a2, vs, ws, rfl, by rw [hK]; exact s1, by rw [hK]; exact s2, by rw [← w1.length, ← w2.length]; exact c, fun H' q ts k1 k2 k3 k4 k5 k6 k7 k8 => ?_⟩
    obtain ⟨fq, q2, q3⟩ := hr2.fresh k2
    have ex : Ext Γ.K α2 H2 { α2 with o := q :: α2.o } H' := ⟨⟨[], by simp⟩, fun _ _ z => sqT_grow k1 z, fun _ _ z => ro_grow k1 z, fun a xs e h1 h2 h3 => ⟨k1 _ _ e, h1, fun z => by
      rcases List.mem_cons.mp z with rfl | z
      · rw [k2] at e; cases e
      · exact h2 z, h3⟩⟩
    have sf : StepF Γ.K α2 H2 { α2 with o := q :: α2.o } H' q := .of ⟨[], by simp⟩ (fun _ _ z => sqT_grow k1 z) (fun _ _ z => ro_grow k1 z) rfl rfl k2 (fun _ z => .inl z) fun a o _ e => k1 _ _ e
    have hrn : HR Γ.K { α2 with o := q :: α2.o } h2 H' := by
      refine ⟨hr2.len, hr2.nd, fun a ha => ⟨fun z => ?_, (hr2.dis a ha).2⟩, fun a ha => ?_, fun n a o ha ho => (hr2.obj n a o ha ho).mono ex fun o' e => k1 _ _ e⟩
      · rcases List.mem_cons.mp z with rfl | z
        · exact fq ha
        · exact (hr2.dis a ha).1 z
      · by_cases z : a = q
        · rw [z, k6]; exact fun q => nomatch q
        · have := hr2.al a (ha.imp (fun y => (List.mem_cons.mp y).resolve_left z) id)
          cases e : H2 a with
          | none => exact absurd e this
          | some o => rw [k1 _ _ e]; exact fun q => nomatch q
    exact p4 _ _ _ _ sf hrn k6 (zip_reps (w1.monoE ex) (w2.monoE ex) k7)
  · rw [if_neg c] at p4; exact False.elim p4
/-- over a cell, by numbers -/
theorem ds_forCe {a : Expr} {elts : List Expr} {kk : Nat} {tpos p pos pos' : Pos} {b : List Stmt} {sl : List Nat} {f : En → Hh → R D} {G : D → En → Hh → R En} {F : En → Hh → RS} (hK : X.K = Γ.K) (hp : PassesOwn (model X.prog X.w) X.A X.env X.xe) (hc : X.calm = true) (hfs : ∀ x, foldedSetIterable (.Call (.Name "enumerate" p) [a] [] pos) X.env x = pure x)
    (hg : Gl X "enumerate") (hm : X.mg "enumerate" = none) (hs : star a = false) (ha : DE Γ X W a f) (hG : DG Γ X (.Tuple elts kk tpos) sl G) (hb : DSs Γ X W b F) :
    DS Γ X W (.For (.Tuple elts kk tpos) (.Call (.Name "enumerate" p) [a] [] pos) b [] pos') (fun en h => bndS (f en h) en (forCx true G F en)) := by
  obtain ⟨z, pz, n⟩ := ha.ex
  obtain ⟨u, pu, l⟩ := hG.ex
  obtain ⟨t, pt, k⟩ := hb.ex
  refine ⟨_, ps_for hp hc (pi_enumK hg hm (pa_cons pz pa_nil (starEach_cons hs)) (starEach_cons hs)) pu pt hfs, fun α h H en σ Dn hr er p => n _ _ _ _ _ _ hr er (PstS.bnd p er fun d h1 α1 H1 v st1 hr1 r1 p1 => ?_)⟩
  unfold forCx at p1
  cases d <;> first | (exact False.elim p1) | skip
  rename_i m
  cases en' : lstOf h1 m with
  | none => simp only [cellOf, en', Option.map_none] at p1; exact False.elim p1
  | some xs =>
  simp only [cellOf, en', Option.map_some, Option.getD_some] at p1
  cases r1 with | ref han =>
  rename_i a'
  obtain ⟨ws, e2, w2⟩ := hr1.lst han (lstOf_some en')
  rw [hK]
  refine ⟨false, a', ws, rfl, SqL.of e2, ?_⟩
  refine ⟨fun i m' σ' H' => ∃ α' h' en', Stp Γ.K α1 H1 α' H' ∧ HR Γ.K α' h' H' ∧ ER Γ α' H' en' σ' ∧ PstS Γ α' H' (forCL true m G F m' i en' h') Dn W, ⟨xs.length + 1, α1, h1, en, Stp.refl, hr1, er.mono st1, p1⟩, ?_⟩
  rintro i m' σ' H' ⟨α', h', en', st', hr', er', p'⟩
  cases m' with
  | zero => exact False.elim p'
  | succ m' =>
  unfold forCL at p'
  have han' := st'.toExt.at han
  cases e3 : lstOf h' m with
  | none => rw [e3] at p'; exact False.elim p'
  | some ys =>
  rw [e3] at p'
  obtain ⟨vs, e4, w4⟩ := hr'.lst han' (lstOf_some e3)
  dsimp only at p'
  cases e5 : ys[i]? with
  | none =>
    rw [e5] at p'
    dsimp only at p'
    by_cases c : i ≤ ys.length
    · rw [if_pos c] at p'
      have := List.getElem?_eq_none_iff.mp e5
      exact .inl ⟨⟨vs, SqL.of e4, by rw [← w4.length]; omega⟩, p' _ _ _ Stp.refl hr' er'⟩
    · rw [if_neg c] at p'; exact False.elim p'
  | some d =>
    rw [e5] at p'
    dsimp only at p'
    rw [if_pos rfl] at p'
    obtain ⟨v', ev', rv'⟩ := w4.get e5
    refine .inr ⟨⟨vs, v', SqL.of e4, ev'⟩, fun σ2 H2 => ∃ α' h' en', Stp Γ.K α1 H1 α' H2 ∧ HR Γ.K α' h' H2 ∧ ER Γ α' H2 en' σ2 ∧ PstS Γ α' H2 (forCL true m G F m' (i + 1) en' h') Dn W, fun σ2 H2 q => ⟨m', Nat.lt_succ_self m', q⟩, fun x Hx hy => ?_⟩
    obtain ⟨T, z, rfl, hT, rfl, fx⟩ := hy
    have := fx vs (SqL.of e4)
    rw [ev'] at this
    cases this
    have sx := Step.other (K := Γ.K) (α := α') (o := .tup [.int (i : Nat), v']) hT
    have px := PstS.step sx.stp p'
    refine l _ _ _ _ _ _ _ _ (hr'.other hT) (er'.mono sx) (.tup (SqT.of upd_same) (.cons (.int _) (.cons (rv'.mono sx) .nil))) ?_
    cases q : noExc (G (.tup [.int (i : Nat), d]) en' h') with
    | ok en3 h3 =>
      rw [q] at px
      intro α3 H3 σ3 st3 hr3 r3
      exact k _ _ _ _ _ _ hr3 r3.1 (loop_post (PstS.step st3.stp px) fun en4 h4 α4 H4 σ4 st4 hr4 er4 p4 => ⟨α4, h4, en4, ((st'.trans sx.stp).trans st3.stp).trans st4, hr4, er4, p4⟩)
    | exc c x h2 =>
      exfalso
      revert q
      cases G (.tup [.int (i : Nat), d]) en' h' <;> intro q <;> cases q
    | bad => rw [q] at px; exact px
/-- over a cell -/
theorem ds_forCs {tg a : Expr} {pos' : Pos} {b : List Stmt} {sl : List Nat} {f : En → Hh → R D} {G : D → En → Hh → R En} {F : En → Hh → RS} (hK : X.K = Γ.K) (hp : PassesOwn (model X.prog X.w) X.A X.env X.xe) (hc : X.calm = true) (hfs : ∀ x, foldedSetIterable a X.env x = pure x)
    (ha : DE Γ X W a f) (hG : DG Γ X tg sl G) (hb : DSs Γ X W b F) :
    DS Γ X W (.For tg a b [] pos') (fun en h => bndS (f en h) en (forCx false G F en)) := by
  obtain ⟨z, pz, n⟩ := ha.ex
  obtain ⟨u, pu, l⟩ := hG.ex
  obtain ⟨t, pt, k⟩ := hb.ex
  refine ⟨_, ps_for hp hc (pi_seq pz) pu pt hfs, fun α h H en σ Dn hr er p => n _ _ _ _ _ _ hr er (PstS.bnd p er fun d h1 α1 H1 v st1 hr1 r1 p1 => ?_)⟩
  unfold forCx at p1
  cases d <;> first | (exact False.elim p1) | skip
  rename_i m
  cases en' : lstOf h1 m with
  | none => simp only [cellOf, en', Option.map_none] at p1; exact False.elim p1
  | some xs =>
  simp only [cellOf, en', Option.map_some, Option.getD_some] at p1
  cases r1 with | ref han =>
  rename_i a'
  obtain ⟨ws, e2, w2⟩ := hr1.lst han (lstOf_some en')
  rw [hK]
  refine ⟨a', rfl, .inl ⟨⟨ws, SqL.of e2⟩, ?_⟩⟩
  refine ⟨fun i m' σ' H' => ∃ α' h' en', Stp Γ.K α1 H1 α' H' ∧ HR Γ.K α' h' H' ∧ ER Γ α' H' en' σ' ∧ PstS Γ α' H' (forCL false m G F m' i en' h') Dn W, ⟨xs.length + 1, α1, h1, en, Stp.refl, hr1, er.mono st1, p1⟩, ?_⟩
  rintro i m' σ' H' ⟨α', h', en', st', hr', er', p'⟩
  cases m' with
  | zero => exact False.elim p'
  | succ m' =>
  unfold forCL at p'
  have han' := st'.toExt.at han
  cases e3 : lstOf h' m with
  | none => rw [e3] at p'; exact False.elim p'
  | some ys =>
  rw [e3] at p'
  obtain ⟨vs, e4, w4⟩ := hr'.lst han' (lstOf_some e3)
  dsimp only at p'
  cases e5 : ys[i]? with
  | none =>
    rw [e5] at p'
    dsimp only at p'
    by_cases c : i ≤ ys.length
    · rw [if_pos c] at p'
      have := List.getElem?_eq_none_iff.mp e5
      exact .inl ⟨⟨vs, SqL.of e4, by rw [← w4.length]; omega⟩, p' _ _ _ Stp.refl hr' er'⟩
    · rw [if_neg c] at p'; exact False.elim p'
  | some d =>
    rw [e5] at p'
    dsimp only at p'
    rw [if_neg (by decide)] at p'
    obtain ⟨v', ev', rv'⟩ := w4.get e5
    refine .inr ⟨⟨vs, v', SqL.of e4, ev'⟩, fun σ2 H2 => ∃ α' h' en', Stp Γ.K α1 H1 α' H2 ∧ HR Γ.K α' h' H2 ∧ ER Γ α' H2 en' σ2 ∧ PstS Γ α' H2 (forCL false m G F m' (i + 1) en' h') Dn W, fun σ2 H2 q => ⟨m', Nat.lt_succ_self m', q⟩, fun x Hx hy => ?_⟩
    obtain ⟨rfl, fx⟩ := hy
    have := fx vs (SqL.of e4)
    rw [ev'] at this
    cases this
    refine l _ _ _ _ _ _ _ _ hr' er' rv' ?_
    cases q : noExc (G d en' h') with
    | ok en3 h3 =>
      rw [q] at p'
      intro α3 H3 σ3 st3 hr3 r3
      exact k _ _ _ _ _ _ hr3 r3.1 (loop_post (PstS.step st3.stp p') fun en4 h4 α4 H4 σ4 st4 hr4 er4 p4 => ⟨α4, h4, en4, (st'.trans st3.stp).trans st4, hr4, er4, p4⟩)
    | exc c x h2 =>
      exfalso
      revert q
      cases G d en' h' <;> intro q <;> cases q
    | bad => rw [q] at p'; exact p'
end
end PD

set_option Elab.async false
set_option linter.all false
set_option maxRecDepth 100000
set_option maxHeartbeats 2000000
/-! The text becomes our language; what is said of the latter holds of the former. -/
namespace PD
open PySem PySem.Spec PyProof.Rows L2
def ixOf : List Str → Str → Option Nat
  | [], _ => none
  | y :: ys, x => if y = x then some 0 else (ixOf ys x).map (· + 1)
theorem ixOf_get : ∀ {N : List Str} {x : Str} {i : Nat}, ixOf N x = some i → N[i]? = some x
  | [], _, _, h => by cases h
  | y :: ys, x, i, h => by
    unfold ixOf at h
    by_cases e : y = x
    · rw [if_pos e] at h
      cases h
      simp [e]
    · rw [if_neg e] at h
      cases q : ixOf ys x with
      | none => rw [q] at h; cases h
      | some j =>
        rw [q] at h
        cases h
        simpa using ixOf_get q
/-- cls: classes of own errors: id, those that lie below, the others; rz: those that are raised -/
structure GT where
  fns : List (Str × Nat × Bool)
  cons : List (Str × D)
  cls : List (Str × Nat × List Nat × List Nat) := []
  rz : List (Str × Nat) := []
  kws : List (Str × List ((Nat × List Str) × List Nat)) := []
/-- of one def: slots of lists that it writes; by lines, slots that are not written from there on; whether it returns a new object of the heap, a new list -/
structure An where
  bs : List Nat
  fz : List (Nat × List Nat)
  nw : Bool
  ow : Bool
  ln : List (Nat × Nat) := []
  nl : Bool := false
  cs : List Nat := []
/-- where nothing is kept of a name's value -/
def bw (an : An) (e : Expr) (t : Ex) : Ex := match e with
  | .Name _ _ => (match t with
    | .var i => if an.bs.contains i = true then .bor i else t
    | t => t)
  | _ => t
def exs : List Ex → Exs
  | [] => .nil
  | e :: es => .cons e (exs es)
def odd (x : Str) : Bool := x == ("__debug__" : Str) || x == ("__classdict__" : Str)
def trName (g : GT) (N : List Str) (sc : Scope) (x : Str) : Ex :=
  if odd x = true then .bad else match sc.names.lookup x with
  | some .local | some .cell | some .free => match ixOf N x with
    | some i => .var i
    | none => .bad
  | some .globalImplicit => match g.cons.lookup x with
    | some d => .con d
    | none => .bad
  | _ => .bad
def trC : Const → Ex
  | .int i => .con (.int i)
  | .bool b => .con (.bl b)
  | .str s => .con (.str s)
  | .none => .con .non
  | _ => .bad
def trB (op : BoolOp) : List Ex → Ex
  | [] => .bad
  | [a] => a
  | a :: r => match op with
    | .And => .and a (trB op r)
    | .Or => .or a (trB op r)
def biOf (x : Str) : Option Bi := [Bi.len, .abs, .int, .list, .tuple, .all, .any, .sum, .repr].find? fun b => decide (biName b = x)
theorem biOf_name {x : Str} {b : Bi} (h : biOf x = some b) : biName b = x := by
  have := List.find?_some (p := fun b => decide (biName b = x)) h
  exact of_decide_eq_true this
def tyOf (x : Str) : Option Ty := [Ty.int, .bool, .str, .tuple, .list, .dict].find? fun b => decide (Str.ofString (tyName b) = x)
theorem tyOf_name {x : Str} {b : Ty} (h : tyOf x = some b) : Str.ofString (tyName b) = x := by
  have := List.find?_some (p := fun b => decide (Str.ofString (tyName b) = x)) h
  exact of_decide_eq_true this
def meOf (x : Str) : Option Me := [Me.append, .extend, .insert, .pop].find? fun b => decide (meName b = x)
theorem meOf_name {x : Str} {b : Me} (h : meOf x = some b) : meName b = x := by
  have := List.find?_some (p := fun b => decide (meName b = x)) h
  exact of_decide_eq_true this
def isGl (sc : Scope) (x : Str) : Bool := decide (sc.names.lookup x = some .globalImplicit) && !(x == ("__debug__" : Str))
/-- the classes of a tuple of classes -/
def tysOf (sc : Scope) : List Expr → Option (List Ty)
  | [] => some []
  | .Name T _ :: r => if isGl sc T = true then match tyOf T, tysOf sc r with
      | some t, some ts => some (t :: ts)
      | _, _ => none
    else none
  | _ => none
/-- what a method may be asked of -/
def plainO : Expr → Bool
  | .Name .. => true
  | .Subscript .. => true
  | _ => false
def unstar : Expr → Expr
  | .Starred e _ => e
  | e => e
/-- isinstance(.., T) -/
def trIsi (sc : Scope) (f : Str) (b : Expr) (e : Ex) : Ex := match b with
  | .Name T _ => if decide (f = "isinstance") && isGl sc T then match tyOf T with
      | some t => .isi e t
      | none => .bad
    else .bad
  | .Tuple cs _ _ => if decide (f = "isinstance") then match tysOf sc cs with
      | some ts => if ts.length ≤ 30 then .isis e ts else .bad
      | none => .bad
    else .bad
  | _ => .bad
def mmOf (f : Str) : Option Bool := if f = "max" then some true else if f = "min" then some false else none
theorem mmOf_name {f : Str} {b : Bool} (h : mmOf f = some b) : f = mmName b := by
  unfold mmOf at h
  split at h
  · cases h; assumption
  · split at h
    · cases h; assumption
    · cases h
def trCall (g : GT) (an : An) (sc : Scope) (f : Str) (args : List Expr) (ts : List Ex) : Ex :=
  if isGl sc f = false ∨ args.any star = true then .bad else match g.fns.lookup f with
  | some (i, false) => .call i (exs ts)
  | some (i, true) => .callO i (exs ts)
  | none => match args, ts with
    | [a], [e] => match biOf f with
      | some b => .bi b (bw an a e)
      | none => .bad
    | [_, b], [e, e2] => (match mmOf f with
      | some k => .mm k e e2
      | none => trIsi sc f b e)
    | _, _ => .bad
/-- a call with keywords -/
def trKw (g : GT) (sc : Scope) (f : Str) (args : List Expr) (kws : List Keyword) (ts us : List Ex) : Ex :=
  if isGl sc f = false ∨ args.any star = true then .bad else match g.fns.lookup f, g.kws.lookup f, kwNames kws with
  | some (i, false), some l, some ks => match l.lookup (args.length, ks) with
    | some π => .callK i π (exs ts) (exs us)
    | none => .bad
  | _, _, _ => .bad
/-- sorted(set(a)): a -/
def srtArg (sc : Scope) (f : Str) : List Expr → Option Expr
  | [.Call (.Name s _) [a] [] _] => if f = ("sorted" : Str) ∧ s = ("set" : Str) ∧ isGl sc f = true ∧ isGl sc s = true ∧ star a = false then some a else none
  | _ => none
def trSrt (o : Option Expr) (tr : Expr → Ex) (t : Ex) : Ex := match o with
  | some a => .srt (tr a)
  | none => t
/-- list(zip(a, b)) -/
def zipArgs (sc : Scope) (f : Str) : List Expr → Option (Expr × Expr)
  | [.Call (.Name z _) [a, b] [] _] => if f = ("list" : Str) ∧ z = ("zip" : Str) ∧ isGl sc f = true ∧ isGl sc z = true ∧ star a = false ∧ star b = false then some (a, b) else none
  | _ => none
def trZp (o : Option (Expr × Expr)) (tr : Expr → Ex) (t : Ex) : Ex := match o with
  | some p => .lzip (tr p.1) (tr p.2)
  | none => t
/-- a def whose lists by list() are cells -/
def trNew (an : An) (f : Str) (t : Ex) : Ex := if an.nl = true ∧ f = ("list" : Str) then .newL t else t
/-- o.pop(..) of a cell -/
def popOk : Expr → Bool
  | .Name _ _ => true
  | .Subscript _ _ _ => true
  | _ => false
def popC (o : Expr) (nm : Str) (apos cpos : Pos) (es : List Expr) : Bool := decide (nm = ("pop" : Str)) && popOk o && (apos.endLine == cpos.line) && !es.any star && decide (es.length < 30)
def trPop (b : Bool) (o : Ex) (es : Exs) : Ex := if b = true then .popR o es else .bad
def isSlice : Expr → Bool
  | .Slice .. => true
  | _ => false
def isSet : Expr → Bool
  | .Set .. => true
  | _ => false
def isTuple : Expr → Bool
  | .Tuple .. => true
  | _ => false
def isComp : Expr → Bool
  | .ListComp .. => true
  | .SetComp .. => true
  | .DictComp .. => true
  | _ => false
def ownOf (N : List Str) (scope : Scope) : List (Str × Nat) := N.zipIdx.filterMap fun p => match scope.names.lookup p.1 with
  | some .local => some p
  | some .cell => some p
  | _ => none
def tgs : List Tg → Tgs
  | [] => .nil
  | t :: ts => .cons t (tgs ts)
mutual
def slots : Tg → List Nat
  | .name i => [i]
  | .tup ts => slotss ts
  | .sub _ _ => []
  | .dsub _ _ => []
def slotss : Tgs → List Nat
  | .nil => []
  | .cons t ts => slots t ++ slotss ts
end
def badT : Tg := .tup (.cons (.sub .bad .bad) .nil)
def trT (g : GT) (N : List Str) (tr : Expr → Ex) : Nat → Scope → Scope → Expr → Tg
  | 0, _, _, _ => .sub .bad .bad
  | n + 1, sc0, sc, e => match e with
    | .Name x _ => match ixOf N x with
      | some i => if sc.names.lookup x = some .local ∨ (sc.names.lookup x = some .cell ∧ sc0.names.lookup x = some .cell) then .name i else .sub .bad .bad
      | none => .sub .bad .bad
    | .Tuple es _ _ => if es.any star = true then .sub .bad .bad else .tup (tgs (es.map (trT g N tr n sc0 sc)))
    | .Subscript o (.Constant (.str k) _ _) _ => .dsub (tr o) k
    | .Subscript o i _ => if isSlice i = true then .sub .bad .bad else .sub (tr o) (tr i)
    | _ => .sub .bad .bad
def trI (tg : Expr) (sc : Scope) (tr : Expr → Ex) (e : Expr) : Ix :=
  match e with
  | .Call (.Name f _) [a] [] _ => if star a = true then .seq .bad else if decide (f = "range") && isGl sc f then .rng1 (tr a) else if decide (f = "enumerate") && isGl sc f && isTuple tg then .enum (tr a) else if decide (f = "reversed") && isGl sc f then .rev (tr a) else .seq (tr e)
  | .Call (.Name f _) [a, b] [] _ => if star a = true ∨ star b = true then .seq .bad else if decide (f = "range") && isGl sc f then .rng2 (tr a) (tr b) else if decide (f = "zip") && isGl sc f && isTuple tg then .zip (tr a) (tr b) else .seq (tr e)
  | .Call (.Name f _) [a, b, c] [] _ => if [a, b, c].any star = true then .seq .bad else if decide (f = "range") && isGl sc f then .rng3 (exs ([a, b, c].map tr)) else .seq (tr e)
  | e => .seq (tr e)
/-- two loops -/
def trC2 (N : List Str) (sc scope : Scope) (iter iter1 : Expr) (it it1 : Ix) (t t1 : Tg) (c e : Ex) : Ex :=
  if blkC N sc scope (ownOf N scope) = true ∧ isSet iter = false ∧ isSet iter1 = false ∧ (slots t).all (fun j => ((ownOf N scope).map (·.2)).contains j) = true ∧ (slots t1).all (fun j => ((ownOf N scope).map (·.2)).contains j) = true then
    .comp2 it t it1 t1 c e ((ownOf N scope).map (·.2)) (slots t1) else .bad
/-- a dict of two keys: names stand by them -/
def newDx (k1 k2 : Str) : Ex → Ex → Ex
  | .var i, .var j => .newD k1 k2 i j
  | _, _ => .bad
/-- a starred item keeps nothing of the list itself -/
def stw (an : An) (e : Expr) (t : Ex) : Ex := match e with
  | .Starred e' _ => bw an e' t
  | _ => t
def trE (g : GT) (an : An) (N : List Str) : Nat → Scope → Scope → Expr → Ex
  | 0, _, _, _ => .bad
  | n + 1, sc0, sc, e => match e with
    | .Constant c _ _ => trC c
    | .Name x _ => trName g N sc x
    | .Tuple es _ _ => if es.any star = true then .tupS (es.map star) (exs (es.map fun e => stw an e (trE g an N n sc0 sc (unstar e)))) else .tup (exs (es.map (trE g an N n sc0 sc)))
    | .List es _ => if es.any star = true then .lstS (es.map star) (exs (es.map fun e => stw an e (trE g an N n sc0 sc (unstar e)))) else .lst (exs (es.map (trE g an N n sc0 sc)))
    | .BinOp a op b _ => .bin op (bw an a (trE g an N n sc0 sc a)) (bw an b (trE g an N n sc0 sc b))
    | .UnaryOp .USub a _ => .neg (trE g an N n sc0 sc a)
    | .UnaryOp .Not a _ => .not (trE g an N n sc0 sc a)
    | .BoolOp op es _ => trB op (es.map (trE g an N n sc0 sc))
    | .Compare a [op] [b] _ => if behindInMarks op b = true then .bad else .cmp op (bw an a (trE g an N n sc0 sc a)) (bw an b (trE g an N n sc0 sc b))
    | .Compare a [op, op'] [b, c] _ => if lastMarks [op, op'] [b, c] = true then .bad else .chain op op' (trE g an N n sc0 sc a) (trE g an N n sc0 sc b) (trE g an N n sc0 sc c)
    | .IfExp c a b _ => .ite (trE g an N n sc0 sc c) (trE g an N n sc0 sc a) (trE g an N n sc0 sc b)
    | .Subscript a (.Slice lo hi none _) _ => .sl (bw an a (trE g an N n sc0 sc a)) (match lo with | some l => .some (trE g an N n sc0 sc l) | none => .none) (match hi with | some l => .some (trE g an N n sc0 sc l) | none => .none)
    | .Subscript a (.Slice none none (some st) _) _ => .slS (bw an a (trE g an N n sc0 sc a)) (trE g an N n sc0 sc st)
    | .Subscript a (.Constant (.str k) _ _) _ => .dix (trE g an N n sc0 sc a) k
    | .Subscript a b _ => if isSlice b = true then .bad else .ix (bw an a (trE g an N n sc0 sc a)) (trE g an N n sc0 sc b)
    | .Dict [] [] _ => .emp
    | .Dict [some (.Constant (.str k1) _ _), some (.Constant (.str k2) _ _)] [.Name x y1, .Name y y2] _ => newDx k1 k2 (trE g an N n sc0 sc (.Name x y1)) (trE g an N n sc0 sc (.Name y y2))
    | .Call (.Name f _) args [] _ => trNew an f (trZp (zipArgs sc f args) (trE g an N n sc0 sc) (trSrt (srtArg sc f args) (trE g an N n sc0 sc) (trCall g an sc f args (args.map (trE g an N n sc0 sc)))))
    | .Call (.Attribute o nm apos) (e1 :: es) [] cpos => trPop (popC o nm apos cpos (e1 :: es)) (trE g an N n sc0 sc o) (exs ((e1 :: es).map (trE g an N n sc0 sc)))
    | .Call (.Name f _) args (kw :: kws) _ => trKw g sc f args (kw :: kws) (args.map (trE g an N n sc0 sc)) ((kw :: kws).map fun k => trE g an N n sc0 sc k.value)
    | .ListComp elt [⟨tg, iter, [], 0⟩] scope _ => if blkC N sc scope (ownOf N scope) = true ∧ isSet iter = false ∧ (slots (trT g N (trE g an N n scope (relS scope sc)) n scope (relS scope sc) tg)).all (fun j => ((ownOf N scope).map (·.2)).contains j) = true then
        .comp (trI tg sc (trE g an N n sc0 sc) iter) (trT g N (trE g an N n scope (relS scope sc)) n scope (relS scope sc) tg) (.con (.bl true)) (trE g an N n scope (relS scope sc) elt) ((ownOf N scope).map (·.2)) else .bad
    | .ListComp elt [⟨tg, iter, [c], 0⟩] scope _ => if blkC N sc scope (ownOf N scope) = true ∧ isSet iter = false ∧ (slots (trT g N (trE g an N n scope (relS scope sc)) n scope (relS scope sc) tg)).all (fun j => ((ownOf N scope).map (·.2)).contains j) = true then
        .comp (trI tg sc (trE g an N n sc0 sc) iter) (trT g N (trE g an N n scope (relS scope sc)) n scope (relS scope sc) tg) (trE g an N n scope (relS scope sc) c) (trE g an N n scope (relS scope sc) elt) ((ownOf N scope).map (·.2)) else .bad
    | .ListComp elt [⟨tg, iter, [], 0⟩, ⟨tg1, iter1, [], 0⟩] scope _ => trC2 N sc scope iter iter1 (trI tg sc (trE g an N n sc0 sc) iter) (trI tg1 (relS scope sc) (trE g an N n scope (relS scope sc)) iter1) (trT g N (trE g an N n scope (relS scope sc)) n scope (relS scope sc) tg) (trT g N (trE g an N n scope (relS scope sc)) n scope (relS scope sc) tg1) (.con (.bl true)) (trE g an N n scope (relS scope sc) elt)
    | .ListComp elt [⟨tg, iter, [], 0⟩, ⟨tg1, iter1, [c], 0⟩] scope _ => trC2 N sc scope iter iter1 (trI tg sc (trE g an N n sc0 sc) iter) (trI tg1 (relS scope sc) (trE g an N n scope (relS scope sc)) iter1) (trT g N (trE g an N n scope (relS scope sc)) n scope (relS scope sc) tg) (trT g N (trE g an N n scope (relS scope sc)) n scope (relS scope sc) tg1) (trE g an N n scope (relS scope sc) c) (trE g an N n scope (relS scope sc) elt)
    | _ => .bad
def KwAt (K : PySem.W.Frag) (fd : FuncData) (ps : List Str) : List ((Nat × List Str) × List Nat) → Prop
  | [] => True
  | ((m, ks), π) :: r => KB K fd ps m ks π ∧ KwAt K fd ps r
theorem KwAt.get {K : PySem.W.Frag} {fd : FuncData} {ps : List Str} : ∀ {l : List ((Nat × List Str) × List Nat)} {m : Nat} {ks : List Str} {π : List Nat}, KwAt K fd ps l → l.lookup (m, ks) = some π → KB K fd ps m ks π
  | [], _, _, _, _, h => by cases h
  | ((m', ks'), π') :: r, m, ks, π, a, h => by
    rw [List.lookup_cons] at h
    by_cases q : ((m, ks) == (m', ks')) = true
    · rw [q] at h
      cases h
      have e := eq_of_beq q
      cases e
      exact a.1
    · rw [Bool.eq_false_iff.mpr q] at h
      exact a.2.get h
theorem kw_none {K : PySem.W.Frag} {fd : FuncData} {ps : List Str} {o : Option (List ((Nat × List Str) × List Nat))} {l : List ((Nat × List Str) × List Nat)} (e : o = none) (h : o = some l) : KwAt K fd ps l := by
  rw [e] at h; cases h
theorem kw_some {K : PySem.W.Frag} {fd : FuncData} {ps : List Str} {o : Option (List ((Nat × List Str) × List Nat))} {l l0 : List ((Nat × List Str) × List Nat)} (e : o = some l0) (k : KwAt K fd ps l0) (h : o = some l) : KwAt K fd ps l := by
  rw [e] at h; cases h; exact k
/-! ### what the place of a text must be -/
def bnames : List Str := ["len", "abs", "int", "list", "tuple", "all", "any", "sum", "isinstance", "bool", "str", "dict", "range", "enumerate", "zip", "repr", "reversed", "max", "min", "sorted", "set"]
structure Cok (g : GT) (fs : List Fn) (Γ : Wd) (N : List Str) (k : Nat) (X : Cx) (sc0 sc : Scope) (W : WX) : Prop where
  hN : X.N = N
  nd : N.Nodup
  hsc : X.env.scope = sc
  kind : sc.kind = .function
  hfn : ∀ x, sc0.names.lookup x = some .cell → X.fn x = true
  calm : X.calm = true
  room : Room k X.A
  gd : X.A.guards = some []
  hK : X.K = Γ.K
  cons : ∀ x d, g.cons.lookup x = some d → ∃ u v, X.mg x = some u ∧ RelV v u ∧ ∀ α H, Rep Γ.K α H d v
  bi : ∀ x ∈ bnames, X.mg x = none
  fns : ∀ (i : Nat) (b : Bool) x, g.fns.lookup x = some (i, b) → ∃ f a fd, fget fs i = some f ∧ f.own = b ∧ f.name = x ∧ X.mg x = some (.ref a) ∧ PySem.W.keepIn X.K (.ref a) = true ∧ Binds X.K fd f.ps [] ∧ FnG X.prog X.w X.K X.mg X.base (L2.CX X.prog X.w) k a fd f.ps (spF Γ fs k i f.ps.length f.own) ∧ ∀ l, g.kws.lookup x = some l → KwAt X.K fd f.ps l
  xs : Γ.xs = none
  cls : ∀ x c cs ds, g.cls.lookup x = some (c, cs, ds) → X.mg x = some (.ref (Γ.ca c)) ∧ (∀ c', c' ∈ cs → PySem.W.exmOne X.K (.ref (Γ.ca c')) (.ref (Γ.ca c)) = some true ∧ PySem.W.kitOne X.K (.ref (Γ.ca c')) (.ref (Γ.ca c)) = some true) ∧ (∀ c', c' ∈ ds → PySem.W.exmOne X.K (.ref (Γ.ca c')) (.ref (Γ.ca c)) = some false ∧ PySem.W.kitOne X.K (.ref (Γ.ca c')) (.ref (Γ.ca c)) = some false)
  rz : ∀ x c, g.rz.lookup x = some c → X.mg x = some (.ref (Γ.ca c)) ∧ ∃ fI, PySem.OwnX.OwnTxt X.K (Γ.ca c) fI
  exc : ∀ c, c ∈ g.rz.map (·.2) → XfC X.K (Γ.ca c) ∧ PySem.W.findIn X.K (.ref (Γ.ca c)) "value" = some none ∧ ExC X.K (Γ.ca c)
  tk : Takes X W
section
variable {g : GT} {an : An} {fs : List Fn} {Γ : Wd} {N : List Str} {k : Nat}
theorem Cok.blk {X : Cx} {sc0 sc : Scope} {W : WX} (c : Cok g fs Γ N k X sc0 sc W) (s : Shared) (H : Hp) (scope : Scope) (C : Addr) (cl : List (Str × Addr)) (fp : List Addr) (hk : scope.kind = .function) :
    Cok g fs Γ N k (X.blk s H scope (compEnvC scope cl C X.env) fp) scope (relS scope sc) (fun _ _ _ _ => False) := by
  refine ⟨c.hN, c.nd, ?_, hk, fun x hx => ?_, c.calm, c.room, c.gd, c.hK, c.cons, c.bi, c.fns, c.xs, c.cls, c.rz, c.exc, takes0⟩
  · rw [← c.hsc]
    rfl
  · show (scope.names.lookup x == some NameKind.cell) = true
    rw [hx]
    rfl
theorem Cok.gl {X : Cx} {sc0 sc : Scope} {W : WX} (c : Cok g fs Γ N k X sc0 sc W) {x : Str} (h : isGl sc x = true) : Gl X x ∧ (x == ("__debug__" : Str)) = false := by
  unfold isGl at h
  rw [Bool.and_eq_true] at h
  refine ⟨?_, by simpa using h.2⟩
  show X.env.scope.names.lookup x = _
  rw [c.hsc]
  exact of_decide_eq_true h.1
/-- a value that is no not, and, or, ite: its test is its value's truth -/
def plainX : Ex → Bool
  | .not _ | .and _ _ | .or _ _ | .ite _ _ _ => false
  | _ => true
theorem test_plain {cl : Nat → List D → Hh → R D} {e : Ex} (h : plainX e = true) : test cl e = fun en hh => bnd (ev cl e en hh) toBool := by
  funext en hh
  cases e <;> first | exact Bool.noConfusion h | rfl
theorem plain_name {sc : Scope} {x : Str} : plainX (trName g N sc x) = true := by
  unfold trName
  split
  · rfl
  · split <;> first | rfl | (split <;> rfl)
theorem plain_c {c : Const} : plainX (trC c) = true := by cases c <;> rfl
theorem plain_isi {sc : Scope} {f : Str} {b : Expr} {e : Ex} : plainX (trIsi sc f b e) = true := by
  unfold trIsi
  split
  · split
    · split <;> rfl
    · rfl
  · split
    · split
      · split <;> rfl
      · rfl
    · rfl
  · rfl
theorem plain_call {sc : Scope} {f : Str} {args : List Expr} {ts : List Ex} : plainX (trCall g an sc f args ts) = true := by
  unfold trCall
  split
  · rfl
  · split
    · rfl
    · rfl
    · split
      · split <;> rfl
      · split
        · rfl
        · exact plain_isi
      · rfl
theorem plain_kw {sc : Scope} {f : Str} {args : List Expr} {kws : List Keyword} {ts us : List Ex} : plainX (trKw g sc f args kws ts us) = true := by
  unfold trKw
  split
  · rfl
  · split
    · split <;> rfl
    · rfl
theorem plain_srt {o : Option Expr} {tr : Expr → Ex} {t : Ex} (h : plainX t = true) : plainX (trSrt o tr t) = true := by
  unfold trSrt
  split
  · rfl
  · exact h
theorem plain_zp {o : Option (Expr × Expr)} {tr : Expr → Ex} {t : Ex} (h : plainX t = true) : plainX (trZp o tr t) = true := by
  unfold trZp
  split
  · rfl
  · exact h
theorem plain_new {f : Str} {t : Ex} (h : plainX t = true) : plainX (trNew an f t) = true := by
  unfold trNew
  split
  · rfl
  · exact h
theorem plain_pop {b : Bool} {o : Ex} {es : Exs} : plainX (trPop b o es) = true := by
  unfold trPop
  split <;> rfl
theorem plain_newDx {k1 k2 : Str} {a b : Ex} : plainX (newDx k1 k2 a b) = true := by
  unfold newDx
  split <;> rfl
theorem plain_c2 {sc scope : Scope} {iter iter1 : Expr} {it it1 : Ix} {t t1 : Tg} {c e : Ex} : plainX (trC2 N sc scope iter iter1 it it1 t t1 c e) = true := by
  unfold trC2
  split <;> rfl
end
end PD

set_option Elab.async false
set_option linter.all false
set_option maxRecDepth 100000
set_option maxHeartbeats 2000000
namespace PD
open PySem PySem.Spec PyProof.Rows L2
section
variable {cl : Nat → List D → Hh → R D}
theorem ev_con {d} : ev cl (.con d) = fun _ h => .ok d h := rfl
theorem ev_var {i} : ev cl (.var i) = fun en h => optR (getE en i) fun d => .ok d h := rfl
theorem ev_tup {es} : ev cl (.tup es) = fun en h => bnd (evs cl es en h) fun ds h1 => if ds.length ≤ sizeLine then .ok (.tup ds) h1 else .bad := rfl
theorem ev_bor {i} : ev cl (.bor i) = fun en h => optR (getB en i) fun d => .ok d h := rfl
theorem ev_own {e} : ev cl (.own e) = fun en h => bnd (evf cl e en h) fun ds h1 => .ok (.own ds) h1 := rfl
theorem ev_new {es} : ev cl (.new es) = fun en h => bnd (evs cl es en h) fun ds h1 => if ds.length ≤ sizeLine then .ok (.ref h1.length) (h1 ++ [.lst ds]) else .bad := rfl
theorem ev_lst {es} : ev cl (.lst es) = fun en h => bnd (evf cl (.lst es) en h) fun ds h1 => .ok (.lst ds) h1 := rfl
theorem evf_lst {es} : evf cl (.lst es) = fun en h => bnd (evs cl es en h) fun ds h1 => if ds.length ≤ sizeLine then .ok ds h1 else .bad := rfl
theorem ev_callO {f es} : ev cl (.callO f es) = fun en h => bnd (evf cl (.callO f es) en h) fun ds h1 => .ok (.lst ds) h1 := rfl
theorem evf_callO {f es} : evf cl (.callO f es) = fun en h => bnd (evs cl es en h) fun ds h1 => bnd (cl f ds h1) ownOfD := rfl
theorem evf_list {e} : evf cl (.bi .list e) = fun en h => bnd (ev cl e en h) fun x h1 => optR (itemsOf h1 x) fun ds => .ok ds h1 := rfl
theorem evf_ite {c a b} : evf cl (.ite c a b) = fun en h => bnd (test cl c en h) fun k h1 => if k = true then evf cl a en h1 else evf cl b en h1 := rfl
theorem ev_bin {op a b} : ev cl (.bin op a b) = fun en h => bnd (ev cl a en h) fun x h1 => bnd (ev cl b en h1) fun y h2 => binOp op x y h2 := rfl
theorem ev_neg {a} : ev cl (.neg a) = fun en h => bnd (ev cl a en h) unNeg := rfl
theorem ev_not {a} : ev cl (.not a) = fun en h => bnd (ev cl a en h) fun x h1 => bnd (toBool x h1) fun b h2 => .ok (.bl (!b)) h2 := rfl
theorem ev_cmp {op a b} : ev cl (.cmp op a b) = fun en h => bnd (ev cl a en h) fun x h1 => bnd (ev cl b en h1) fun y h2 => cmpOp op x y h2 := rfl
theorem ev_chain {op op' a b c} : ev cl (.chain op op' a b c) = fun en h => bnd (ev cl a en h) fun x h1 => bnd (ev cl b en h1) fun y h2 => bnd (cmpOp op x y h2) fun z h3 => bnd (toBool z h3) fun k h4 =>
      if k = true then bnd (ev cl c en h4) fun w h5 => cmpOp op' y w h5 else .ok (.bl false) h4 := rfl
theorem ev_and {a b} : ev cl (.and a b) = fun en h => bnd (ev cl a en h) fun x h1 => bnd (toBool x h1) fun k h2 => if k = true then ev cl b en h2 else .ok (.bl false) h2 := rfl
theorem ev_or {a b} : ev cl (.or a b) = fun en h => bnd (ev cl a en h) fun x h1 => bnd (toBool x h1) fun k h2 => if k = true then .ok (.bl true) h2 else ev cl b en h2 := rfl
theorem ev_ite {c a b} : ev cl (.ite c a b) = fun en h => bnd (test cl c en h) fun k h1 => if k = true then ev cl a en h1 else ev cl b en h1 := rfl
theorem ev_call {f es} : ev cl (.call f es) = fun en h => bnd (evs cl es en h) fun ds h1 => cl f ds h1 := rfl
theorem ev_bi {b e} : ev cl (.bi b e) = fun en h => bnd (ev cl e en h) (biOp b) := rfl
theorem ev_isi {e t} : ev cl (.isi e t) = fun en h => bnd (ev cl e en h) fun x h1 => .ok (.bl (isTyH h1 t x)) h1 := rfl
theorem ev_ix {a i} : ev cl (.ix a i) = fun en h => bnd (ev cl a en h) fun x h1 => bnd (ev cl i en h1) fun y h2 => ixOp x y h2 := rfl
theorem ev_sl {a lo hi} : ev cl (.sl a lo hi) = fun en h => bnd (ev cl a en h) fun x h1 => bnd (evo cl lo en h1) fun l h2 => bnd (evo cl hi en h2) fun u h3 => slOp x l u h3 := rfl
theorem ev_comp {it t c e own} : ev cl (.comp it t c e own) = fun en h => bnd (evf cl (.comp it t c e own) en h) fun ds h1 => .ok (.lst ds) h1 := rfl
theorem evf_comp {it t c e own} : evf cl (.comp it t c e own) = fun en h => bnd (evi cl it en h) fun I h1 => if I.length ≤ sizeLine then noExc (compL (fun d h2 => bnd (asgn cl t d (wipeE en own) h2) fun en3 h3 => bnd (test cl c en3 h3) fun k h4 =>
      if k = true then bnd (ev cl e en3 h4) fun y h5 => .ok (some y) h5 else .ok none h4) I h1) else .bad := rfl
theorem ev_comp2 {it t it1 t1 c e own own1} : ev cl (.comp2 it t it1 t1 c e own own1) = fun en h => bnd (evf cl (.comp2 it t it1 t1 c e own own1) en h) fun ds h1 => .ok (.lst ds) h1 := rfl
theorem evf_comp2 {it t it1 t1 c e own own1} : evf cl (.comp2 it t it1 t1 c e own own1) = fun en h => bnd (evi cl it en h) fun I h1 => noExc (comp2L (hd2 (asgn cl t) (evi cl it1) own en) (bd2 (asgn cl t1) (test cl c) (ev cl e) own1) sizeLine I h1) := rfl
theorem ev_isis {e ts} : ev cl (.isis e ts) = fun en h => bnd (ev cl e en h) fun x h1 => .ok (.bl (ts.any fun t => isTyH h1 t x)) h1 := rfl
theorem ev_tupS {fl es} : ev cl (.tupS fl es) = fun en h => bnd (evS cl es fl en h) fun ds h1 => if ds.length ≤ sizeLine then .ok (.tup ds) h1 else .bad := rfl
theorem ev_lstS {fl es} : ev cl (.lstS fl es) = fun en h => bnd (evf cl (.lstS fl es) en h) fun ds h1 => .ok (.lst ds) h1 := rfl
theorem evf_lstS {fl es} : evf cl (.lstS fl es) = fun en h => bnd (evS cl es fl en h) fun ds h1 => if ds.length ≤ sizeLine then .ok ds h1 else .bad := rfl
theorem evS_nil {fl} : evS cl .nil fl = fun _ h => .ok [] h := rfl
theorem evS_star {e es fl} : evS cl (.cons e es) (true :: fl) = fun en h => bnd (ev cl e en h) fun d h1 => optR (itemsOf h1 d) fun xs => bnd (evS cl es fl en h1) fun ds h2 => .ok (xs ++ ds) h2 := rfl
theorem evS_cons {e es fl} : evS cl (.cons e es) (false :: fl) = fun en h => bnd (ev cl e en h) fun d h1 => bnd (evS cl es fl en h1) fun ds h2 => .ok (d :: ds) h2 := rfl
theorem ev_bad : ev cl .bad = fun _ _ => .bad := rfl
theorem evs_nil : evs cl .nil = fun _ h => .ok [] h := rfl
theorem evs_cons {e es} : evs cl (.cons e es) = fun en h => bnd (ev cl e en h) fun d h1 => bnd (evs cl es en h1) fun ds h2 => .ok (d :: ds) h2 := rfl
theorem evo_none : evo cl .none = fun _ h => .ok none h := rfl
theorem evo_some {e} : evo cl (.some e) = fun en h => bnd (ev cl e en h) fun d h1 => bnd (toInt d h1) fun i h2 => .ok (some i) h2 := rfl
theorem test_not {a} : test cl (.not a) = fun en h => bnd (test cl a en h) fun b h1 => .ok (!b) h1 := rfl
theorem test_and {a b} : test cl (.and a b) = fun en h => bnd (test cl a en h) fun k h1 => if k = true then test cl b en h1 else .ok false h1 := rfl
theorem test_or {a b} : test cl (.or a b) = fun en h => bnd (test cl a en h) fun k h1 => if k = true then .ok true h1 else test cl b en h1 := rfl
theorem test_ite {c a b} : test cl (.ite c a b) = fun _ _ => .bad := rfl
theorem test_bad : test cl .bad = fun _ _ => .bad := by rw [test_plain rfl, ev_bad]; rfl
theorem test_true : test cl (.con (.bl true)) = fun _ h => .ok true h := by rw [test_plain rfl, ev_con]; rfl
theorem evi_seq {e} : evi cl (.seq e) = fun en h => bnd (ev cl e en h) seqIt := rfl
theorem evi_rng1 {e} : evi cl (.rng1 e) = fun en h => bnd (ev cl e en h) fun x h1 => rngIt 0 x h1 := rfl
theorem evi_rng2 {a b} : evi cl (.rng2 a b) = fun en h => bnd (ev cl a en h) fun x h1 => bnd (ev cl b en h1) fun y h2 => bnd (toInt x h2) fun lo h3 => rngIt lo y h3 := rfl
theorem evi_rng3 {es} : evi cl (.rng3 es) = fun en h => bnd (evs cl es en h) rngIt3 := rfl
theorem evi_enum {e} : evi cl (.enum e) = fun en h => bnd (ev cl e en h) enumIt := rfl
theorem evi_rev {e} : evi cl (.rev e) = fun en h => bnd (ev cl e en h) revIt := rfl
theorem ev_slS {a b} : ev cl (.slS a b) = fun en h => bnd (ev cl a en h) fun x h1 => bnd (ev cl b en h1) fun y h2 => stOp x y h2 := rfl
theorem evf_add {a b} : evf cl (.bin .Add a b) = fun en h => bnd (ev cl a en h) fun x h1 => bnd (ev cl b en h1) fun y h2 => addF x y h2 := by
  funext en h
  show (if Operator.Add = Operator.Add then (bnd (ev cl a en h) fun x h1 => bnd (ev cl b en h1) fun y h2 => addF x y h2) else .bad) = _
  rw [if_pos rfl]
theorem evf_bin {op a b} (ho : op ≠ .Add) : evf cl (.bin op a b) = fun _ _ => .bad := by
  funext en h
  show (if op = Operator.Add then (bnd (ev cl a en h) fun x h1 => bnd (ev cl b en h1) fun y h2 => addF x y h2) else .bad) = _
  rw [if_neg ho]
theorem ev_srt {e} : ev cl (.srt e) = fun en h => bnd (evf cl (.srt e) en h) fun ds h1 => .ok (.lst ds) h1 := rfl
theorem evf_srt {e} : evf cl (.srt e) = fun en h => bnd (ev cl e en h) fun x h1 => optR ((seqOf h1 x).bind intsOf) fun is => if is.length < 64 then .ok ((sortU is).map .int) h1 else .bad := rfl
theorem ev_mm {k a b} : ev cl (.mm k a b) = fun en h => bnd (ev cl a en h) fun x h1 => bnd (ev cl b en h1) fun y h2 => mmOp k x y h2 := rfl
theorem ev_popR {a es} : ev cl (.popR a es) = fun en h => bnd (ev cl a en h) fun x h1 => optR (cellOf x h1) fun n => bnd (evs cl es en h1) fun ds h2 => popH n ds h2 := rfl
theorem ev_newL {e} : ev cl (.newL e) = fun en h => bnd (evf cl e en h) fun ds h1 => .ok (.ref h1.length) (h1 ++ [.lst ds]) := rfl
theorem ev_lzip {a b} : ev cl (.lzip a b) = fun en h => bnd (evf cl (.lzip a b) en h) fun ds h1 => .ok (.lst ds) h1 := rfl
theorem evf_lzip {a b} : evf cl (.lzip a b) = fun en h => bnd (ev cl a en h) fun x h1 => bnd (ev cl b en h1) fun y h2 => zipL x y h2 := rfl
theorem evf_newL {e} : evf cl (.newL e) = fun _ _ => .bad := rfl
theorem ev_dix {a k} : ev cl (.dix a k) = fun en h => bnd (ev cl a en h) fun x h1 => dGet x k h1 := rfl
theorem ev_newD {k1 k2 i j} : ev cl (.newD k1 k2 i j) = fun en h => optR (getE en i) fun x => optR (getE en j) fun y => if k1 = k2 then .bad else .ok (.ref h.length) (h ++ [.dct [(k1, x), (k2, y)]]) := rfl
theorem asgn_dsub {o k} : asgn cl (.dsub o k) = fun d en h => bnd (ev cl o en h) fun x h1 => bnd (dPut x k d h1) fun _ h2 => .ok en h2 := rfl
theorem ev_callK {f π es ks} : ev cl (.callK f π es ks) = fun en h => bnd (evs cl es en h) fun ds h1 => bnd (evs cl ks en h1) fun zs h2 => if zs.length = π.length then cl f (kwD π ds zs) h2 else .bad := rfl
theorem ev_emp : ev cl .emp = fun _ h => .ok .emp h := rfl
theorem evi_zip {a b} : evi cl (.zip a b) = fun en h => bnd (ev cl a en h) fun x h1 => bnd (ev cl b en h1) fun y h2 => zipIt x y h2 := rfl
theorem asgn_name {i} : asgn cl (.name i) = fun d en h => .ok (en.set i (some d)) h := rfl
theorem asgn_tup {ts} : asgn cl (.tup ts) = fun d en h => match d with | .tup ds => asgns cl ts ds en h | x => optR (seqOf h x) fun ds => asgns cl ts ds en h := by
  funext d en h
  cases d <;> rfl
theorem asgn_sub {o i} : asgn cl (.sub o i) = fun d en h => bnd (ev cl o en h) fun x h1 => bnd (ev cl i en h1) fun y h2 => bnd (setAt x y d h2) fun _ h3 => .ok en h3 := rfl
theorem asgn_bad : asgn cl (.sub .bad .bad) = fun _ _ _ => .bad := by rw [asgn_sub, ev_bad]; rfl
theorem asgns_nil : asgns cl .nil = fun ds en h => match ds with | [] => .ok en h | _ => .bad := by
  funext d en h
  cases d <;> rfl
theorem asgns_cons {t ts} : asgns cl (.cons t ts) = fun ds en h => match ds with | d :: ds => bnd (asgn cl t d en h) fun en1 h1 => asgns cl ts ds en1 h1 | [] => .bad := by
  funext d en h
  cases d <;> rfl
theorem asgns_len : ∀ (ts : List Tg) (ds : List D) (en : En) (h : Hh), ds.length ≠ ts.length → noExc (asgns cl (tgs ts) ds en h) = .bad
  | [], [], _, _, hl => absurd rfl hl
  | [], d :: ds, en, h, _ => by
    show noExc (asgns cl .nil (d :: ds) en h) = .bad
    rw [asgns_nil]
    rfl
  | t :: ts, [], en, h, _ => by
    show noExc (asgns cl (.cons t (tgs ts)) [] en h) = .bad
    rw [asgns_cons]
    rfl
  | t :: ts, d :: ds, en, h, hl => by
    show noExc (asgns cl (.cons t (tgs ts)) (d :: ds) en h) = .bad
    rw [asgns_cons]
    dsimp only
    rw [noExc_bnd]
    cases e : asgn cl t d en h with
    | ok en1 h1 => exact asgns_len ts ds en1 h1 fun z => hl (by rw [List.length_cons, List.length_cons, z])
    | exc c x h1 => rfl
    | bad => rfl
end
section
variable {g : GT} {an : An} {fs : List Fn} {Γ : Wd} {N : List Str} {k : Nat} {X : Cx} {W : WX}
abbrev Both (fs : List Fn) (Γ : Wd) (k : Nat) (X : Cx) (W : WX) (e : Expr) (t : Ex) : Prop := DE Γ X W e (ev (callF fs k) t) ∧ DT Γ X W e (test (callF fs k) t) ∧ DF Γ X W e (evf (callF fs k) t)
theorem bad2 {e : Expr} : Both fs Γ k X W e .bad := ⟨by rw [ev_bad]; exact de_bad, by rw [test_bad]; exact dt_bad, df_bad⟩
/-- no new list -/
def noF : Ex → Bool
  | .lst _ | .lstS _ _ | .comp _ _ _ _ _ | .comp2 _ _ _ _ _ _ _ _ | .callO _ _ | .bi .list _ | .ite _ _ _ | .srt _ | .lzip _ _ | .bin _ _ _ => false
  | _ => true
theorem evf_no {cl : Nat → List D → Hh → R D} {t : Ex} (h : noF t = true) : evf cl t = fun _ _ => .bad := by
  cases t <;> first | exact Bool.noConfusion h | rfl | skip
  rename_i b e
  cases b <;> first | exact Bool.noConfusion h | rfl
theorem df_no {e : Expr} {t : Ex} (h : noF t = true) : DF Γ X W e (evf (callF fs k) t) := by rw [evf_no h]; exact df_bad
theorem both_plain {e : Expr} {t : Ex} (h : DE Γ X W e (ev (callF fs k) t)) (hp : plainX t = true) (hi : ∀ whole, isTrue e X.env whole = (do let v ← whole; standAt e.pos; holding [v] (truthy v))) (hf : DF Γ X W e (evf (callF fs k) t)) : Both fs Γ k X W e t :=
  ⟨h, by rw [test_plain hp]; exact dt_val h hi, hf⟩
theorem sound_args {tr : Expr → Ex} (ih : ∀ e, DE Γ X W e (ev (callF fs k) (tr e))) : ∀ {es : List Expr}, es.any star = false → DA Γ X W es (evs (callF fs k) (exs (es.map tr)))
  | [], _ => by
    show DA Γ X W [] (evs _ .nil)
    rw [evs_nil]
    exact da_nil
  | e :: es, h => by
    rw [List.any_cons, Bool.or_eq_false_iff] at h
    show DA Γ X W (e :: es) (evs _ (.cons (tr e) (exs (es.map tr))))
    rw [evs_cons]
    exact da_cons h.1 (ih e) (sound_args ih h.2)
theorem sound_bw {sc0 sc : Scope} {e : Expr} {t : Ex} (c : Cok g fs Γ N k X sc0 sc W) (h : DE Γ X W e (ev (callF fs k) t)) (ht : ∀ x p, e = .Name x p → t = trName g N sc x ∨ t = .bad) : DB Γ X W e (ev (callF fs k) (bw an e t)) := by
  unfold bw
  split
  · rename_i x p
    rcases ht x p rfl with rfl | rfl
    · split
      · rename_i i q
        by_cases hb : an.bs.contains i = true
        · rw [if_pos hb, ev_bor]
          unfold trName at q
          by_cases ho : odd x = true
          · rw [if_pos ho] at q; cases q
          · rw [if_neg ho] at q
            have hd : (x == ("__debug__" : Str)) = false ∧ (x == ("__classdict__" : Str)) = false := by
              unfold odd at ho
              simpa using ho
            have hsc := c.hsc
            have hv : Vis X.env.scope x → (match ixOf N x with | some i => Ex.var i | none => .bad) = .var i → DB Γ X W (.Name x p) (fun en h => optR (getB en i) fun d => .ok d h) := fun v q => by
              cases q2 : ixOf N x with
              | none => rw [q2] at q; cases q
              | some j =>
                rw [q2] at q
                cases q
                exact db_var (by rw [c.hN]; exact ixOf_get q2) v hd.1 hd.2
            cases q3 : sc.names.lookup x with
            | none => rw [q3] at q; cases q
            | some kd =>
              rw [q3] at q
              cases kd with
              | «local» => exact hv (.inl (by rw [hsc]; exact q3)) q
              | cell => exact hv (.inr (.inl (by rw [hsc]; exact q3))) q
              | free => exact hv (.inr (.inr (by rw [hsc]; exact q3))) q
              | globalImplicit =>
                dsimp only at q
                cases q4 : g.cons.lookup x with
                | none => rw [q4] at q; cases q
                | some d => rw [q4] at q; cases q
              | globalExplicit => cases q
        · rw [if_neg hb]
          exact h.db
      · exact h.db
    · exact h.db
  · exact h.db
theorem name_var {sc0 sc : Scope} {x : Str} {i : Nat} (c : Cok g fs Γ N k X sc0 sc W) (q : trName g N sc x = .var i) : X.N[i]? = some x ∧ Vis X.env.scope x ∧ (x == ("__debug__" : Str)) = false ∧ (x == ("__classdict__" : Str)) = false := by
  unfold trName at q
  by_cases ho : odd x = true
  · rw [if_pos ho] at q; cases q
  · rw [if_neg ho] at q
    have hd : (x == ("__debug__" : Str)) = false ∧ (x == ("__classdict__" : Str)) = false := by
      unfold odd at ho
      simpa using ho
    have hsc := c.hsc
    have hv : Vis X.env.scope x → (match ixOf N x with | some i => Ex.var i | none => .bad) = .var i → X.N[i]? = some x ∧ Vis X.env.scope x ∧ (x == ("__debug__" : Str)) = false ∧ (x == ("__classdict__" : Str)) = false := fun v q => by
      cases q2 : ixOf N x with
      | none => rw [q2] at q; cases q
      | some j =>
        rw [q2] at q
        cases q
        exact ⟨by rw [c.hN]; exact ixOf_get q2, v, hd.1, hd.2⟩
    cases q3 : sc.names.lookup x with
    | none => rw [q3] at q; cases q
    | some kd =>
      rw [q3] at q
      cases kd with
      | «local» => exact hv (.inl (by rw [hsc]; exact q3)) q
      | cell => exact hv (.inr (.inl (by rw [hsc]; exact q3))) q
      | free => exact hv (.inr (.inr (by rw [hsc]; exact q3))) q
      | globalImplicit =>
        dsimp only at q
        cases q4 : g.cons.lookup x with
        | none => rw [q4] at q; cases q
        | some d => rw [q4] at q; cases q
      | globalExplicit => cases q
/-- what names become -/
def NameOk (g : GT) (N : List Str) (sc : Scope) (tr : Expr → Ex) : Prop := ∀ x p, tr (.Name x p) = trName g N sc x ∨ tr (.Name x p) = .bad
theorem sound_b {sc0 sc : Scope} {tr : Expr → Ex} (c : Cok g fs Γ N k X sc0 sc W) (hn : NameOk g N sc tr) (ih : ∀ e, DE Γ X W e (ev (callF fs k) (tr e))) (e : Expr) : DB Γ X W e (ev (callF fs k) (bw an e (tr e))) :=
  sound_bw c (ih e) fun x p q => by subst q; exact hn x p
theorem sound_stars {sc0 sc : Scope} {tr : Expr → Ex} (c : Cok g fs Γ N k X sc0 sc W) (hn : NameOk g N sc tr) (ih : ∀ e, DE Γ X W e (ev (callF fs k) (tr e))) : ∀ {es : List Expr}, DA Γ X W es (evS (callF fs k) (exs (es.map fun e => stw an e (tr (unstar e)))) (es.map star))
  | [] => by
    show DA Γ X W [] (evS _ .nil [])
    rw [evS_nil]
    exact da_nil
  | e :: es => by
    have r := sound_stars c hn ih (es := es)
    by_cases h : star e = true
    · cases e <;> first | (cases h; done) | skip
      rename_i e' sp
      show DA Γ X W (.Starred e' sp :: es) (evS _ (.cons (bw an e' (tr e')) _) (true :: _))
      rw [evS_star]
      exact da_star c.hK (sound_b c hn ih e') r
    · have h' : star e = false := by simpa using h
      have eu : stw an e (tr (unstar e)) = tr e := by cases e <;> first | rfl | (cases h'; done)
      show DA Γ X W (e :: es) (evS _ (.cons (stw an e (tr (unstar e))) _) (star e :: _))
      rw [h', eu, evS_cons]
      exact da_cons h' (ih e) r
theorem sound_tys {sc0 sc : Scope} (c : Cok g fs Γ N k X sc0 sc W) : ∀ {es : List Expr} {ts : List Ty}, tysOf sc es = some ts → PA X es (fun _ H Q => Q (ts.map fun t => V.ty (tyName t)) H)
  | [], ts, h => by
    cases h
    exact pa_nil
  | e :: es, ts, h => by
    cases e <;> first | (cases h; done) | skip
    rename_i T p2
    unfold tysOf at h
    by_cases hg : isGl sc T = true
    · rw [if_pos hg] at h
      cases q1 : tyOf T with
      | none => rw [q1] at h; cases h
      | some t =>
        cases q2 : tysOf sc es with
        | none => rw [q1, q2] at h; cases h
        | some ts' =>
          rw [q1, q2] at h
          cases h
          have e1 := tyOf_name q1
          subst e1
          have h1 := (c.gl hg).1
          have h2 : X.mg (Str.ofString (tyName t)) = none := c.bi _ (by cases t <;> decide)
          have pty : PE X (.Name (Str.ofString (tyName t)) p2) (tC (.ty (tyName t))) := by
            cases t <;> exact pe_bltn h1 h2 (by decide +kernel) rfl (by decide) (by decide)
          exact pa_cons pty (sound_tys c q2) rfl
    · rw [if_neg hg] at h; cases h
theorem sound_bool {tr : Expr → Ex} (ih : ∀ e, Both fs Γ k X W e (tr e)) (op : BoolOp) (pos : Pos) : ∀ es : List Expr, DE Γ X W (.BoolOp op es pos) (ev (callF fs k) (trB op (es.map tr))) ∧ (es ≠ [] → DW Γ X W (.BoolOp op es pos) (test (callF fs k) (trB op (es.map tr))))
  | [] => ⟨bad2.1, fun z => absurd rfl z⟩
  | [a] => ⟨de_one (ih a).1, fun _ => dw_one (ih a).2.1⟩
  | a :: b :: r => by
    have h2 := sound_bool ih op pos (b :: r)
    cases op with
    | And =>
      show DE Γ X W _ (ev _ (.and (tr a) (trB .And ((b :: r).map tr)))) ∧ (_ → DW Γ X W _ (test _ (.and (tr a) (trB .And ((b :: r).map tr)))))
      rw [ev_and, test_and]
      exact ⟨de_and (ih a).1 h2.1, fun _ => dt_and (ih a).2.1 (h2.2 (by simp))⟩
    | Or =>
      show DE Γ X W _ (ev _ (.or (tr a) (trB .Or ((b :: r).map tr)))) ∧ (_ → DW Γ X W _ (test _ (.or (tr a) (trB .Or ((b :: r).map tr)))))
      rw [ev_or, test_or]
      exact ⟨de_or (ih a).1 h2.1, fun _ => dt_or (ih a).2.1 (h2.2 (by simp))⟩
theorem sound_name {sc0 sc : Scope} {x : Str} {pos : Pos} (c : Cok g fs Γ N k X sc0 sc W) : DE Γ X W (.Name x pos) (ev (callF fs k) (trName g N sc x)) := by
  unfold trName
  by_cases ho : odd x = true
  · rw [if_pos ho]; exact bad2.1
  · rw [if_neg ho]
    have hd : (x == ("__debug__" : Str)) = false ∧ (x == ("__classdict__" : Str)) = false := by
      unfold odd at ho
      simpa using ho
    have hv : Vis X.env.scope x → DE Γ X W (.Name x pos) (ev (callF fs k) (match ixOf N x with | some i => .var i | none => .bad)) := fun v => by
      cases q : ixOf N x with
      | none => exact bad2.1
      | some i =>
        dsimp only
        rw [ev_var]
        exact de_var (by rw [c.hN]; exact ixOf_get q) v hd.1 hd.2
    have hsc := c.hsc
    cases q : sc.names.lookup x with
    | none => exact bad2.1
    | some kd =>
      cases kd with
      | «local» => exact hv (.inl (by rw [hsc]; exact q))
      | cell => exact hv (.inr (.inl (by rw [hsc]; exact q)))
      | free => exact hv (.inr (.inr (by rw [hsc]; exact q)))
      | globalImplicit =>
        dsimp only
        cases q2 : g.cons.lookup x with
        | none => exact bad2.1
        | some d =>
          dsimp only
          rw [ev_con]
          obtain ⟨u, v, hm, rv, rep⟩ := c.cons x d q2
          exact de_glob (by show X.env.scope.names.lookup x = _; rw [hsc]; exact q) hm rv hd.1 rep
      | globalExplicit => exact bad2.1
theorem sound_kws {tr : Expr → Ex} (ih : ∀ e, DE Γ X W e (ev (callF fs k) (tr e))) : ∀ kws : List Keyword, DK Γ X W kws (evs (callF fs k) (exs (kws.map fun k => tr k.value)))
  | [] => by
    show DK Γ X W [] (evs _ .nil)
    rw [evs_nil]
    exact dk_nil
  | ⟨n, e, q⟩ :: es => by
    show DK Γ X W (⟨n, e, q⟩ :: es) (evs _ (.cons (tr e) (exs (es.map fun k => tr k.value))))
    rw [evs_cons]
    exact dk_cons (ih e) (sound_kws ih es)
theorem sound_kw {sc0 sc : Scope} {tr : Expr → Ex} {f : Str} {args : List Expr} {kws : List Keyword} {p pos : Pos} (c : Cok g fs Γ N k X sc0 sc W) (ih : ∀ e, DE Γ X W e (ev (callF fs k) (tr e))) : DE Γ X W (.Call (.Name f p) args kws pos) (ev (callF fs k) (trKw g sc f args kws (args.map tr) (kws.map fun k => tr k.value))) ∧ noF (trKw g sc f args kws (args.map tr) (kws.map fun k => tr k.value)) = true := by
  have bad : DE Γ X W (.Call (.Name f p) args kws pos) (ev (callF fs k) .bad) ∧ noF .bad = true := ⟨bad2.1, rfl⟩
  unfold trKw
  by_cases h : isGl sc f = false ∨ args.any star = true
  · rw [if_pos h]; exact bad
  · rw [if_neg h]
    have h1 : isGl sc f = true := by
      cases q : isGl sc f with
      | true => rfl
      | false => exact absurd (.inl q) h
    have h2 : args.any star = false := by
      cases q : args.any star with
      | false => rfl
      | true => exact absurd (.inr q) h
    obtain ⟨hg, hdb⟩ := c.gl h1
    cases q : g.fns.lookup f with
    | none => exact bad
    | some ib =>
      obtain ⟨i, b⟩ := ib
      cases b with
      | true => exact bad
      | false =>
        cases q1 : g.kws.lookup f with
        | none => exact bad
        | some l =>
          cases q2 : kwNames kws with
          | none => exact bad
          | some ks =>
            dsimp only
            cases q3 : l.lookup (args.length, ks) with
            | none => exact bad
            | some π =>
              dsimp only
              refine ⟨?_, rfl⟩
              obtain ⟨fn, a, fd, e1, eo, e2, e3, e4, e5, e6, e7⟩ := c.fns i false f q
              subst e2
              rw [ev_callK]
              have kb := (e7 l q1).get q3
              cases args with
              | nil =>
                show DE Γ X W _ (fun en h => bnd (evs (callF fs k) .nil en h) fun ds h1 => bnd (evs (callF fs k) (exs (kws.map fun k => tr k.value)) en h1) fun zs h2 => if zs.length = π.length then callF fs k i (kwD π ds zs) h2 else .bad)
                rw [evs_nil]
                exact de_callK0 eo e1 e6 c.room c.gd hg e3 e4 kb c.tk q2 hdb (sound_kws ih kws)
              | cons e es => exact de_callK eo e1 e6 c.room c.gd hg e3 e4 kb c.tk h2 q2 hdb (sound_args ih h2) (sound_kws ih kws)
theorem sound_call {sc0 sc : Scope} {tr : Expr → Ex} {f : Str} {args : List Expr} {p pos : Pos} (c : Cok g fs Γ N k X sc0 sc W) (hn : NameOk g N sc tr) (ih : ∀ e, DE Γ X W e (ev (callF fs k) (tr e))) : DE Γ X W (.Call (.Name f p) args [] pos) (ev (callF fs k) (trCall g an sc f args (args.map tr))) ∧ DF Γ X W (.Call (.Name f p) args [] pos) (evf (callF fs k) (trCall g an sc f args (args.map tr))) := by
  have bad : DE Γ X W (.Call (.Name f p) args [] pos) (ev (callF fs k) .bad) ∧ DF Γ X W (.Call (.Name f p) args [] pos) (evf (callF fs k) .bad) := ⟨bad2.1, bad2.2.2⟩
  unfold trCall
  by_cases h : isGl sc f = false ∨ args.any star = true
  · rw [if_pos h]; exact bad
  · rw [if_neg h]
    have h1 : isGl sc f = true := by
      cases q : isGl sc f with
      | true => rfl
      | false => exact absurd (.inl q) h
    have h2 : args.any star = false := by
      cases q : args.any star with
      | false => rfl
      | true => exact absurd (.inr q) h
    obtain ⟨hg, hdb⟩ := c.gl h1
    cases q : g.fns.lookup f with
    | some ib =>
      obtain ⟨i, b⟩ := ib
      obtain ⟨fn, a, fd, e1, eo, e2, e3, e4, e5, e6, -⟩ := c.fns i b f q
      subst e2
      cases b with
      | false =>
        dsimp only
        refine ⟨?_, df_no rfl⟩
        rw [ev_call]
        cases args with
        | nil =>
          show DE Γ X W _ (fun en h => bnd (evs (callF fs k) .nil en h) fun ds h1 => callF fs k i ds h1)
          rw [evs_nil]
          exact de_call0 eo e1 e6 c.room c.gd hg e3 e4 e5 c.tk hdb
        | cons e es => exact de_call eo e1 e6 c.room c.gd hg e3 e4 e5 c.tk h2 hdb (sound_args ih h2)
      | true =>
        dsimp only
        have key : DF Γ X W (.Call (.Name fn.name p) args [] pos) (evf (callF fs k) (.callO i (exs (args.map tr)))) := ?_
        · refine ⟨?_, key⟩
          rw [ev_callO]
          exact key.de
        rw [evf_callO]
        cases args with
        | nil =>
          show DF Γ X W _ (fun en h => bnd (evs (callF fs k) .nil en h) fun ds h1 => bnd (callF fs k i ds h1) ownOfD)
          rw [evs_nil]
          exact df_call0 eo e1 e6 c.room c.gd hg e3 e4 e5 c.tk hdb
        | cons e es => exact df_call eo e1 e6 c.room c.gd hg e3 e4 e5 c.tk h2 hdb (sound_args ih h2)
    | none =>
      dsimp only
      rcases args with _ | ⟨a, _ | ⟨b, _ | ⟨_, _⟩⟩⟩
      · exact bad
      · show DE Γ X W _ (ev _ (match biOf f with | some b => .bi b (bw an a (tr a)) | none => .bad)) ∧ DF Γ X W _ (evf _ (match biOf f with | some b => .bi b (bw an a (tr a)) | none => .bad))
        cases q2 : biOf f with
        | none => exact bad
        | some b =>
          dsimp only
          have e := biOf_name q2
          subst e
          have hs : star a = false := by simpa using h2
          have hf : DF Γ X W (.Call (.Name (biName b) p) [a] [] pos) (evf (callF fs k) (.bi b (bw an a (tr a)))) := by
            cases b <;> first | exact df_no rfl | skip
            rw [evf_list]
            exact df_list (x := "list") c.hK hg (c.bi _ (by decide)) hs (sound_b c hn ih a)
          refine ⟨?_, hf⟩
          rw [ev_bi]
          exact de_bi c.hK c.gd c.room.units200 c.calm hg (c.bi _ (by cases b <;> decide)) hs (sound_b c hn ih a)
      · show DE Γ X W _ (ev _ (match mmOf f with | some k => .mm k (tr a) (tr b) | none => trIsi sc f b (tr a))) ∧ DF Γ X W _ (evf _ (match mmOf f with | some k => .mm k (tr a) (tr b) | none => trIsi sc f b (tr a)))
        have h2a : star a = false ∧ star b = false := by
          rw [List.any_cons, Bool.or_eq_false_iff, List.any_cons, Bool.or_eq_false_iff] at h2
          exact ⟨h2.1, h2.2.1⟩
        cases q5 : mmOf f with
        | some kk =>
          dsimp only
          have e := mmOf_name q5
          subst e
          refine ⟨?_, df_no rfl⟩
          rw [ev_mm]
          exact de_mm c.calm hg (c.bi _ (by cases kk <;> decide)) h2a.1 h2a.2 (ih a) (ih b)
        | none =>
        dsimp only
        unfold trIsi
        cases b with
        | Name T p2 =>
          dsimp only
          by_cases h3 : (decide (f = "isinstance") && isGl sc T) = true
          · rw [if_pos h3]
            rw [Bool.and_eq_true] at h3
            have e := of_decide_eq_true h3.1
            subst e
            cases q3 : tyOf T with
            | none => exact bad
            | some t =>
              dsimp only
              refine ⟨?_, df_no rfl⟩
              rw [ev_isi]
              have e := tyOf_name q3
              subst e
              exact de_isi c.hK hg (c.bi _ (by decide)) (c.gl h3.2).1 (c.bi _ (by cases t <;> decide)) h2a.1 (ih a)
          · rw [if_neg h3]; exact bad
        | Tuple cs kk p2 =>
          dsimp only
          by_cases h3 : decide (f = "isinstance") = true
          · rw [if_pos h3]
            have e := of_decide_eq_true h3
            subst e
            cases q3 : tysOf sc cs with
            | none => exact bad
            | some ts =>
              dsimp only
              by_cases h4 : ts.length ≤ 30
              · rw [if_pos h4]
                refine ⟨?_, df_no rfl⟩
                rw [ev_isis]
                exact de_isis c.hK hg (c.bi _ (by decide)) (sound_tys c q3) h4 h2a.1 (ih a)
              · rw [if_neg h4]; exact bad
          · rw [if_neg h3]; exact bad
        | _ => exact bad
      · exact bad
theorem sound_srt {sc0 sc : Scope} {tr : Expr → Ex} {f : Str} {args : List Expr} {p pos : Pos} {t : Ex} (c : Cok g fs Γ N k X sc0 sc W) (ih : ∀ e, DE Γ X W e (ev (callF fs k) (tr e)))
    (h : DE Γ X W (.Call (.Name f p) args [] pos) (ev (callF fs k) t) ∧ DF Γ X W (.Call (.Name f p) args [] pos) (evf (callF fs k) t)) : DE Γ X W (.Call (.Name f p) args [] pos) (ev (callF fs k) (trSrt (srtArg sc f args) tr t)) ∧ DF Γ X W (.Call (.Name f p) args [] pos) (evf (callF fs k) (trSrt (srtArg sc f args) tr t)) := by
  cases q : srtArg sc f args with
  | none => exact h
  | some a =>
    unfold srtArg at q
    split at q
    · rename_i s p2 a' q2
      by_cases hh : f = ("sorted" : Str) ∧ s = ("set" : Str) ∧ isGl sc f = true ∧ isGl sc s = true ∧ star a' = false
      · rw [if_pos hh] at q
        cases q
        obtain ⟨rfl, rfl, h1, h2, h3⟩ := hh
        have hf : DF Γ X W (.Call (.Name "sorted" p) [.Call (.Name "set" p2) [a] [] q2] [] pos) (evf (callF fs k) (.srt (tr a))) := by
          rw [evf_srt]
          exact df_srt c.calm c.hK (c.gl h1).1 (c.bi _ (by decide)) (c.gl h2).1 (c.bi _ (by decide)) h3 (ih a)
        refine ⟨?_, hf⟩
        show DE Γ X W _ (ev (callF fs k) (.srt (tr a)))
        rw [ev_srt]
        exact hf.de
      · rw [if_neg hh] at q; cases q
    · cases q

theorem sound_zp {sc0 sc : Scope} {tr : Expr → Ex} {f : Str} {args : List Expr} {p pos : Pos} {t : Ex} (c : Cok g fs Γ N k X sc0 sc W) (ih : ∀ e, DE Γ X W e (ev (callF fs k) (tr e)))
    (h : DE Γ X W (.Call (.Name f p) args [] pos) (ev (callF fs k) t) ∧ DF Γ X W (.Call (.Name f p) args [] pos) (evf (callF fs k) t)) : DE Γ X W (.Call (.Name f p) args [] pos) (ev (callF fs k) (trZp (zipArgs sc f args) tr t)) ∧ DF Γ X W (.Call (.Name f p) args [] pos) (evf (callF fs k) (trZp (zipArgs sc f args) tr t)) := by
  cases q : zipArgs sc f args with
  | none => exact h
  | some ab =>
    unfold zipArgs at q
    split at q
    · rename_i s p2 a b q2
      by_cases hh : f = ("list" : Str) ∧ s = ("zip" : Str) ∧ isGl sc f = true ∧ isGl sc s = true ∧ star a = false ∧ star b = false
      · rw [if_pos hh] at q
        cases q
        obtain ⟨rfl, rfl, h1, h2, h3, h4⟩ := hh
        have hf : DF Γ X W (.Call (.Name "list" p) [.Call (.Name "zip" p2) [a, b] [] q2] [] pos) (evf (callF fs k) (.lzip (tr a) (tr b))) := by
          rw [evf_lzip]
          exact df_lzip c.hK c.calm (c.gl h1).1 (c.bi _ (by decide)) (c.gl h2).1 (c.bi _ (by decide)) h3 h4 (ih a) (ih b)
        refine ⟨?_, hf⟩
        show DE Γ X W _ (ev (callF fs k) (.lzip (tr a) (tr b)))
        rw [ev_lzip]
        exact hf.de
      · rw [if_neg hh] at q; cases q
    · cases q
theorem sound_new {e : Expr} {f : Str} {t : Ex} (h : DE Γ X W e (ev (callF fs k) t) ∧ DF Γ X W e (evf (callF fs k) t)) : DE Γ X W e (ev (callF fs k) (trNew an f t)) ∧ DF Γ X W e (evf (callF fs k) (trNew an f t)) := by
  unfold trNew
  split
  · refine ⟨?_, df_no rfl⟩
    rw [ev_newL]
    exact de_newL h.2
  · exact h
theorem sound_pop {o e1 : Expr} {es : List Expr} {nm : Str} {apos cpos : Pos} {tr : Expr → Ex} {sc0 sc : Scope} (c : Cok g fs Γ N k X sc0 sc W) (ih : ∀ e, DE Γ X W e (ev (callF fs k) (tr e))) :
    DE Γ X W (.Call (.Attribute o nm apos) (e1 :: es) [] cpos) (ev (callF fs k) (trPop (popC o nm apos cpos (e1 :: es)) (tr o) (exs ((e1 :: es).map tr)))) := by
  unfold trPop
  split
  · rename_i hb
    simp only [popC, Bool.and_eq_true, decide_eq_true_eq, Bool.not_eq_true'] at hb
    obtain ⟨⟨⟨⟨rfl, h2⟩, h3⟩, h4⟩, h5⟩ := hb
    rw [ev_popR]
    refine de_popR c.hK ?_ h3 h4 h5 (ih o) (sound_args ih h4)
    cases o <;> first | rfl | cases h2
  · exact de_bad
theorem sound_T {sc0 sc : Scope} {tr : Expr → Ex} (c : Cok g fs Γ N k X sc0 sc W) (ih : ∀ e, DE Γ X W e (ev (callF fs k) (tr e))) : ∀ (n : Nat) (tg : Expr), DG Γ X tg (slots (trT g N tr n sc0 sc tg)) (asgn (callF fs k) (trT g N tr n sc0 sc tg)) := by
  have bad : ∀ tg, DG Γ X tg (slots (.sub .bad .bad)) (asgn (callF fs k) (.sub .bad .bad)) := fun tg => by rw [asgn_bad]; exact dg_bad
  intro n
  induction n with
  | zero => exact bad
  | succ n ihn =>
    intro tg
    cases tg with
    | Name x p =>
      show DG Γ X _ (slots (match ixOf N x with | some i => if sc.names.lookup x = some .local ∨ (sc.names.lookup x = some .cell ∧ sc0.names.lookup x = some .cell) then .name i else .sub .bad .bad | none => .sub .bad .bad)) (asgn _ (match ixOf N x with | some i => if sc.names.lookup x = some .local ∨ (sc.names.lookup x = some .cell ∧ sc0.names.lookup x = some .cell) then .name i else .sub .bad .bad | none => .sub .bad .bad))
      cases q : ixOf N x with
      | none => exact bad _
      | some i =>
        dsimp only
        by_cases h : sc.names.lookup x = some .local ∨ (sc.names.lookup x = some .cell ∧ sc0.names.lookup x = some .cell)
        · rw [if_pos h, asgn_name]
          have hsc := c.hsc
          refine dg_name (by rw [c.hN]; exact c.nd) (by rw [c.hN]; exact ixOf_get q) ?_ ?_
          · rcases h with h | h
            · exact .inl (by rw [hsc]; exact h)
            · exact .inr (by rw [hsc]; exact h.1)
          · rcases h with h | h
            · exact .inr (by rw [hsc]; exact h)
            · exact .inl (c.hfn x h.2)
        · rw [if_neg h]; exact bad _
    | Tuple es kk p =>
      show DG Γ X _ (slots (if es.any star = true then .sub .bad .bad else .tup (tgs (es.map (trT g N tr n sc0 sc))))) (asgn _ (if es.any star = true then .sub .bad .bad else .tup (tgs (es.map (trT g N tr n sc0 sc)))))
      by_cases h : es.any star = true
      · rw [if_pos h]; exact bad _
      · rw [if_neg h, asgn_tup]
        have h' : es.any star = false := by simpa using h
        refine dg_tup c.hK c.calm h' (fun ds en hh hl => asgns_len _ ds en hh (by rw [List.length_map]; exact hl)) ?_
        have all : ∀ es : List Expr, es.any star = false → DGs Γ X es (slotss (tgs (es.map (trT g N tr n sc0 sc)))) (asgns (callF fs k) (tgs (es.map (trT g N tr n sc0 sc)))) := by
          intro es
          induction es with
          | nil =>
            intro _
            show DGs Γ X [] [] (asgns _ .nil)
            rw [asgns_nil]
            exact dgs_nil
          | cons e es ihe =>
            intro h
            rw [List.any_cons, Bool.or_eq_false_iff] at h
            show DGs Γ X (e :: es) (slots _ ++ slotss _) (asgns _ (.cons (trT g N tr n sc0 sc e) (tgs (es.map (trT g N tr n sc0 sc)))))
            rw [asgns_cons]
            exact dgs_cons h.1 (ihn e) (ihe h.2)
        exact all es h'
    | Subscript o i p =>
      by_cases hk : ∃ k c p2, i = .Constant (.str k) c p2
      · obtain ⟨k', c', p2, rfl⟩ := hk
        show DG Γ X _ [] (asgn _ (.dsub (tr o) k'))
        rw [asgn_dsub]
        exact dg_dsub (by have := c.room.units66; omega) (ih o) (fun v => rfl)
      have et : trT g N tr (n + 1) sc0 sc (.Subscript o i p) = if isSlice i = true then .sub .bad .bad else .sub (tr o) (tr i) := by
        cases i <;> first | rfl | (rename_i cc _ _; cases cc <;> first | rfl | exact absurd ⟨_, _, _, rfl⟩ hk)
      rw [et]
      show DG Γ X _ (slots (if isSlice i = true then .sub .bad .bad else .sub (tr o) (tr i))) (asgn _ (if isSlice i = true then .sub .bad .bad else .sub (tr o) (tr i)))
      by_cases h : isSlice i = true
      · rw [if_pos h]; exact bad _
      · rw [if_neg h, asgn_sub]
        exact dg_sub (ih o) (ih i) (fun v => by cases i <;> first | rfl | exact absurd rfl h)
    | _ => exact bad _
theorem sound_I {sc0 sc : Scope} {tr : Expr → Ex} (c : Cok g fs Γ N k X sc0 sc W) (ih : ∀ e, DE Γ X W e (ev (callF fs k) (tr e))) (tg e : Expr) : DI Γ X W tg e (evi (callF fs k) (trI tg sc tr e)) := by
  have sq : DI Γ X W tg e (evi (callF fs k) (.seq (tr e))) := by
    rw [evi_seq]
    exact di_seq c.hK (ih e)
  have bad : DI Γ X W tg e (evi (callF fs k) (.seq .bad)) := by
    rw [evi_seq, ev_bad]
    exact di_bad
  unfold trI
  split
  · rename_i f p a pos
    by_cases hs : star a = true
    · rw [if_pos hs]; exact bad
    · rw [if_neg hs]
      have hs' : star a = false := by simpa using hs
      by_cases h1 : (decide (f = "range") && isGl sc f) = true
      · rw [if_pos h1, evi_rng1]
        rw [Bool.and_eq_true] at h1
        have e := of_decide_eq_true h1.1
        subst e
        exact di_rng1 (c.gl h1.2).1 (c.bi _ (by decide)) hs' (ih a)
      · rw [if_neg h1]
        by_cases h2 : (decide (f = "enumerate") && isGl sc f && isTuple tg) = true
        · rw [if_pos h2, evi_enum]
          rw [Bool.and_eq_true, Bool.and_eq_true] at h2
          have e := of_decide_eq_true h2.1.1
          subst e
          cases tg <;> first | exact Bool.noConfusion h2.2 | exact di_enum c.hK (c.gl h2.1.2).1 (c.bi _ (by decide)) hs' (ih a)
        · rw [if_neg h2]
          by_cases h3 : (decide (f = "reversed") && isGl sc f) = true
          · rw [if_pos h3, evi_rev]
            rw [Bool.and_eq_true] at h3
            have e := of_decide_eq_true h3.1
            subst e
            exact di_rev c.hK (c.gl h3.2).1 (c.bi _ (by decide)) hs' (ih a)
          · rw [if_neg h3]; exact sq
  · rename_i f p a b pos
    by_cases hs : star a = true ∨ star b = true
    · rw [if_pos hs]; exact bad
    · rw [if_neg hs]
      have hs' : star a = false ∧ star b = false := by simpa using hs
      by_cases h1 : (decide (f = "range") && isGl sc f) = true
      · rw [if_pos h1, evi_rng2]
        rw [Bool.and_eq_true] at h1
        have e := of_decide_eq_true h1.1
        subst e
        exact di_rng2 (c.gl h1.2).1 (c.bi _ (by decide)) hs'.1 hs'.2 (ih a) (ih b)
      · rw [if_neg h1]
        by_cases h2 : (decide (f = "zip") && isGl sc f && isTuple tg) = true
        · rw [if_pos h2, evi_zip]
          rw [Bool.and_eq_true, Bool.and_eq_true] at h2
          have e := of_decide_eq_true h2.1.1
          subst e
          cases tg <;> first | exact Bool.noConfusion h2.2 | exact di_zip c.hK (c.gl h2.1.2).1 (c.bi _ (by decide)) hs'.1 hs'.2 (ih a) (ih b)
        · rw [if_neg h2]; exact sq
  · rename_i f p a b d pos
    by_cases hs : [a, b, d].any star = true
    · rw [if_pos hs]; exact bad
    · rw [if_neg hs]
      have hs' : [a, b, d].any star = false := by simpa using hs
      by_cases h1 : (decide (f = "range") && isGl sc f) = true
      · rw [if_pos h1, evi_rng3]
        rw [Bool.and_eq_true] at h1
        have e := of_decide_eq_true h1.1
        subst e
        exact di_rng3 (c.gl h1.2).1 (c.bi _ (by decide)) hs' (sound_args ih hs')
      · rw [if_neg h1]; exact sq
  · exact sq
end
end PD

set_option Elab.async false
set_option linter.all false
set_option maxRecDepth 100000
set_option maxHeartbeats 4000000
namespace PD
open PySem PySem.Spec PyProof.Rows L2
section
variable {g : GT} {an : An} {fs : List Fn} {Γ : Wd} {N : List Str} {k : Nat}
theorem plainIx {b : Expr} (h : ¬ isSlice b = true) : PlainIx b := fun o i => by cases b <;> first | rfl | exact absurd rfl h
theorem notSet {iter : Expr} {env : Env} (h : isSet iter = false) : ∀ x, foldedSetIterable iter env x = pure x := fun x => by cases iter <;> first | rfl | exact Bool.noConfusion h
theorem slots_sub {sl : List Nat} {own : List (Str × Nat)} (h : sl.all (fun j => (own.map (·.2)).contains j) = true) : ∀ j ∈ sl, j ∈ own.map (·.2) := fun j hj => by
  have := List.all_eq_true.mp h j hj
  simpa using this
/-- the comprehension, as a value and as what a name is set to -/
theorem sound_comp {X : Cx} {sc0 sc : Scope} {W : WX} {n : Nat} {elt tg iter : Expr} {ifs : List Expr} {scope : Scope} {pos : Pos} {ct : Ex} (c : Cok g fs Γ N k X sc0 sc W)
    (ih : ∀ X sc0 sc W e, Cok g fs Γ N k X sc0 sc W → Both fs Γ k X W e (trE g an N n sc0 sc e))
    (hts : ∀ X', Cok g fs Γ N k X' scope (relS scope sc) (fun _ _ _ _ => False) → DTs Γ X' (fun _ _ _ _ => False) ifs (test (callF fs k) ct))
    (hh : blkC N sc scope (ownOf N scope) = true ∧ isSet iter = false ∧ (slots (trT g N (trE g an N n scope (relS scope sc)) n scope (relS scope sc) tg)).all (fun j => ((ownOf N scope).map (·.2)).contains j) = true) :
    ∃ t, (PE X (.ListComp elt [⟨tg, iter, ifs, 0⟩] scope pos) t ∧
      (∀ {i : Nat} {y : Str} {py spos : Pos}, X.N[i]? = some y → X.env.scope.names.lookup y = some .local → swapsWith (.ListComp elt [⟨tg, iter, ifs, 0⟩] scope pos) (some (.Name y py)) spos.line X.env = pure true →
        PS X (.Assign [.Name y py] (.ListComp elt [⟨tg, iter, ifs, 0⟩] scope pos) spos) (tAsg t (gName i)))) ∧
      ∀ α h H en σ Q, HR Γ.K α h H → ER Γ α H en σ → PstF Γ α H (evf (callF fs k) (.comp (trI tg sc (trE g an N n sc0 sc) iter) (trT g N (trE g an N n scope (relS scope sc)) n scope (relS scope sc) tg) ct (trE g an N n scope (relS scope sc) elt) ((ownOf N scope).map (·.2))) en h) Q (fun c d H' => W c d σ H') → t σ H Q := by
  have ok : BlkOk X.N X.env.scope scope (ownOf N scope) := by
    rw [c.hN, c.hsc]
    exact blkOk_by hh.1
  have cb := fun s H C cl fp => c.blk s H scope C cl fp ok.kind
  rw [evf_comp]
  exact df_comp c.calm (by rw [c.hN]; exact c.nd) (sound_I c (fun e => (ih X sc0 sc W e c).1) tg iter) ok (slots_sub hh.2.2)
    (fun s H C cl fp => sound_T (cb s H C cl fp) (fun e => (ih _ _ _ _ e (cb s H C cl fp)).1) n tg)
    (fun s H C cl fp => hts _ (cb s H C cl fp))
    (fun s H C cl fp => (ih _ _ _ _ elt (cb s H C cl fp)).1) (notSet hh.2.1)
theorem sound_comp2 {X : Cx} {sc0 sc : Scope} {W : WX} {n : Nat} {elt tg iter tg1 iter1 : Expr} {ifs1 : List Expr} {scope : Scope} {pos : Pos} {ct : Ex} (c : Cok g fs Γ N k X sc0 sc W)
    (ih : ∀ X sc0 sc W e, Cok g fs Γ N k X sc0 sc W → Both fs Γ k X W e (trE g an N n sc0 sc e))
    (hts : ∀ X', Cok g fs Γ N k X' scope (relS scope sc) (fun _ _ _ _ => False) → DTs Γ X' (fun _ _ _ _ => False) ifs1 (test (callF fs k) ct)) :
    ∃ t, (PE X (.ListComp elt [⟨tg, iter, [], 0⟩, ⟨tg1, iter1, ifs1, 0⟩] scope pos) t ∧
      (∀ {i : Nat} {y : Str} {py spos : Pos}, X.N[i]? = some y → X.env.scope.names.lookup y = some .local → swapsWith (.ListComp elt [⟨tg, iter, [], 0⟩, ⟨tg1, iter1, ifs1, 0⟩] scope pos) (some (.Name y py)) spos.line X.env = pure true →
        PS X (.Assign [.Name y py] (.ListComp elt [⟨tg, iter, [], 0⟩, ⟨tg1, iter1, ifs1, 0⟩] scope pos) spos) (tAsg t (gName i)))) ∧
      ∀ α h H en σ Q, HR Γ.K α h H → ER Γ α H en σ → PstF Γ α H (evf (callF fs k) (trC2 N sc scope iter iter1 (trI tg sc (trE g an N n sc0 sc) iter) (trI tg1 (relS scope sc) (trE g an N n scope (relS scope sc)) iter1) (trT g N (trE g an N n scope (relS scope sc)) n scope (relS scope sc) tg) (trT g N (trE g an N n scope (relS scope sc)) n scope (relS scope sc) tg1) ct (trE g an N n scope (relS scope sc) elt)) en h) Q (fun c d H' => W c d σ H') → t σ H Q := by
  unfold trC2
  split
  · rename_i hh
    have ok : BlkOk X.N X.env.scope scope (ownOf N scope) := by
      rw [c.hN, c.hsc]
      exact blkOk_by hh.1
    have cb := fun s H C cl fp => c.blk s H scope C cl fp ok.kind
    rw [evf_comp2]
    exact df_comp2 c.calm (by rw [c.hN]; exact c.nd) (sound_I c (fun e => (ih X sc0 sc W e c).1) tg iter) ok (slots_sub hh.2.2.2.1) (fun j hj => hj) (slots_sub hh.2.2.2.2)
      (fun s H C cl fp => sound_T (cb s H C cl fp) (fun e => (ih _ _ _ _ e (cb s H C cl fp)).1) n tg)
      (fun s H C cl fp => sound_I (cb s H C cl fp) (fun e => (ih _ _ _ _ e (cb s H C cl fp)).1) tg1 iter1)
      (fun s H C cl fp => sound_T (cb s H C cl fp) (fun e => (ih _ _ _ _ e (cb s H C cl fp)).1) n tg1)
      (fun s H C cl fp => hts _ (cb s H C cl fp))
      (fun s H C cl fp => (ih _ _ _ _ elt (cb s H C cl fp)).1) (notSet hh.2.1) (fun env => notSet hh.2.2.1)
  · exact ⟨fun _ _ _ => False, ⟨⟨fun _ _ _ _ _ _ h => h.elim⟩, fun _ _ _ => ⟨fun _ _ _ _ _ _ h => h.elim⟩⟩, fun α h H en σ Q _ _ q => q⟩
theorem tr_c2_bad {n : Nat} {sc0 sc : Scope} {elt tg iter tg1 iter1 : Expr} {ifs ifs1 : List Expr} {ay ay1 : Int} {scope : Scope} {pos : Pos} (h : ¬ (ay = 0 ∧ ay1 = 0 ∧ ifs = [] ∧ ifs1.length ≤ 1)) :
    trE g an N (n + 1) sc0 sc (.ListComp elt [⟨tg, iter, ifs, ay⟩, ⟨tg1, iter1, ifs1, ay1⟩] scope pos) = .bad := by
  unfold trE
  split <;> simp_all
theorem tr_c3_bad {n : Nat} {sc0 sc : Scope} {elt tg iter : Expr} {ifs : List Expr} {ay : Int} {g2 g3 : Comprehension} {gs : List Comprehension} {scope : Scope} {pos : Pos} :
    trE g an N (n + 1) sc0 sc (.ListComp elt (⟨tg, iter, ifs, ay⟩ :: g2 :: g3 :: gs) scope pos) = .bad := by
  unfold trE
  split <;> simp_all
theorem tr_dict {n : Nat} {sc0 sc : Scope} {ks : List (Option Expr)} {vs : List Expr} {pos : Pos} (hd : ¬ ∃ k1 c1 q1 k2 c2 q2 x1 r1 x2 r2 i1 i2, ks = [some (.Constant (.str k1) c1 q1), some (.Constant (.str k2) c2 q2)] ∧ vs = [.Name x1 r1, .Name x2 r2] ∧ trE g an N n sc0 sc (.Name x1 r1) = .var i1 ∧ trE g an N n sc0 sc (.Name x2 r2) = .var i2) :
    trE g an N (n + 1) sc0 sc (.Dict ks vs pos) = .emp ∧ ks = [] ∧ vs = [] ∨ trE g an N (n + 1) sc0 sc (.Dict ks vs pos) = .bad := by
  generalize hz : trE g an N (n + 1) sc0 sc (.Dict ks vs pos) = z
  unfold trE at hz
  split at hz <;> first | contradiction | skip
  · rename_i he
    cases he
    exact .inl ⟨hz.symm, rfl, rfl⟩
  · rename_i he
    cases he
    refine .inr ?_
    subst hz
    unfold newDx
    split
    · rename_i t1 t2
      exact absurd ⟨_, _, _, _, _, _, _, _, _, _, _, _, rfl, rfl, t1, t2⟩ hd
    · rfl
  · exact .inr hz.symm
theorem noF_name {sc : Scope} {x : Str} : noF (trName g N sc x) = true := by
  unfold trName
  split
  · rfl
  · split <;> first | rfl | (split <;> rfl)
theorem ev_c2 {cl : Nat → List D → Hh → R D} {sc scope : Scope} {iter iter1 : Expr} {it it1 : Ix} {t t1 : Tg} {c e : Ex} : ev cl (trC2 N sc scope iter iter1 it it1 t t1 c e) = fun en h => bnd (evf cl (trC2 N sc scope iter iter1 it it1 t t1 c e) en h) fun ds h1 => .ok (.lst ds) h1 := by
  unfold trC2
  split <;> rfl
theorem sound : ∀ (n : Nat) (X : Cx) (sc0 sc : Scope) (W : WX) (e : Expr), Cok g fs Γ N k X sc0 sc W → Both fs Γ k X W e (trE g an N n sc0 sc e) := by
  intro n
  induction n with
  | zero => exact fun X sc0 sc W e c => bad2
  | succ n ih =>
    intro X sc0 sc W e c
    have ihE : ∀ e, DE Γ X W e (ev (callF fs k) (trE g an N n sc0 sc e)) := fun e => (ih X sc0 sc W e c).1
    have hn : NameOk g N sc (trE g an N n sc0 sc) := fun x p => by
      cases n with
      | zero => exact .inr rfl
      | succ n => exact .inl rfl
    have ihB : ∀ e, DB Γ X W e (ev (callF fs k) (bw an e (trE g an N n sc0 sc e))) := fun e => sound_b c hn ihE e
    cases e with
    | Constant cc j pos =>
      refine both_plain ?_ plain_c (fun _ => rfl) (df_no (by cases cc <;> rfl))
      cases cc with
      | int i => show DE Γ X W _ (ev _ (.con _)); rw [ev_con]; exact de_int
      | bool i => show DE Γ X W _ (ev _ (.con _)); rw [ev_con]; exact de_bl
      | str i => show DE Γ X W _ (ev _ (.con _)); rw [ev_con]; exact de_str
      | none => show DE Γ X W _ (ev _ (.con _)); rw [ev_con]; exact de_non
      | _ => exact bad2.1
    | Name x pos => exact both_plain (sound_name c) plain_name (fun _ => rfl) (df_no noF_name)
    | Tuple es kk pos =>
      show Both fs Γ k X W _ (if es.any star = true then .tupS (es.map star) (exs (es.map fun e => stw an e (trE g an N n sc0 sc (unstar e)))) else .tup (exs (es.map (trE g an N n sc0 sc))))
      by_cases h : es.any star = true
      · rw [if_pos h]
        refine both_plain ?_ rfl (fun _ => rfl) (df_no rfl)
        rw [ev_tupS]
        exact de_tup (sound_stars c hn ihE)
      · rw [if_neg h]
        refine both_plain ?_ rfl (fun _ => rfl) (df_no rfl)
        rw [ev_tup]
        exact de_tup (sound_args ihE (by simpa using h))
    | List es pos =>
      show Both fs Γ k X W _ (if es.any star = true then .lstS (es.map star) (exs (es.map fun e => stw an e (trE g an N n sc0 sc (unstar e)))) else .lst (exs (es.map (trE g an N n sc0 sc))))
      by_cases h : es.any star = true
      · rw [if_pos h]
        have hf : DF Γ X W (.List es pos) (evf (callF fs k) (.lstS (es.map star) (exs (es.map fun e => stw an e (trE g an N n sc0 sc (unstar e)))))) := by
          rw [evf_lstS]
          exact df_lst (sound_stars c hn ihE)
        refine both_plain ?_ rfl (fun _ => rfl) hf
        rw [ev_lstS]
        exact hf.de
      · rw [if_neg h]
        have hf : DF Γ X W (.List es pos) (evf (callF fs k) (.lst (exs (es.map (trE g an N n sc0 sc))))) := by
          rw [evf_lst]
          exact df_lst (sound_args ihE (by simpa using h))
        refine both_plain ?_ rfl (fun _ => rfl) hf
        rw [ev_lst]
        exact hf.de
    | BinOp a op b pos =>
      have hf : DF Γ X W (.BinOp a op b pos) (evf (callF fs k) (.bin op (bw an a (trE g an N n sc0 sc a)) (bw an b (trE g an N n sc0 sc b)))) := by
        by_cases ho : op = .Add
        · subst ho
          rw [evf_add]
          exact df_add (ihB a) (ihB b)
        · rw [evf_bin ho]
          exact df_bad
      refine both_plain ?_ rfl (fun _ => rfl) hf
      show DE Γ X W _ (ev _ (.bin op _ _))
      rw [ev_bin]
      exact de_bin (ops_bin c.hK op) (ihB a) (ihB b)
    | UnaryOp op a pos =>
      cases op with
      | USub =>
        refine both_plain ?_ rfl (fun _ => rfl) (df_no rfl)
        show DE Γ X W _ (ev _ (.neg _))
        rw [ev_neg]
        exact de_neg (ihE a)
      | Not =>
        show Both fs Γ k X W _ (.not _)
        refine ⟨?_, ?_, df_no rfl⟩
        · rw [ev_not]; exact de_not (ihE a)
        · rw [test_not]; exact dt_not (ih X sc0 sc W a c).2.1
      | _ => exact bad2
    | BoolOp op es pos =>
      have h := sound_bool (fun e => ih X sc0 sc W e c) op pos es
      have hf : DF Γ X W (.BoolOp op es pos) (evf (callF fs k) (trB op (es.map (trE g an N n sc0 sc)))) := by
        rcases es with _ | ⟨a, _ | ⟨b, r⟩⟩
        · exact bad2.2.2
        · obtain ⟨t, pt, kk⟩ := (ih X sc0 sc W a c).2.2.ex
          exact ⟨_, pe_one pt, kk⟩
        · cases op <;> exact df_no rfl
      refine ⟨h.1, ?_, hf⟩
      cases es with
      | nil => exact bad2.2.1
      | cons a r => exact (h.2 (by simp)).dt
    | Compare a ops bs pos =>
      rcases ops with _ | ⟨op, _ | ⟨op', _ | ⟨_, _⟩⟩⟩
      · exact bad2
      · rcases bs with _ | ⟨b, _ | ⟨_, _⟩⟩
        · exact bad2
        · show Both fs Γ k X W _ (if behindInMarks op b = true then .bad else .cmp op _ _)
          by_cases h : behindInMarks op b = true
          · rw [if_pos h]; exact bad2
          · rw [if_neg h]
            have h' : behindInMarks op b = false := by simpa using h
            have o : OpS Γ X (compareOp op) (cmpOp op) := ops_cmp c.hK c.room.units66 op
            refine ⟨?_, ?_, df_no rfl⟩
            · rw [ev_cmp]; exact de_cmp h' o (ihB a) (ihB b)
            · rw [test_plain rfl, ev_cmp]; exact dt_cmp h' o (ihB a) (ihB b)
        · exact bad2
      · rcases bs with _ | ⟨b, _ | ⟨d, _ | ⟨_, _⟩⟩⟩
        · exact bad2
        · exact bad2
        · show Both fs Γ k X W _ (if lastMarks [op, op'] [b, d] = true then .bad else .chain op op' _ _ _)
          by_cases h : lastMarks [op, op'] [b, d] = true
          · rw [if_pos h]; exact bad2
          · rw [if_neg h]
            have h' : lastMarks [op, op'] [b, d] = false := by simpa using h
            have o : OpS Γ X (compareOp op) (cmpOp op) := ops_cmp c.hK c.room.units66 op
            have o' : OpS Γ X (compareOp op') (cmpOp op') := ops_cmp c.hK c.room.units66 op'
            refine ⟨?_, ?_, df_no rfl⟩
            · rw [ev_chain]; exact de_chain h' o o' (ihE a) (ihE b) (ihE d)
            · rw [test_plain rfl, ev_chain]; exact dt_chain h' o o' (ihE a) (ihE b) (ihE d)
        · exact bad2
      · rcases bs with _ | ⟨b, _ | ⟨d, _ | ⟨_, _⟩⟩⟩ <;> exact bad2
    | Dict ks vs pos =>
      by_cases hd : ∃ k1 c1 q1 k2 c2 q2 x1 r1 x2 r2 i1 i2, ks = [some (.Constant (.str k1) c1 q1), some (.Constant (.str k2) c2 q2)] ∧ vs = [.Name x1 r1, .Name x2 r2] ∧ trE g an N n sc0 sc (.Name x1 r1) = .var i1 ∧ trE g an N n sc0 sc (.Name x2 r2) = .var i2
      · obtain ⟨k1, c1, q1, k2, c2, q2, x1, r1, x2, r2, i1, i2, rfl, rfl, t1, t2⟩ := hd
        have et : trE g an N (n + 1) sc0 sc (.Dict [some (.Constant (.str k1) c1 q1), some (.Constant (.str k2) c2 q2)] [.Name x1 r1, .Name x2 r2] pos) = .newD k1 k2 i1 i2 := by
          show newDx k1 k2 (trE g an N n sc0 sc (.Name x1 r1)) (trE g an N n sc0 sc (.Name x2 r2)) = _
          rw [t1, t2]
          rfl
        rw [et]
        refine both_plain ?_ rfl (fun _ => rfl) (df_no rfl)
        rw [ev_newD]
        have nv := fun {x : Str} {r : Pos} {i : Nat} (t : trE g an N n sc0 sc (.Name x r) = .var i) => name_var c (((hn x r).resolve_right (fun z => by rw [t] at z; cases z)).symm.trans t)
        obtain ⟨n1, v1, o1, o1'⟩ := nv t1
        obtain ⟨n2, v2, o2, o2'⟩ := nv t2
        exact de_newD n1 v1 o1 o1' n2 v2 o2 o2'
      · have et : trE g an N (n + 1) sc0 sc (.Dict ks vs pos) = .emp ∧ ks = [] ∧ vs = [] ∨ trE g an N (n + 1) sc0 sc (.Dict ks vs pos) = .bad := by
          exact tr_dict hd
        rcases et with ⟨et, rfl, rfl⟩ | et
        · rw [et]
          refine both_plain ?_ rfl (fun _ => rfl) (df_no rfl)
          rw [ev_emp]
          exact de_emp
        · rw [et]
          exact bad2
    | IfExp t a b pos =>
      show Both fs Γ k X W _ (.ite _ _ _)
      refine ⟨?_, ?_, ?_⟩
      · rw [ev_ite]; exact de_ite (ih X sc0 sc W t c).2.1 (ihE a) (ihE b)
      · rw [test_ite]; exact dt_bad
      · rw [evf_ite]; exact df_ite (ih X sc0 sc W t c).2.1 (ih X sc0 sc W a c).2.2 (ih X sc0 sc W b c).2.2
    | Subscript a b pos =>
      have key : ¬ isSlice b = true → Both fs Γ k X W (.Subscript a b pos) (.ix (bw an a (trE g an N n sc0 sc a)) (trE g an N n sc0 sc b)) := fun h => by
        refine both_plain ?_ rfl (fun _ => rfl) (df_no rfl)
        rw [ev_ix]
        exact de_ix c.hK (plainIx h) (ihB a) (ihE b)
      cases b with
      | Constant cc ck p2 =>
        cases cc with
        | str k' =>
          refine both_plain ?_ rfl (fun _ => rfl) (df_no rfl)
          show DE Γ X W _ (ev _ (.dix _ k'))
          rw [ev_dix]
          exact de_dix (by have := c.room.units66; omega) (ihE a)
        | _ => exact key (fun z => by cases z)
      | Slice lo hi st p2 =>
        cases st with
        | none =>
          refine both_plain ?_ rfl (fun _ => rfl) (df_no rfl)
          show DE Γ X W _ (ev _ (.sl _ _ _))
          rw [ev_sl]
          refine de_sl c.hK (ihB a) ?_ ?_
          · cases lo with
            | none => dsimp only; rw [evo_none]; exact do_none
            | some l => dsimp only; rw [evo_some]; exact do_some (ihE l)
          · cases hi with
            | none => dsimp only; rw [evo_none]; exact do_none
            | some l => dsimp only; rw [evo_some]; exact do_some (ihE l)
        | some st =>
          cases lo with
          | some _ => exact bad2
          | none =>
            cases hi with
            | some _ => exact bad2
            | none =>
              refine both_plain ?_ rfl (fun _ => rfl) (df_no rfl)
              show DE Γ X W _ (ev _ (.slS _ _))
              rw [ev_slS]
              exact de_slS c.hK (ihB a) (ihE st)
      | _ => exact key (fun z => by cases z)
    | Call f args kws pos =>
      cases f with
      | Name x p =>
        cases kws with
        | nil =>
          exact both_plain (sound_new (an := an) (sound_zp c ihE (sound_srt c ihE (sound_call c hn ihE)))).1 (plain_new (plain_zp (plain_srt plain_call))) (fun _ => rfl) (sound_new (an := an) (sound_zp c ihE (sound_srt c ihE (sound_call c hn ihE)))).2
        | cons kw kws => exact both_plain (sound_kw c ihE).1 plain_kw (fun _ => rfl) (df_no (sound_kw (p := p) (pos := pos) c ihE).2)
      | Attribute o nm apos =>
        cases kws with
        | cons _ _ => cases args <;> exact bad2
        | nil =>
          cases args with
          | nil => exact bad2
          | cons e1 es =>
            show Both fs Γ k X W _ (trPop (popC o nm apos pos (e1 :: es)) (trE g an N n sc0 sc o) (exs ((e1 :: es).map (trE g an N n sc0 sc))))
            refine both_plain (sound_pop c ihE) plain_pop (fun _ => rfl) (df_no ?_)
            unfold trPop
            split <;> rfl
      | _ => exact bad2
    | ListComp elt gens scope pos =>
      rcases gens with _ | ⟨⟨tg, iter, ifs, ay⟩, _ | ⟨_, _⟩⟩
      · exact bad2
      · by_cases ha : ay = 0
        · subst ha
          rcases ifs with _ | ⟨t, _ | ⟨_, _⟩⟩
          · show Both fs Γ k X W _ (if _ then _ else _)
            by_cases hh : blkC N sc scope (ownOf N scope) = true ∧ isSet iter = false ∧ (slots (trT g N (trE g an N n scope (relS scope sc)) n scope (relS scope sc) tg)).all (fun j => ((ownOf N scope).map (·.2)).contains j) = true
            · rw [if_pos hh]
              obtain ⟨tt, p1, p2⟩ := sound_comp (elt := elt) (ifs := []) (pos := pos) (ct := .con (.bl true)) c ih (fun X' _ => by rw [test_true]; exact dts_nil) hh
              have hf : DF Γ X W _ _ := ⟨tt, p1.1, p2⟩
              refine both_plain ?_ rfl (fun _ => rfl) hf
              rw [ev_comp]
              exact hf.de
            · rw [if_neg hh]; exact bad2
          · show Both fs Γ k X W _ (if _ then _ else _)
            by_cases hh : blkC N sc scope (ownOf N scope) = true ∧ isSet iter = false ∧ (slots (trT g N (trE g an N n scope (relS scope sc)) n scope (relS scope sc) tg)).all (fun j => ((ownOf N scope).map (·.2)).contains j) = true
            · rw [if_pos hh]
              obtain ⟨tt, p1, p2⟩ := sound_comp (elt := elt) (ifs := [t]) (pos := pos) (ct := trE g an N n scope (relS scope sc) t) c ih (fun X' cx => dts_one (ih _ _ _ _ t cx).2.1) hh
              have hf : DF Γ X W _ _ := ⟨tt, p1.1, p2⟩
              refine both_plain ?_ rfl (fun _ => rfl) hf
              rw [ev_comp]
              exact hf.de
            · rw [if_neg hh]; exact bad2
          · exact bad2
        · have e : trE g an N (n + 1) sc0 sc (.ListComp elt [⟨tg, iter, ifs, ay⟩] scope pos) = .bad := by
            rcases ifs with _ | ⟨t, _ | ⟨_, _⟩⟩ <;> (unfold trE; split <;> first | rfl | (rename_i z; simp_all))
          rw [e]
          exact bad2
      · rename_i g2 gs
        rcases gs with _ | ⟨g3, gs⟩
        · obtain ⟨tg1, iter1, ifs1, ay1⟩ := g2
          by_cases ha : ay = 0 ∧ ay1 = 0 ∧ ifs = [] ∧ ifs1.length ≤ 1
          · obtain ⟨rfl, rfl, rfl, hl⟩ := ha
            rcases ifs1 with _ | ⟨t, _ | ⟨_, _⟩⟩
            · obtain ⟨tt, p1, p2⟩ := sound_comp2 (elt := elt) (tg := tg) (iter := iter) (tg1 := tg1) (iter1 := iter1) (ifs1 := []) (scope := scope) (pos := pos) (ct := .con (.bl true)) c ih (fun X' _ => by rw [test_true]; exact dts_nil)
              have hf : DF Γ X W _ _ := ⟨tt, p1.1, p2⟩
              refine both_plain ?_ plain_c2 (fun _ => rfl) hf
              show DE Γ X W _ (ev (callF fs k) (trC2 _ _ _ _ _ _ _ _ _ _ _))
              rw [ev_c2]
              exact hf.de
            · obtain ⟨tt, p1, p2⟩ := sound_comp2 (elt := elt) (tg := tg) (iter := iter) (tg1 := tg1) (iter1 := iter1) (ifs1 := [t]) (scope := scope) (pos := pos) (ct := trE g an N n scope (relS scope sc) t) c ih (fun X' cx => dts_one (ih _ _ _ _ t cx).2.1)
              have hf : DF Γ X W _ _ := ⟨tt, p1.1, p2⟩
              refine both_plain ?_ plain_c2 (fun _ => rfl) hf
              show DE Γ X W _ (ev (callF fs k) (trC2 _ _ _ _ _ _ _ _ _ _ _))
              rw [ev_c2]
              exact hf.de
            · simp at hl
          · rw [tr_c2_bad ha]
            exact bad2
        · rw [tr_c3_bad]
          exact bad2
    | _ => exact bad2
end
end PD

set_option Elab.async false
set_option linter.all false
set_option maxRecDepth 100000
set_option maxHeartbeats 4000000
namespace PD
open PySem PySem.Spec PyProof.Rows L2
/-! ### statements of the text -/
def swN (sc : Scope) (x : Str) (pline vline : Nat) (scope : Scope) : Bool := sc.names.lookup x == some .local && pline == vline && !(scope.names.any fun (n, k) => n == x && (k == .local || k == .cell))
def namesOf (sc : Scope) (line : Nat) (ts : List Expr) : List Str := ts.filterMap fun
  | .Name id pos => if sc.names.lookup id == some .local && pos.line == line then some id else none
  | _ => none
def swS (sc : Scope) (ts vs : List Expr) : Option (Option (List Str)) :=
  if (!(ts.length == 2 || ts.length == 3) || vs.length != ts.length) = true then some none
  else if vs.any star = true then some none
  else if ((namesOf sc ((ts.head?.map (·.pos.line)).getD 0) ts).length != ts.length || (namesOf sc ((ts.head?.map (·.pos.line)).getD 0) ts).eraseDups.length != (namesOf sc ((ts.head?.map (·.pos.line)).getD 0) ts).length) = true then some none
  else if vs.all (foldedForSure 8) = true then some none
  else if vs.all (constantsAlone 8) = true then none
  else some (some (namesOf sc ((ts.head?.map (·.pos.line)).getD 0) ts))
theorem kind_block {env : Env} {sc : Scope} (h : env.scope = sc) (hk : sc.kind = .function) : env.blockKind = .function := by
  unfold Env.blockKind
  rw [h, hk]
  rfl
theorem sw_ok {env : Env} {sc : Scope} {ts vs : List Expr} {k1 k2 : Nat} {p1 p2 : Pos} {r : Option (List Str)} (h : env.scope = sc) (hk : sc.kind = .function) (e : swS sc ts vs = some r) : swappedStores [.Tuple ts k1 p1] (.Tuple vs k2 p2) env = pure r := by
  have hb := kind_block h hk
  subst h
  unfold swS at e
  unfold swappedStores
  simp only [hb, bne_self_eq_false, Bool.or_false]
  change (if (!(ts.length == 2 || ts.length == 3) || vs.length != ts.length) = true then (pure none : Sem (Option (List Str))) else if vs.any star = true then pure none
    else if ((namesOf env.scope ((ts.head?.map (·.pos.line)).getD 0) ts).length != ts.length || (namesOf env.scope ((ts.head?.map (·.pos.line)).getD 0) ts).eraseDups.length != (namesOf env.scope ((ts.head?.map (·.pos.line)).getD 0) ts).length) = true then pure none
    else if vs.all (foldedForSure 8) = true then pure none else if vs.all (constantsAlone 8) = true then _ else _) = _
  by_cases c1 : (!(ts.length == 2 || ts.length == 3) || vs.length != ts.length) = true
  · rw [if_pos c1] at e ⊢; cases e; rfl
  · rw [if_neg c1] at e ⊢
    by_cases c2 : vs.any star = true
    · rw [if_pos c2] at e ⊢; cases e; rfl
    · rw [if_neg c2] at e ⊢
      by_cases c3 : ((namesOf env.scope ((ts.head?.map (·.pos.line)).getD 0) ts).length != ts.length || (namesOf env.scope ((ts.head?.map (·.pos.line)).getD 0) ts).eraseDups.length != (namesOf env.scope ((ts.head?.map (·.pos.line)).getD 0) ts).length) = true
      · rw [if_pos c3] at e ⊢; cases e; rfl
      · rw [if_neg c3] at e ⊢
        by_cases c4 : vs.all (foldedForSure 8) = true
        · rw [if_pos c4] at e ⊢; cases e; rfl
        · rw [if_neg c4] at e ⊢
          by_cases c5 : vs.all (constantsAlone 8) = true
          · rw [if_pos c5] at e; cases e
          · rw [if_neg c5] at e ⊢; cases e; rfl
theorem sw_name {env : Env} {sc : Scope} {x : Str} {p pos : Pos} {elt : Expr} {gens : List Comprehension} {scope : Scope} {line : Nat} (h : env.scope = sc) (hk : sc.kind = .function) :
    swapsWith (.ListComp elt gens scope pos) (some (.Name x p)) line env = pure (swN sc x p.line pos.line scope) := by
  have hb := kind_block h hk
  subst h
  unfold swapsWith
  simp only [hb]
  rfl
theorem sw_else {env : Env} {tg : Option Expr} {e : Expr} {line : Nat} (h : isComp e = false) : swapsWith e tg line env = pure false := by
  cases e <;> first | rfl | exact Bool.noConfusion h
def isName : Expr → Bool
  | .Name .. => true
  | _ => false
theorem sw_tg {env : Env} {tg e : Expr} {line : Nat} (h : isName tg = false) : swapsWithSole [tg] e line env = pure false := by
  show swapsWith e (some tg) line env = pure false
  cases e <;> first | rfl | (cases tg <;> first | rfl | exact Bool.noConfusion h)
theorem stores_none {env : Env} {tg e : Expr} (h : isTuple tg = false ∨ isTuple e = false) : (∀ es p, tg ≠ .List es p) → swappedStores [tg] e env = pure none := fun hl => by
  rcases h with h | h
  · cases tg <;> first | exact Bool.noConfusion h | rfl | exact absurd rfl (hl _ _)
  · cases e <;> first | exact Bool.noConfusion h | (cases tg <;> rfl)
def isListX : Expr → Bool
  | .List .. => true
  | _ => false
def trPar2 (sc : Scope) (N : List Str) (x y : Str) (es : Exs) : Sx := match ixOf N x, ixOf N y with
  | some i, some j => if i ≠ j ∧ sc.names.lookup x = some .local ∧ sc.names.lookup y = some .local then .par [i, j] es else .bad
  | _, _ => .bad
def trPar3 (sc : Scope) (N : List Str) (x y z : Str) (es : Exs) : Sx := match ixOf N x, ixOf N y, ixOf N z with
  | some i, some j, some l => if i ≠ j ∧ i ≠ l ∧ j ≠ l ∧ sc.names.lookup x = some .local ∧ sc.names.lookup y = some .local ∧ sc.names.lookup z = some .local then .par [i, j, l] es else .bad
  | _, _, _ => .bad
/-- is the name's list written? -/
def isB (an : An) (N : List Str) (x : Str) : Bool := match ixOf N x with
  | some i => an.bs.contains i
  | none => false
/-- a new list -/
def isNew (g : GT) (sc : Scope) : Expr → Bool
  | .List _ _ => true
  | .ListComp _ _ _ _ => true
  | .Call (.Name f _) [_] [] _ => (match g.fns.lookup f with
    | some p => p.2
    | none => decide (f = "list") && isGl sc f)
  | .Call (.Name f _) _ [] _ => (match g.fns.lookup f with
    | some p => p.2
    | none => false)
  | .IfExp _ a b _ => isNew g sc a && isNew g sc b
  | .BinOp _ .Add (.List _ _) _ => true
  | _ => false
/-- what a name is set to -/
def ownw (g : GT) (an : An) (N : List Str) (sc : Scope) (x : Str) (e : Expr) (t : Ex) : Ex := if (isB an N x && isNew g sc e) = true then .own t else t
/-- is the name's list a cell? -/
def isC (an : An) (N : List Str) (x : Str) : Bool := match ixOf N x with
  | some i => an.cs.contains i
  | none => false
def ownq (g : GT) (an : An) (N : List Str) (sc : Scope) (x : Str) (e : Expr) (t : Ex) : Ex := if (isC an N x && isNew g sc e) = true then .newL t else ownw g an N sc x e t
/-- loops over cells -/
def cellFor (an : An) (N : List Str) (sc : Scope) (tg : Expr) : Expr → Option (Bool × Expr)
  | .Name x p => if isC an N x = true then some (false, .Name x p) else none
  | .Call (.Name f _) [.Name x p] [] _ => if f = "enumerate" ∧ isGl sc f = true ∧ isTuple tg = true ∧ isC an N x = true then some (true, .Name x p) else none
  | _ => none
/-- the slots of names -/
def nmIx (N : List Str) (sc0 sc : Scope) : List Expr → Option (List Nat)
  | [] => some []
  | .Name x _ :: r => (match ixOf N x with
    | some i => if sc.names.lookup x = some .local ∨ (sc.names.lookup x = some .cell ∧ sc0.names.lookup x = some .cell) then (nmIx N sc0 sc r).map (i :: ·) else none
    | none => none)
  | _ => none
def ownL (g : GT) (an : An) (N : List Str) (sc : Scope) (tr : Expr → Ex) : List Expr → List Expr → List Ex
  | .Name x _ :: r, v :: vs => ownq g an N sc x v (tr v) :: ownL g an N sc tr r vs
  | _, _ => []
def ownAny (g : GT) (an : An) (N : List Str) (sc : Scope) : List Expr → List Expr → Bool
  | .Name x _ :: r, v :: vs => ((isB an N x || isC an N x) && isNew g sc v) || ownAny g an N sc r vs
  | _, _ => false
/-- names = a display in which new lists stand -/
def trParT (g : GT) (an : An) (N : List Str) (sc0 sc : Scope) (tr : Expr → Ex) (ts vs : List Expr) : Option Sx :=
  if ownAny g an N sc ts vs = true ∧ vs.any star = false ∧ ts.length = vs.length ∧ ts.length ≤ 30 then (nmIx N sc0 sc ts).map fun is => .par is (exs (ownL g an N sc tr ts vs)) else none
def trAsg (g : GT) (an : An) (N : List Str) (n : Nat) (sc0 sc : Scope) (tg e : Expr) : Sx :=
  if star tg = true ∨ isListX tg = true then .bad else
  match tg, e with
  | .Tuple ts _ _, .Tuple vs _ _ => match swS sc ts vs with
    | none => .bad
    | some none => (trParT g an N sc0 sc (trE g an N n sc0 sc) ts vs).getD (.asg (trT g N (trE g an N n sc0 sc) n sc0 sc tg) (trE g an N n sc0 sc e))
    | some (some names) => if vs.any star = true then .bad else match ts, vs with
      | [.Name x _, .Name y _], [a, b] => if names = [x, y] then trPar2 sc N x y (exs [ownq g an N sc x a (trE g an N n sc0 sc a), ownq g an N sc y b (trE g an N n sc0 sc b)]) else .bad
      | [.Name x _, .Name y _, .Name z _], [a, b, c] => if names = [x, y, z] then trPar3 sc N x y z (exs [ownq g an N sc x a (trE g an N n sc0 sc a), ownq g an N sc y b (trE g an N n sc0 sc b), ownq g an N sc z c (trE g an N n sc0 sc c)]) else .bad
      | _, _ => .bad
  | .Name x p, .ListComp _ _ scope pos => if swN sc x p.line pos.line scope = true then (match ixOf N x with
      | some i => if sc.names.lookup x = some .local then .asg (.name i) (ownw g an N sc x e (trE g an N n sc0 sc e)) else .bad
      | none => .bad) else (match ixOf N x with
      | some i => if sc.names.lookup x = some .local ∨ (sc.names.lookup x = some .cell ∧ sc0.names.lookup x = some .cell) then .asg (.name i) (ownq g an N sc x e (trE g an N n sc0 sc e)) else .bad
      | none => .bad)
  | .Name x _, e => if isComp e = true then .bad else (match ixOf N x with
      | some i => if sc.names.lookup x = some .local ∨ (sc.names.lookup x = some .cell ∧ sc0.names.lookup x = some .cell) then .asg (.name i) (ownq g an N sc x e (trE g an N n sc0 sc e)) else .bad
      | none => .bad)
  | .Subscript (.Name x px) ix ps, e => if isB an N x = true then (match trName g N sc x with
      | .var i => if isSlice ix = true then .bad else .setO i (trE g an N n sc0 sc ix) (trE g an N n sc0 sc e)
      | _ => .bad) else .asg (trT g N (trE g an N n sc0 sc) n sc0 sc (.Subscript (.Name x px) ix ps)) (trE g an N n sc0 sc e)
  | tg, e => .asg (trT g N (trE g an N n sc0 sc) n sc0 sc tg) (trE g an N n sc0 sc e)
/-- a method of a list that is written: its slot, the method -/
def metOf (g : GT) (an : An) (N : List Str) (sc : Scope) : Expr → Option (Nat × Me × List Expr)
  | .Call (.Attribute (.Name x _) m apos) args [] cpos => if (isB an N x && (apos.endLine == cpos.line) && !(args.any star) && decide (args.length < 30)) = true then (match trName g N sc x, meOf m with
      | .var i, some me => some (i, me, args)
      | _, _ => none) else none
  | _ => none
/-- L1.append(L2.pop(..)): the two slots -/
def appOf (g : GT) (an : An) (N : List Str) (sc : Scope) : Expr → Option (Nat × Nat × List Expr)
  | .Call (.Attribute (.Name x _) m apos) [e] [] cpos => if (isB an N x && (apos.endLine == cpos.line) && decide (m = ("append" : Str))) = true then (match trName g N sc x, metOf g an N sc e with
      | .var i, some (j, .pop, args) => if i ≠ j then some (i, j, args) else none
      | _, _ => none) else none
  | _ => none
/-- name = an expression to which a list of the def's own is lent: the two slots -/
def lendOf (an : An) (N : List Str) (sc : Scope) (tg e : Expr) (line : Nat) : Option (Nat × Nat) := match an.ln.lookup line, tg with
  | some i, .Name x _ => if isComp e = true then none else (match ixOf N x with
      | some j => if i ≠ j ∧ sc.names.lookup x = some .local then some (j, i) else none
      | none => none)
  | _, _ => none
def trAug (N : List Str) (sc0 sc : Scope) (x : Str) (op : Operator) (e : Ex) : Sx := match ixOf N x with
  | some i => if (op = .Add ∨ op = .Sub) ∧ (sc.names.lookup x = some .local ∨ (sc.names.lookup x = some .cell ∧ sc0.names.lookup x = some .cell)) then .aug i op e else .bad
  | none => .bad
def isStrC : Expr → Bool
  | .Constant (.str _) _ _ => true
  | _ => false
def frzW (an : An) (line : Nat) (s : Sx) : Sx := match an.fz.lookup line with
  | some is => .seq (.frz is) s
  | none => s
/-! ### the suite of an except clause; i: the slot of its name -/
def isVar (i : Nat) : Ex → Bool
  | .var j => j == i
  | _ => false
def trHIs (g : GT) (N : List Str) (i : Nat) (sc : Scope) (f : Str) (a b : Expr) : Ex := match a with
  | .Name x _ => (match b with
    | .Name y _ => if f = "isinstance" ∧ isGl sc "isinstance" = true ∧ isGl sc y = true ∧ isVar i (trName g N sc x) = true then (match g.cls.lookup y with
      | some r => .errIs i r.2.1 r.2.2
      | none => .bad) else .bad
    | _ => .bad)
  | _ => .bad
def trHAt (g : GT) (N : List Str) (i : Nat) (sc : Scope) (o : Expr) (a : Str) : Ex := match o with
  | .Name x _ => if a = "value" ∧ isVar i (trName g N sc x) = true then .errV i else .bad
  | _ => .bad
def trHCall (g : GT) (N : List Str) (i : Nat) (sc : Scope) (f : Expr) (args : List Expr) (kws : List Keyword) (tr : Expr → Ex) : Ex := match f with
  | .Name f _ => (match kws with
    | [] => (match args with
      | [a] => if f = "repr" ∧ isGl sc "repr" = true ∧ star a = false then .bi .repr (tr a) else .bad
      | [a, b] => trHIs g N i sc f a b
      | _ => .bad)
    | _ => .bad)
  | _ => .bad
/-- raise x(a) -/
def trRaise (g : GT) (sc : Scope) (ex cause : Option Expr) (tr : Expr → Ex) : Sx := match cause with
  | some _ => .bad
  | none => (match ex with
    | some (.Call f args kws _) => (match f with
      | .Name x _ => (match kws with
        | [] => (match args with
          | [a] => if isGl sc x = true ∧ star a = false then (match g.rz.lookup x with
            | some c => .raise c (tr a)
            | none => .bad) else .bad
          | _ => .bad)
        | _ => .bad)
      | _ => .bad)
    | _ => .bad)
def trHCmp (tr : Expr → Ex) (l : Expr) (ops : List CmpOp) (rs : List Expr) : Ex := match ops with
  | [op] => (match rs with
    | [r] => if behindInMarks op r = true then .bad else .cmp op (tr l) (tr r)
    | _ => .bad)
  | _ => .bad
def trHE (g : GT) (N : List Str) (i : Nat) (sc : Scope) : Nat → Expr → Ex
  | 0, _ => .bad
  | n + 1, e => match e with
    | .Constant c _ _ => trC c
    | .Name x _ => trName g N sc x
    | .Attribute o a _ => trHAt g N i sc o a
    | .BinOp a op b _ => .bin op (trHE g N i sc n a) (trHE g N i sc n b)
    | .IfExp c a b _ => .ite (trHE g N i sc n c) (trHE g N i sc n a) (trHE g N i sc n b)
    | .Tuple es _ _ => if es.any star = true then .bad else .tup (exs (es.map (trHE g N i sc n)))
    | .List es _ => if es.any star = true then .bad else .lst (exs (es.map (trHE g N i sc n)))
    | .Call f args kws _ => trHCall g N i sc f args kws (trHE g N i sc n)
    | .Compare l ops rs _ => trHCmp (trHE g N i sc n) l ops rs
    | _ => .bad
mutual
def trHS (g : GT) (an : An) (N : List Str) (i : Nat) (sc : Scope) : Nat → Stmt → Sx
  | 0, _ => .bad
  | n + 1, st => match st with
    | .Assign [.Name x _] e _ => if isComp e = true then .bad else (match ixOf N x with
      | some j => if sc.names.lookup x = some .local then .asg (.name j) (ownw g an N sc x e (trHE g N i sc n e)) else .bad
      | none => .bad)
    | .Expr e _ => (match metOf g an N sc e with
      | some (j, m, args) => if isComp e = true then .bad else .mut m j (exs (args.map (trHE g N i sc n)))
      | none => .bad)
    | .Return (some e) _ => .ret (trHE g N i sc n e)
    | .Return none _ => .retN
    | .Pass _ => .skip
    | .If c a b _ => .ife (trHE g N i sc n c) (trHSs g an N i sc n a) (trHSs g an N i sc n b)
    | _ => .bad
def trHSs (g : GT) (an : An) (N : List Str) (i : Nat) (sc : Scope) : Nat → List Stmt → Sx
  | 0, _ => .bad
  | n + 1, sts => match sts with
    | [] => .skip
    | st :: r => .seq (frzW an st.pos.line (trHS g an N i sc n st)) (trHSs g an N i sc n r)
end
def trTry (g : GT) (N : List Str) (sc : Scope) (x nm : Str) (suite : List Stmt) (tb : Sx) (th : Nat → List Stmt → Sx) : Sx := if isGl sc x = true ∧ sc.names.lookup nm = some .local then (match g.cls.lookup x with
    | some r => (match ixOf N nm with
      | some i => if r.2.1.all (fun c => (g.rz.map (·.2)).contains c) = true then .tryS tb r.2.1 r.2.2 i (th i suite) else .bad
      | none => .bad)
    | none => .bad) else .bad
def trTryH (g : GT) (N : List Str) (sc : Scope) (hd : ExceptHandler) (tb : Sx) (th : Nat → List Stmt → Sx) : Sx := match hd with
  | .ExceptHandler ty nm suite _ => (match ty with
    | some (.Name x _) => (match nm with
      | some nm => (match suite with
        | b0 :: suite => trTry g N sc x nm (b0 :: suite) tb th
        | [] => .bad)
      | none => .bad)
    | _ => .bad)
/-- the clauses, one after the other -/
def trTryL (g : GT) (N : List Str) (sc : Scope) (th : Nat → List Stmt → Sx) : List ExceptHandler → Sx → Sx
  | [], tb => tb
  | hd :: r, tb => trTryL g N sc th r (trTryH g N sc hd tb th)
def trTryS (g : GT) (N : List Str) (sc : Scope) (hds : List ExceptHandler) (els fin : List Stmt) (tb : Sx) (th : Nat → List Stmt → Sx) : Sx := match els with
  | _ :: _ => .bad
  | [] => (match fin with
    | _ :: _ => .bad
    | [] => (match hds with
      | [] => .bad
      | hd :: r => trTryL g N sc th (hd :: r) tb))
mutual
def trS (g : GT) (an : An) (N : List Str) : Nat → Scope → Scope → Stmt → Sx
  | 0, _, _, _ => .bad
  | n + 1, sc0, sc, st => match st with
    | .Expr e _ => if isStrC e = true then .skip else if isComp e = true then .bad else (match appOf g an N sc e with
      | some (i, j, args) => .appP i j (exs (args.map (trE g an N n sc0 sc)))
      | none => (match metOf g an N sc e with
        | some (i, m, args) => .mut m i (exs (args.map (trE g an N n sc0 sc)))
        | none => .expr (trE g an N n sc0 sc e)))
    | .Return (some e) _ => if (an.ow && isNew g sc e) = true then .retO (trE g an N n sc0 sc e) else (match an.nw, e with
      | true, .List es _ => if es.any star = true then .bad else .ret (.new (exs (es.map (trE g an N n sc0 sc))))
      | _, _ => .ret (trE g an N n sc0 sc e))
    | .Return none _ => .retN
    | .Pass _ => .skip
    | .Break _ => .brk
    | .Continue _ => .cont
    | .If c a b _ => .ife (trE g an N n sc0 sc c) (trSs g an N n sc0 sc a) (trSs g an N n sc0 sc b)
    | .While c b [] _ => .whl (trE g an N n sc0 sc c) (trSs g an N n sc0 sc b)
    | .For tg it b [] _ => if isSet it = true then .bad else (match cellFor an N sc tg it with
      | some (k, a) => .forC k (trE g an N n sc0 sc a) (trT g N (trE g an N n sc0 sc) n sc0 sc tg) (trSs g an N n sc0 sc b)
      | none => .for_ (trI tg sc (trE g an N n sc0 sc) it) (trT g N (trE g an N n sc0 sc) n sc0 sc tg) (trSs g an N n sc0 sc b))
    | .Assign [tg] e pos => (match lendOf an N sc tg e pos.line with
      | some (j, i) => .asgB j i (trE g an N n sc0 sc e)
      | none => (match metOf g an N sc e with
        | some (i, .pop, args) => if star tg = true ∨ isListX tg = true then .bad else .popO (trT g N (trE g an N n sc0 sc) n sc0 sc tg) i (exs (args.map (trE g an N n sc0 sc)))
        | some _ => .bad
        | none => trAsg g an N n sc0 sc tg e))
    | .AugAssign (.Name x _) op e _ => trAug N sc0 sc x op (trE g an N n sc0 sc e)
    | .Raise ex cause _ => trRaise g sc ex cause (trE g an N n sc0 sc)
    | .Try b hds els fin _ => trTryS g N sc hds els fin (trSs g an N n sc0 sc b) (fun i => trHSs g an N i sc n)
    | _ => .bad
def trSs (g : GT) (an : An) (N : List Str) : Nat → Scope → Scope → List Stmt → Sx
  | 0, _, _, _ => .bad
  | n + 1, sc0, sc, sts => match sts with
    | [] => .skip
    | st :: r => .seq (frzW an st.pos.line (trS g an N n sc0 sc st)) (trSs g an N n sc0 sc r)
end
section
variable {cl : Nat → List D → Hh → R D}
theorem exec_asg {t e} : exec cl (.asg t e) = fun en h => bndS (ev cl e en h) en fun d h1 => bndS (noExc (asgn cl t d en h1)) en fun en2 h2 => .nx en2 h2 := by funext en h; rw [exec]
theorem exec_par {is es} : exec cl (.par is es) = fun en h => bndS (evs cl es en h) en fun ds h1 => match parSet is ds en with | some en' => .nx en' h1 | none => .bad := by funext en h; rw [exec] <;> rfl
theorem exec_aug {i op e} : exec cl (.aug i op e) = augX i op (ev cl e) := by funext en h; rw [exec] <;> rfl
theorem exec_expr {e} : exec cl (.expr e) = fun en h => bndS (ev cl e en h) en fun _ h1 => .nx en h1 := by funext en h; rw [exec]
theorem exec_ret {e} : exec cl (.ret e) = fun en h => bndS (ev cl e en h) en fun d h1 => .rt d h1 := by funext en h; rw [exec]
theorem exec_retN : exec cl .retN = fun _ h => .rt .non h := by funext en h; rw [exec]
theorem exec_ife {c a b} : exec cl (.ife c a b) = fun en h => bndS (test cl c en h) en fun k h1 => if k = true then exec cl a en h1 else exec cl b en h1 := by funext en h; rw [exec]
theorem exec_whl {c b} : exec cl (.whl c b) = fun en h => whileLoop (test cl c) (exec cl b) turns en h := by funext en h; rw [exec]
theorem exec_for {it t b} : exec cl (.for_ it t b) = fun en h => bndS (evi cl it en h) en fun I h1 => forL (asgn cl t) (exec cl b) I en h1 := by funext en h; rw [exec]
theorem exec_retO {e} : exec cl (.retO e) = fun en h => bndS (evf cl e en h) en fun ds h1 => .ro ds h1 := by funext en h; rw [exec]
theorem exec_frz {is} : exec cl (.frz is) = fun en h => .nx (frzE en is) h := by funext en h; rw [exec]
theorem exec_forC {k a t b} : exec cl (.forC k a t b) = fun en h => bndS (ev cl a en h) en (forCx k (asgn cl t) (exec cl b) en) := by funext en h; rw [exec]
theorem exec_mut {m i es} : exec cl (.mut m i es) = fun en h => match getO en i with | some xs => bndS (evs cl es en h) en fun ds h1 => (match mutOp m xs ds with | some p => .nx (en.set i (some (.own p.1))) h1 | none => .bad) | none => .bad := by funext en h; rw [exec] <;> rfl
theorem exec_popO {t i es} : exec cl (.popO t i es) = fun en h => match getO en i with | some xs => bndS (evs cl es en h) en fun ds h1 => (match mutOp .pop xs ds with | some p => bndS (noExc (asgn cl t p.2 (en.set i (some (.own p.1))) h1)) en fun en2 h2 => .nx en2 h2 | none => .bad) | none => .bad := by funext en h; rw [exec] <;> rfl
theorem exec_setO {i x e} : exec cl (.setO i x e) = fun en h => bndS (ev cl e en h) en fun d h1 => match getO en i with | some xs => bndS (ev cl x en h1) en fun y h2 => (match y with | .int k => (match L2.ixN xs.length k with | some j => .nx (en.set i (some (.own (xs.set j d)))) h2 | none => .bad) | _ => .bad) | none => .bad := by funext en h; rw [exec] <;> rfl
theorem exec_appP {i j es} : exec cl (.appP i j es) = fun en h => match getO en i, getO en j with | some xs, some ys => bndS (evs cl es en h) en fun ds h1 => (match mutOp .pop ys ds with | some p => (match mutOp .append xs [p.2] with | some q => .nx ((en.set j (some (.own p.1))).set i (some (.own q.1))) h1 | none => .bad) | none => .bad) | _, _ => .bad := by funext en h; rw [exec] <;> rfl
theorem exec_asgB {j i e} : exec cl (.asgB j i e) = fun en h => match getO en i with | some xs => (match ev cl e (en.set i (some (.lst xs))) h with | .ok d h1 => if lendOk xs i (en.set j (some d)) h1 = true then .nx (en.set j (some d)) h1 else .bad | _ => .bad) | none => .bad := by funext en h; rw [exec] <;> rfl
theorem exec_brk : exec cl .brk = fun en h => .bk en h := by funext en h; rw [exec]
theorem exec_cont : exec cl .cont = fun en h => .ct en h := by funext en h; rw [exec]
theorem exec_skip : exec cl .skip = fun en h => .nx en h := by funext en h; rw [exec]
theorem exec_seq {a b} : exec cl (.seq a b) = fun en h => thenS (exec cl a en h) (exec cl b) := by funext en h; rw [exec]
theorem exec_raise {c e} : exec cl (.raise c e) = fun en h => bndS (ev cl e en h) en fun d h1 => .exc c d en h1 := by funext en h; rw [exec]
theorem exec_try {b cs ds i hb} : exec cl (.tryS b cs ds i hb) = fun en h => catchS (exec cl b en h) cs ds i (exec cl hb) := by funext en h; rw [exec]
theorem exec_bad : exec cl .bad = fun _ _ => .bad := by funext en h; rw [exec]
end
end PD

set_option Elab.async false
set_option linter.all false
set_option maxRecDepth 100000
set_option maxHeartbeats 4000000
namespace PD
open PySem PySem.Spec PyProof.Rows L2
section
variable {g : GT} {an : An} {fs : List Fn} {Γ : Wd} {N : List Str} {k : Nat} {X : Cx} {W : WX} {sc0 sc : Scope}
theorem badS {st : Stmt} : DS Γ X W st (exec (callF fs k) .bad) := by rw [exec_bad]; exact ds_bad
theorem ev_lc {cl : Nat → List D → Hh → R D} {n : Nat} {elt : Expr} {gens : List Comprehension} {scope : Scope} {pc : Pos} : ev cl (trE g an N n sc0 sc (.ListComp elt gens scope pc)) = fun en h => bnd (evf cl (trE g an N n sc0 sc (.ListComp elt gens scope pc)) en h) fun ds h1 => .ok (.lst ds) h1 := by
  cases n with
  | zero => rfl
  | succ n =>
    unfold trE
    split <;> first | rfl | skip
    all_goals first | (exact ev_c2) | (rename_i heq; cases heq; done) | (split <;> rfl)
theorem nm_var {i : Nat} {x : Str} (c : Cok g fs Γ N k X sc0 sc W) (q : trName g N sc x = .var i) : X.N[i]? = some x ∧ Vis X.env.scope x ∧ (x == ("__debug__" : Str)) = false ∧ (x == ("__classdict__" : Str)) = false := by
  unfold trName at q
  by_cases ho : odd x = true
  · rw [if_pos ho] at q; cases q
  · rw [if_neg ho] at q
    have hd : (x == ("__debug__" : Str)) = false ∧ (x == ("__classdict__" : Str)) = false := by
      unfold odd at ho
      simpa using ho
    have hsc := c.hsc
    have hv : (match ixOf N x with | some i => Ex.var i | none => .bad) = .var i → X.N[i]? = some x := fun q => by
      cases q2 : ixOf N x with
      | none => rw [q2] at q; cases q
      | some j =>
        rw [q2] at q
        cases q
        rw [c.hN]
        exact ixOf_get q2
    cases q3 : sc.names.lookup x with
    | none => rw [q3] at q; cases q
    | some kd =>
      rw [q3] at q
      cases kd with
      | «local» => exact ⟨hv q, .inl (by rw [hsc]; exact q3), hd.1, hd.2⟩
      | cell => exact ⟨hv q, .inr (.inl (by rw [hsc]; exact q3)), hd.1, hd.2⟩
      | free => exact ⟨hv q, .inr (.inr (by rw [hsc]; exact q3)), hd.1, hd.2⟩
      | globalImplicit =>
        dsimp only at q
        cases q4 : g.cons.lookup x with
        | none => rw [q4] at q; cases q
        | some d => rw [q4] at q; cases q
      | globalExplicit => cases q
theorem sound_set_comp {i : Nat} {x : Str} {p pos pc : Pos} {elt : Expr} {gens : List Comprehension} {scope : Scope} (c : Cok g fs Γ N k X sc0 sc W) (hi : X.N[i]? = some x) (hl : X.env.scope.names.lookup x = some .local)
    (hsw : swapsWith (.ListComp elt gens scope pc) (some (.Name x p)) pos.line X.env = pure true) : ∀ n : Nat,
    ∃ t, PS X (.Assign [.Name x p] (.ListComp elt gens scope pc) pos) (tAsg t (gName i)) ∧ ∀ α h H en σ Q, HR Γ.K α h H → ER Γ α H en σ → PstF Γ α H (evf (callF fs k) (trE g an N n sc0 sc (.ListComp elt gens scope pc)) en h) Q (fun c d H' => W c d σ H') → t σ H Q := by
  have bad : ∃ t, PS X (.Assign [.Name x p] (.ListComp elt gens scope pc) pos) (tAsg t (gName i)) ∧ ∀ α h H en σ Q, HR Γ.K α h H → ER Γ α H en σ → PstF Γ α H (evf (callF fs k) .bad en h) Q (fun c d H' => W c d σ H') → t σ H Q :=
    ⟨fun _ _ _ => False, ⟨fun _ _ _ _ _ _ h => h.elim⟩, fun α h H en σ Q _ _ q => q⟩
  intro n
  cases n with
  | zero => exact bad
  | succ n =>
    have ih := fun X sc0 sc W e c => sound (g := g) (an := an) (fs := fs) (Γ := Γ) (N := N) (k := k) n X sc0 sc W e c
    rcases gens with _ | ⟨⟨tg, iter, ifs, ay⟩, _ | ⟨g2, gs⟩⟩
    · exact bad
    · by_cases ha : ay = 0
      · subst ha
        rcases ifs with _ | ⟨t, _ | ⟨_, _⟩⟩
        · by_cases hh : blkC N sc scope (ownOf N scope) = true ∧ isSet iter = false ∧ (slots (trT g N (trE g an N n scope (relS scope sc)) n scope (relS scope sc) tg)).all (fun j => ((ownOf N scope).map (·.2)).contains j) = true
          · obtain ⟨tt, p1, p2⟩ := sound_comp (elt := elt) (ifs := []) (pos := pc) (ct := .con (.bl true)) c ih (fun X' _ => by rw [test_true]; exact dts_nil) hh
            refine ⟨tt, p1.2 hi hl hsw, fun α h H en σ Q hr er q => p2 _ _ _ _ _ _ hr er ?_⟩
            have e : trE g an N (n + 1) sc0 sc (.ListComp elt [⟨tg, iter, [], 0⟩] scope pc) = _ := if_pos hh
            rw [e] at q
            exact q
          · have e : trE g an N (n + 1) sc0 sc (.ListComp elt [⟨tg, iter, [], 0⟩] scope pc) = _ := if_neg hh
            rw [e]
            exact bad
        · by_cases hh : blkC N sc scope (ownOf N scope) = true ∧ isSet iter = false ∧ (slots (trT g N (trE g an N n scope (relS scope sc)) n scope (relS scope sc) tg)).all (fun j => ((ownOf N scope).map (·.2)).contains j) = true
          · obtain ⟨tt, p1, p2⟩ := sound_comp (elt := elt) (ifs := [t]) (pos := pc) (ct := trE g an N n scope (relS scope sc) t) c ih (fun X' cx => dts_one (ih _ _ _ _ t cx).2.1) hh
            refine ⟨tt, p1.2 hi hl hsw, fun α h H en σ Q hr er q => p2 _ _ _ _ _ _ hr er ?_⟩
            have e : trE g an N (n + 1) sc0 sc (.ListComp elt [⟨tg, iter, [t], 0⟩] scope pc) = _ := if_pos hh
            rw [e] at q
            exact q
          · have e : trE g an N (n + 1) sc0 sc (.ListComp elt [⟨tg, iter, [t], 0⟩] scope pc) = _ := if_neg hh
            rw [e]
            exact bad
        · exact bad
      · have e : trE g an N (n + 1) sc0 sc (.ListComp elt [⟨tg, iter, ifs, ay⟩] scope pc) = .bad := by
          rcases ifs with _ | ⟨t, _ | ⟨_, _⟩⟩ <;> (unfold trE; split <;> first | rfl | (rename_i z; simp_all))
        rw [e]
        exact bad
    · rcases gs with _ | ⟨g3, gs⟩
      · obtain ⟨tg1, iter1, ifs1, ay1⟩ := g2
        by_cases ha : ay = 0 ∧ ay1 = 0 ∧ ifs = [] ∧ ifs1.length ≤ 1
        · obtain ⟨rfl, rfl, rfl, hl'⟩ := ha
          rcases ifs1 with _ | ⟨t, _ | ⟨_, _⟩⟩
          · obtain ⟨tt, p1, p2⟩ := sound_comp2 (elt := elt) (tg := tg) (iter := iter) (tg1 := tg1) (iter1 := iter1) (ifs1 := []) (scope := scope) (pos := pc) (ct := .con (.bl true)) c ih (fun X' _ => by rw [test_true]; exact dts_nil)
            exact ⟨tt, p1.2 hi hl hsw, p2⟩
          · obtain ⟨tt, p1, p2⟩ := sound_comp2 (elt := elt) (tg := tg) (iter := iter) (tg1 := tg1) (iter1 := iter1) (ifs1 := [t]) (scope := scope) (pos := pc) (ct := trE g an N n scope (relS scope sc) t) c ih (fun X' cx => dts_one (ih _ _ _ _ t cx).2.1)
            exact ⟨tt, p1.2 hi hl hsw, p2⟩
          · simp at hl'
        · rw [tr_c2_bad ha]
          exact bad
      · rw [tr_c3_bad]
        exact bad
/-- name = e -/
theorem sound_nm {n : Nat} {x : Str} {e : Expr} {p pos : Pos} (c : Cok g fs Γ N k X sc0 sc W) (hs : swapsWith e (some (.Name x p)) pos.line X.env = pure false) :
    DS Γ X W (.Assign [.Name x p] e pos) (exec (callF fs k) (match ixOf N x with
      | some i => if sc.names.lookup x = some .local ∨ (sc.names.lookup x = some .cell ∧ sc0.names.lookup x = some .cell) then .asg (.name i) (ownq g an N sc x e (trE g an N n sc0 sc e)) else .bad
      | none => .bad)) := by
  have b3 := sound (g := g) (an := an) n X sc0 sc W e c
  cases q : ixOf N x with
  | none => exact badS
  | some i =>
    dsimp only
    by_cases h : sc.names.lookup x = some .local ∨ (sc.names.lookup x = some .cell ∧ sc0.names.lookup x = some .cell)
    · rw [if_pos h, exec_asg, asgn_name]
      have hsc := c.hsc
      have h1 : Loc X.env.scope x := by
        rcases h with h | h
        · exact .inl (by rw [hsc]; exact h)
        · exact .inr (by rw [hsc]; exact h.1)
      have h2 : X.fn x = true ∨ X.env.scope.names.lookup x = some .local := by
        rcases h with h | h
        · exact .inr (by rw [hsc]; exact h)
        · exact .inl (c.hfn x h.2)
      unfold ownq
      by_cases hcc : (isC an N x && isNew g sc e) = true
      · rw [if_pos hcc, ev_newL]
        exact ds_set (by rw [c.hN]; exact c.nd) (by rw [c.hN]; exact ixOf_get q) h1 h2 hs (de_newL b3.2.2)
      rw [if_neg hcc]
      unfold ownw
      by_cases ho : (isB an N x && isNew g sc e) = true
      · rw [if_pos ho, ev_own]
        exact ds_setO (by rw [c.hN]; exact c.nd) (by rw [c.hN]; exact ixOf_get q) h1 h2 hs b3.2.2
      · rw [if_neg ho]
        exact ds_set (by rw [c.hN]; exact c.nd) (by rw [c.hN]; exact ixOf_get q) h1 h2 hs b3.1
    · rw [if_neg h]; exact badS
theorem sound_forC {n : Nat} {tg it a : Expr} {kk : Bool} {b : List Stmt} {pos : Pos} {sl : List Nat} {G : D → En → Hh → R En} {F : En → Hh → RS} (c : Cok g fs Γ N k X sc0 sc W) (hp : PassesOwn (model X.prog X.w) X.A X.env X.xe) (h : isSet it = false) (ihE : ∀ e, DE Γ X W e (ev (callF fs k) (trE g an N n sc0 sc e))) (q : cellFor an N sc tg it = some (kk, a)) (hg : DG Γ X tg sl G) (hb : DSs Γ X W b F) :
    DS Γ X W (.For tg it b [] pos) (fun en h => bndS (ev (callF fs k) (trE g an N n sc0 sc a) en h) en (forCx kk G F en)) := by
  unfold cellFor at q
  split at q
  · rename_i x p
    by_cases h1 : isC an N x = true
    · rw [if_pos h1] at q
      cases q
      exact ds_forCs c.hK hp c.calm (notSet h) (ihE _) hg hb
    · rw [if_neg h1] at q; cases q
  · rename_i f p x px pos'
    by_cases h1 : f = "enumerate" ∧ isGl sc f = true ∧ isTuple tg = true ∧ isC an N x = true
    · rw [if_pos h1] at q
      cases q
      obtain ⟨rfl, h2, h3, h4⟩ := h1
      cases tg <;> first | exact Bool.noConfusion h3 | exact ds_forCe c.hK hp c.calm (notSet h) (c.gl h2).1 (c.bi _ (by decide)) rfl (ihE _) hg hb
    · rw [if_neg h1] at q; cases q
  · cases q
theorem dq_w {n : Nat} {x : Str} {e : Expr} {es : List Expr} {ts : Exs} (c : Cok g fs Γ N k X sc0 sc W) (hs : star e = false) (h : DQ Γ X W es (evs (callF fs k) ts)) : DQ Γ X W (e :: es) (evs (callF fs k) (.cons (ownq g an N sc x e (trE g an N n sc0 sc e)) ts)) := by
  have b3 := sound (g := g) (an := an) n X sc0 sc W e c
  rw [evs_cons]
  unfold ownq
  by_cases hcc : (isC an N x && isNew g sc e) = true
  · rw [if_pos hcc, ev_newL]
    exact dq_cons hs (de_newL b3.2.2) h
  rw [if_neg hcc]
  unfold ownw
  by_cases ho : (isB an N x && isNew g sc e) = true
  · rw [if_pos ho, ev_own]
    exact dq_own hs b3.2.2 h
  · rw [if_neg ho]
    exact dq_cons hs b3.1 h
theorem dq_n : DQ Γ X W [] (evs (callF fs k) .nil) := by rw [evs_nil]; exact dq_nil
theorem nm_ok (c : Cok g fs Γ N k X sc0 sc W) : ∀ {ts : List Expr} {is : List Nat}, nmIx N sc0 sc ts = some is → NmOk X ts is
  | [], is, h => by cases h; exact .nil
  | t :: ts, is, h => by
    cases t <;> first | (cases h; done) | skip
    rename_i x p
    unfold nmIx at h
    cases q : ixOf N x with
    | none => rw [q] at h; cases h
    | some i =>
      rw [q] at h
      dsimp only at h
      split at h
      · rename_i hl
        cases q2 : nmIx N sc0 sc ts with
        | none => rw [q2] at h; cases h
        | some js =>
          rw [q2] at h
          cases h
          have hsc := c.hsc
          refine .cons (by rw [c.hN]; exact ixOf_get q) ?_ ?_ (nm_ok c q2)
          · rcases hl with hl | hl
            · exact .inl (by rw [hsc]; exact hl)
            · exact .inr (by rw [hsc]; exact hl.1)
          · rcases hl with hl | hl
            · exact .inr (by rw [hsc]; exact hl)
            · exact .inl (c.hfn x hl.2)
      · cases h
theorem dq_L {n : Nat} (c : Cok g fs Γ N k X sc0 sc W) : ∀ {ts vs : List Expr} {is : List Nat}, nmIx N sc0 sc ts = some is → ts.length = vs.length → vs.any star = false → DQ Γ X W vs (evs (callF fs k) (exs (ownL g an N sc (trE g an N n sc0 sc) ts vs)))
  | [], [], _, _, _, _ => dq_n
  | [], _ :: _, _, _, h, _ => by cases h
  | _ :: _, [], _, _, h, _ => by cases h
  | t :: ts, v :: vs, is, h, hl, hs => by
    cases t <;> first | (cases h; done) | skip
    rename_i x p
    rw [List.any_cons, Bool.or_eq_false_iff] at hs
    unfold nmIx at h
    cases q : ixOf N x with
    | none => rw [q] at h; cases h
    | some i =>
      rw [q] at h
      dsimp only at h
      split at h
      · cases q2 : nmIx N sc0 sc ts with
        | none => rw [q2] at h; cases h
        | some js => exact dq_w c hs.1 (dq_L c q2 (by simpa using hl) hs.2)
      · cases h
theorem sound_asg {n : Nat} {tg e : Expr} {pos : Pos} (c : Cok g fs Γ N k X sc0 sc W) : DS Γ X W (.Assign [tg] e pos) (exec (callF fs k) (trAsg g an N n sc0 sc tg e)) := by
  have ihE : ∀ e, DE Γ X W e (ev (callF fs k) (trE g an N n sc0 sc e)) := fun e => (sound n X sc0 sc W e c).1
  have gen : star tg = false → swapsWithSole [tg] e pos.line X.env = pure false → swappedStores [tg] e X.env = pure none → DS Γ X W (.Assign [tg] e pos) (exec (callF fs k) (.asg (trT g N (trE g an N n sc0 sc) n sc0 sc tg) (trE g an N n sc0 sc e))) := fun h1 h2 h3 => by
    rw [exec_asg]
    exact ds_asg h2 h3 h1 (ihE e) (sound_T c ihE n tg)
  unfold trAsg
  by_cases h0 : star tg = true ∨ isListX tg = true
  · rw [if_pos h0]; exact badS
  · rw [if_neg h0]
    have hst : star tg = false := by
      cases q : star tg with
      | false => rfl
      | true => exact absurd (.inl q) h0
    have hnl : ∀ es p, tg ≠ .List es p := fun es p z => by
      subst z
      exact h0 (.inr rfl)
    split
    · rename_i ts k1 p1 vs k2 p2
      cases q : swS sc ts vs with
      | none => exact badS
      | some r =>
        have hw : swappedStores [.Tuple ts k1 p1] (.Tuple vs k2 p2) X.env = pure r := sw_ok c.hsc c.kind q
        cases r with
        | none =>
          show DS Γ X W _ (exec _ ((trParT g an N sc0 sc (trE g an N n sc0 sc) ts vs).getD _))
          cases qp : trParT g an N sc0 sc (trE g an N n sc0 sc) ts vs with
          | none => exact gen hst (sw_tg rfl) hw
          | some s =>
            unfold trParT at qp
            split at qp
            · rename_i hc
              cases qi : nmIx N sc0 sc ts with
              | none => rw [qi] at qp; cases qp
              | some is =>
                rw [qi] at qp
                cases qp
                show DS Γ X W _ (exec _ (.par is _))
                rw [exec_par]
                have nk := nm_ok c qi
                exact ds_parT c.hK c.calm (by rw [c.hN]; exact c.nd) nk (by rw [← nk.len]; exact hc.2.2.2) (sw_tg rfl) hw (dq_L c qi hc.2.2.1 hc.2.1)
            · cases qp
        | some names =>
          dsimp only
          by_cases hv : vs.any star = true
          · rw [if_pos hv]; exact badS
          · rw [if_neg hv]
            have hv' : vs.any star = false := by simpa using hv
            split
            · rename_i x px y py a b
              have hv2 : star a = false ∧ star b = false := by simpa using hv'
              by_cases hn : names = [x, y]
              · rw [if_pos hn]
                subst hn
                unfold trPar2
                cases q1 : ixOf N x with
                | none => exact badS
                | some i =>
                  cases q2 : ixOf N y with
                  | none => exact badS
                  | some j =>
                    dsimp only
                    by_cases hc : i ≠ j ∧ sc.names.lookup x = some .local ∧ sc.names.lookup y = some .local
                    · rw [if_pos hc, exec_par]
                      have hsc := c.hsc
                      exact ds_par2 c.calm (by rw [c.hN]; exact c.nd) (by rw [c.hN]; exact ixOf_get q1) (by rw [c.hN]; exact ixOf_get q2) hc.1 (by rw [hsc]; exact hc.2.1) (by rw [hsc]; exact hc.2.2) hw (dq_w c hv2.1 (dq_w c hv2.2 dq_n))
                    · rw [if_neg hc]; exact badS
              · rw [if_neg hn]; exact badS
            · rename_i x px y py z pz a b d
              have hv2 : star a = false ∧ star b = false ∧ star d = false := by simpa using hv'
              by_cases hn : names = [x, y, z]
              · rw [if_pos hn]
                subst hn
                unfold trPar3
                cases q1 : ixOf N x with
                | none => exact badS
                | some i =>
                  cases q2 : ixOf N y with
                  | none => exact badS
                  | some j =>
                    cases q3 : ixOf N z with
                    | none => exact badS
                    | some l =>
                      dsimp only
                      by_cases hc : i ≠ j ∧ i ≠ l ∧ j ≠ l ∧ sc.names.lookup x = some .local ∧ sc.names.lookup y = some .local ∧ sc.names.lookup z = some .local
                      · rw [if_pos hc, exec_par]
                        have hsc := c.hsc
                        exact ds_par3 c.calm (by rw [c.hN]; exact c.nd) (by rw [c.hN]; exact ixOf_get q1) (by rw [c.hN]; exact ixOf_get q2) (by rw [c.hN]; exact ixOf_get q3) hc.1 hc.2.1 hc.2.2.1 (by rw [hsc]; exact hc.2.2.2.1) (by rw [hsc]; exact hc.2.2.2.2.1) (by rw [hsc]; exact hc.2.2.2.2.2) hw (dq_w c hv2.1 (dq_w c hv2.2.1 (dq_w c hv2.2.2 dq_n)))
                      · rw [if_neg hc]; exact badS
              · rw [if_neg hn]; exact badS
            · exact badS
    · rename_i x p elt gens scope pc
      have hsw := sw_name (elt := elt) (gens := gens) (scope := scope) (pos := pc) (x := x) (p := p) (line := pos.line) c.hsc c.kind
      by_cases hs : swN sc x p.line pc.line scope = true
      · rw [if_pos hs]
        cases q : ixOf N x with
        | none => exact badS
        | some i =>
          dsimp only
          by_cases hl : sc.names.lookup x = some .local
          · rw [if_pos hl, exec_asg, asgn_name]
            rw [hs] at hsw
            have key := ds_setLc (Γ := Γ) (W := W) (sound_set_comp (an := an) c (by rw [c.hN]; exact ixOf_get q) (by rw [c.hsc]; exact hl) hsw n)
            unfold ownw
            by_cases ho : (isB an N x && isNew g sc (.ListComp elt gens scope pc)) = true
            · rw [if_pos ho, ev_own]
              exact key.2
            · rw [if_neg ho]
              have e : ev (callF fs k) (trE g an N n sc0 sc (.ListComp elt gens scope pc)) = fun en h => bnd (evf (callF fs k) (trE g an N n sc0 sc (.ListComp elt gens scope pc)) en h) fun ds h1 => .ok (.lst ds) h1 := ev_lc
              rw [e]
              exact key.1
          · rw [if_neg hl]; exact badS
      · rw [if_neg hs]
        have hs' : swN sc x p.line pc.line scope = false := by simpa using hs
        rw [hs'] at hsw
        exact sound_nm c hsw
    · rename_i x p e' hne
      by_cases hc : isComp e = true
      · rw [if_pos hc]; exact badS
      · rw [if_neg hc]
        exact sound_nm c (sw_else (by simpa using hc))
    · rename_i x px ix ps
      by_cases hb : isB an N x = true
      · rw [if_pos hb]
        split
        · rename_i i q
          by_cases hsl : isSlice ix = true
          · rw [if_pos hsl]; exact badS
          · rw [if_neg hsl, exec_setO]
            obtain ⟨h1, h2, h3, h4⟩ := nm_var c q
            exact ds_setI (o := .Name x px) h1 h2 h3 h4 (sw_tg rfl) (by cases e <;> rfl) (fun v => by cases ix <;> first | rfl | exact absurd rfl hsl) (ihE e) (ihE ix)
        · exact badS
      · rw [if_neg hb]
        exact gen hst (sw_tg rfl) (by cases e <;> rfl)
    · rename_i h3 h2 h1 h4
      have nm : isName tg = false := by
        cases tg <;> first | rfl | exact (h3 _ _ rfl).elim
      refine gen hst (sw_tg nm) (stores_none ?_ hnl)
      cases q1 : isTuple tg with
      | false => exact .inl rfl
      | true =>
        cases q2 : isTuple e with
        | false => exact .inr rfl
        | true =>
          exfalso
          cases tg <;> first | exact Bool.noConfusion q1 | skip
          cases e <;> first | exact Bool.noConfusion q2 | skip
          exact h1 _ _ _ _ _ _ rfl rfl
theorem sound_met {n : Nat} {e : Expr} {i : Nat} {m : Me} {args : List Expr} (c : Cok g fs Γ N k X sc0 sc W) (ihE : ∀ e, DE Γ X W e (ev (callF fs k) (trE g an N n sc0 sc e))) (q : metOf g an N sc e = some (i, m, args)) : DM Γ X W i m e (evs (callF fs k) (exs (args.map (trE g an N n sc0 sc)))) := by
  unfold metOf at q
  split at q
  · rename_i x px mm apos args' cpos
    by_cases h : (isB an N x && (apos.endLine == cpos.line) && !(args'.any star) && decide (args'.length < 30)) = true
    · rw [if_pos h] at q
      simp only [Bool.and_eq_true, Bool.not_eq_true', decide_eq_true_eq] at h
      split at q
      · rename_i j me q1 q2
        cases q
        obtain ⟨h1, h2, h3, h4⟩ := nm_var c q1
        have e := meOf_name q2
        subst e
        cases args with
        | nil =>
          show DM Γ X W _ _ _ (evs _ .nil)
          rw [evs_nil]
          exact dm_nil c.hK h1 h2 h3 h4 h.1.1.2
        | cons a r => exact dm_cons c.hK h1 h2 h3 h4 h.1.1.2 h.1.2 h.2 (sound_args ihE h.1.2)
      · cases q
    · rw [if_neg h] at q; cases q
  · cases q
theorem sound_app {n : Nat} {e : Expr} {pos : Pos} {i j : Nat} {args : List Expr} (c : Cok g fs Γ N k X sc0 sc W) (hsw : swapsWith e none pos.line X.env = pure false) (ihE : ∀ e, DE Γ X W e (ev (callF fs k) (trE g an N n sc0 sc e))) (q : appOf g an N sc e = some (i, j, args)) : DS Γ X W (.Expr e pos) (fun en h => match getO en i, getO en j with | some xs, some ys => bndS (evs (callF fs k) (exs (args.map (trE g an N n sc0 sc))) en h) en fun ds h1 => (match mutOp .pop ys ds with | some p => (match mutOp .append xs [p.2] with | some q => .nx ((en.set j (some (.own p.1))).set i (some (.own q.1))) h1 | none => .bad) | none => .bad) | _, _ => .bad) := by
  unfold appOf at q
  split at q
  · rename_i x px m apos e' cpos
    by_cases h : (isB an N x && (apos.endLine == cpos.line) && decide (m = ("append" : Str))) = true
    · rw [if_pos h] at q
      simp only [Bool.and_eq_true, decide_eq_true_eq] at h
      split at q
      · rename_i i1 j1 args1 q1 q2
        by_cases hij : i1 ≠ j1
        · rw [if_pos hij] at q
          cases q
          obtain ⟨h1, h2, h3, h4⟩ := nm_var c q1
          have hst : star e' = false := by
            cases e' <;> first | (cases q2; done) | rfl
          obtain ⟨⟨-, hl⟩, rfl⟩ := h
          exact ds_appP hij c.hK h1 h2 h3 h4 hl hst hsw (sound_met c ihE q2)
        · rw [if_neg hij] at q; cases q
      · cases q
    · rw [if_neg h] at q; cases q
  · cases q
theorem sound_lend {n : Nat} {tg e : Expr} {pos : Pos} {line j i : Nat} (c : Cok g fs Γ N k X sc0 sc W) (ih : DE Γ X W e (ev (callF fs k) (trE g an N n sc0 sc e))) (q : lendOf an N sc tg e line = some (j, i)) : DS Γ X W (.Assign [tg] e pos) (fun en h => match getO en i with | some xs => (match ev (callF fs k) (trE g an N n sc0 sc e) (en.set i (some (.lst xs))) h with | .ok d h1 => if lendOk xs i (en.set j (some d)) h1 = true then .nx (en.set j (some d)) h1 else .bad | _ => .bad) | none => .bad) := by
  unfold lendOf at q
  split at q
  · rename_i i1 x px q1
    by_cases h : isComp e = true
    · rw [if_pos h] at q; cases q
    · rw [if_neg h] at q
      split at q
      · rename_i j1 q2
        by_cases h2 : i1 ≠ j1 ∧ sc.names.lookup x = some .local
        · rw [if_pos h2] at q
          cases q
          have hl : X.env.scope.names.lookup x = some .local := by rw [c.hsc]; exact h2.2
          exact ds_asgB h2.1 (by rw [c.hN]; exact c.nd) (by rw [c.hN]; exact ixOf_get q2) (.inl hl) (.inr hl) (sw_else (by simpa using h)) ih
        · rw [if_neg h2] at q; cases q
      · cases q
  · cases q
theorem sound_metH {a dd : Addr} {oe : Obj} {pn : List (Addr × Obj)} {cc i0 : Nat} {W' : WX} {tr : Expr → Ex} {e : Expr} {i : Nat} {m : Me} {args : List Expr} (c : Cok g fs Γ N k X sc0 sc W) (ihE : ∀ e, DE (Γ.at a cc dd i0) (X.suite a ((a, oe) :: pn)) W' e (ev (callF fs k) (tr e))) (q : metOf g an N sc e = some (i, m, args)) : DM (Γ.at a cc dd i0) (X.suite a ((a, oe) :: pn)) W' i m e (evs (callF fs k) (exs (args.map tr))) := by
  unfold metOf at q
  split at q
  · rename_i x px mm apos args' cpos
    by_cases h : (isB an N x && (apos.endLine == cpos.line) && !(args'.any star) && decide (args'.length < 30)) = true
    · rw [if_pos h] at q
      simp only [Bool.and_eq_true, Bool.not_eq_true', decide_eq_true_eq] at h
      split at q
      · rename_i j me q1 q2
        cases q
        obtain ⟨h1, h2, h3, h4⟩ := nm_var c q1
        have e := meOf_name q2
        subst e
        cases args with
        | nil =>
          show DM _ _ W' _ _ _ (evs _ .nil)
          rw [evs_nil]
          exact dm_nil (X := X.suite a ((a, oe) :: pn)) c.hK h1 h2 h3 h4 h.1.1.2
        | cons a1 r => exact dm_cons (X := X.suite a ((a, oe) :: pn)) c.hK h1 h2 h3 h4 h.1.1.2 h.1.2 h.2 (sound_args ihE h.1.2)
      · cases q
    · rw [if_neg h] at q; cases q
  · cases q
theorem sound_frz {st : Stmt} {line : Nat} {s : Sx} (h : DS Γ X W st (exec (callF fs k) s)) : DS Γ X W st (exec (callF fs k) (frzW an line s)) := by
  unfold frzW
  split
  · rw [exec_seq, exec_frz]
    exact ds_frz _ h
  · exact h
theorem sound_aug {x : Str} {op : Operator} {e : Expr} {px pos : Pos} {t : Ex} (c : Cok g fs Γ N k X sc0 sc W) (ih : DE Γ X W e (ev (callF fs k) t)) : DS Γ X W (.AugAssign (.Name x px) op e pos) (exec (callF fs k) (trAug N sc0 sc x op t)) := by
  unfold trAug
  cases q : ixOf N x with
  | none => exact badS
  | some i =>
    dsimp only
    split
    · rename_i h
      rw [exec_aug]
      have hsc := c.hsc
      refine ds_aug h.1 (by rw [c.hN]; exact c.nd) (by rw [c.hN]; exact ixOf_get q) ?_ ?_ ih
      · rcases h.2 with h | h
        · exact .inl (by rw [hsc]; exact h)
        · exact .inr (by rw [hsc]; exact h.1)
      · rcases h.2 with h | h
        · exact .inr (by rw [hsc]; exact h)
        · exact .inl (c.hfn x h.2)
    · exact badS
/-! ### the suite of an except clause -/
theorem Cok.tr {pn : List (Addr × Obj)} {xe : Value → Shared → Prop} {W' : WX} (c : Cok g fs Γ N k X sc0 sc W) (t : Takes (X.tr pn xe) W') : Cok g fs Γ N k (X.tr pn xe) sc0 sc W' :=
  ⟨c.hN, c.nd, c.hsc, c.kind, c.hfn, c.calm, c.room, c.gd, c.hK, c.cons, c.bi, c.fns, c.xs, c.cls, c.rz, c.exc, t⟩
section
variable {a dd : Addr} {oe : Obj} {pn : List (Addr × Obj)} {cc i : Nat} {W' : WX}
theorem isVar_eq {i : Nat} {t : Ex} (h : isVar i t = true) : t = .var i := by
  cases t <;> first | (cases h; done) | skip
  exact congrArg Ex.var (by simpa [isVar] using h)
theorem h_name {x : Str} {pos : Pos} (c : Cok g fs Γ N k X sc0 sc W) : DE (Γ.at a cc dd i) (X.suite a ((a, oe) :: pn)) W' (.Name x pos) (ev (callF fs k) (trName g N sc x)) := by
  unfold trName
  by_cases ho : odd x = true
  · rw [if_pos ho]; exact bad2.1
  · rw [if_neg ho]
    have hd : (x == ("__debug__" : Str)) = false ∧ (x == ("__classdict__" : Str)) = false := by
      unfold odd at ho
      simpa using ho
    have hv : Vis X.env.scope x → DE (Γ.at a cc dd i) (X.suite a ((a, oe) :: pn)) W' (.Name x pos) (ev (callF fs k) (match ixOf N x with | some i => .var i | none => .bad)) := fun v => by
      cases q : ixOf N x with
      | none => exact bad2.1
      | some i =>
        dsimp only
        rw [ev_var]
        exact de_var (X := X.suite a ((a, oe) :: pn)) (by show X.N[i]? = _; rw [c.hN]; exact ixOf_get q) v hd.1 hd.2
    have hsc := c.hsc
    cases q : sc.names.lookup x with
    | none => exact bad2.1
    | some kd =>
      cases kd with
      | «local» => exact hv (.inl (by rw [hsc]; exact q))
      | cell => exact hv (.inr (.inl (by rw [hsc]; exact q)))
      | free => exact hv (.inr (.inr (by rw [hsc]; exact q)))
      | globalImplicit =>
        cases q2 : g.cons.lookup x with
        | none => exact bad2.1
        | some d =>
          dsimp only
          rw [ev_con]
          obtain ⟨u, v, e1, e2, e3⟩ := c.cons x d q2
          exact de_glob (X := X.suite a ((a, oe) :: pn)) (by show X.env.scope.names.lookup x = _; rw [hsc]; exact q) e1 e2 hd.1 e3
      | _ => exact bad2.1
theorem sound_HE (c : Cok g fs Γ N k X sc0 sc W) (hc : cc ∈ g.rz.map (·.2)) (hz : Zc (.ref (Γ.ca cc)) (some dd) oe) (hd : ∃ vs, oe.data = .fields vs) : ∀ (n : Nat) (e : Expr), DE (Γ.at a cc dd i) (X.suite a ((a, oe) :: pn)) W' e (ev (callF fs k) (trHE g N i sc n e)) ∧ DT (Γ.at a cc dd i) (X.suite a ((a, oe) :: pn)) W' e (test (callF fs k) (trHE g N i sc n e)) ∧ DF (Γ.at a cc dd i) (X.suite a ((a, oe) :: pn)) W' e (evf (callF fs k) (trHE g N i sc n e)) := by
  intro n
  induction n with
  | zero => exact fun e => ⟨bad2.1, bad2.2.1, bad2.2.2⟩
  | succ n ih =>
    intro e
    have bad3 : ∀ {e : Expr}, DE (Γ.at a cc dd i) (X.suite a ((a, oe) :: pn)) W' e (ev (callF fs k) .bad) ∧ DT (Γ.at a cc dd i) (X.suite a ((a, oe) :: pn)) W' e (test (callF fs k) .bad) ∧ DF (Γ.at a cc dd i) (X.suite a ((a, oe) :: pn)) W' e (evf (callF fs k) .bad) := ⟨bad2.1, bad2.2.1, bad2.2.2⟩
    have plain : ∀ {e : Expr} {t : Ex}, DE (Γ.at a cc dd i) (X.suite a ((a, oe) :: pn)) W' e (ev (callF fs k) t) → plainX t = true → (∀ whole, isTrue e X.env whole = (do let v ← whole; standAt e.pos; holding [v] (truthy v))) → DF (Γ.at a cc dd i) (X.suite a ((a, oe) :: pn)) W' e (evf (callF fs k) t) → DE (Γ.at a cc dd i) (X.suite a ((a, oe) :: pn)) W' e (ev (callF fs k) t) ∧ DT (Γ.at a cc dd i) (X.suite a ((a, oe) :: pn)) W' e (test (callF fs k) t) ∧ DF (Γ.at a cc dd i) (X.suite a ((a, oe) :: pn)) W' e (evf (callF fs k) t) := fun h hp hi hf => by
      refine ⟨h, ?_, hf⟩
      rw [test_plain hp]
      exact dt_val h hi
    obtain ⟨xf, xn, xc⟩ := c.exc cc hc
    cases e with
    | Constant kc j pos =>
      refine plain ?_ plain_c (fun _ => rfl) (df_no (by cases kc <;> rfl))
      cases kc with
      | int i => show DE _ _ W' _ (ev _ (.con _)); rw [ev_con]; exact de_int
      | bool i => show DE _ _ W' _ (ev _ (.con _)); rw [ev_con]; exact de_bl
      | str i => show DE _ _ W' _ (ev _ (.con _)); rw [ev_con]; exact de_str
      | none => show DE _ _ W' _ (ev _ (.con _)); rw [ev_con]; exact de_non
      | _ => exact bad3.1
    | Name x pos => exact plain (h_name c) plain_name (fun _ => rfl) (df_no noF_name)
    | BinOp l op r pos =>
      have hf : DF (Γ.at a cc dd i) (X.suite a ((a, oe) :: pn)) W' (.BinOp l op r pos) (evf (callF fs k) (.bin op (trHE g N i sc n l) (trHE g N i sc n r))) := by
        by_cases ho : op = .Add
        · subst ho
          rw [evf_add]
          exact df_add (ih l).1.db (ih r).1.db
        · rw [evf_bin ho]
          exact df_bad
      refine plain ?_ rfl (fun _ => rfl) hf
      show DE _ _ W' _ (ev _ (.bin op _ _))
      rw [ev_bin]
      exact de_bin (ops_bin (Γ := Γ.at a cc dd i) (X := X.suite a ((a, oe) :: pn)) c.hK op) (ih l).1.db (ih r).1.db
    | IfExp t l r pos =>
      show DE _ _ W' _ (ev _ (.ite _ _ _)) ∧ DT _ _ W' _ (test _ (.ite _ _ _)) ∧ DF _ _ W' _ (evf _ (.ite _ _ _))
      refine ⟨?_, dt_bad, ?_⟩
      · rw [ev_ite]
        exact de_ite (ih t).2.1 (ih l).1 (ih r).1
      · rw [evf_ite]
        exact df_ite (ih t).2.1 (ih l).2.2 (ih r).2.2
    | Tuple es kk pos =>
      show DE _ _ W' _ (ev _ (if es.any star = true then .bad else .tup (exs (es.map (trHE g N i sc n))))) ∧ DT _ _ W' _ (test _ (if es.any star = true then .bad else .tup (exs (es.map (trHE g N i sc n))))) ∧ DF _ _ W' _ (evf _ (if es.any star = true then .bad else .tup (exs (es.map (trHE g N i sc n)))))
      by_cases h : es.any star = true
      · rw [if_pos h]; exact bad3
      · rw [if_neg h]
        refine plain ?_ rfl (fun _ => rfl) (df_no rfl)
        rw [ev_tup]
        exact de_tup (sound_args (fun e => (ih e).1) (by simpa using h))
    | List es pos =>
      show DE _ _ W' _ (ev _ (if es.any star = true then .bad else .lst (exs (es.map (trHE g N i sc n))))) ∧ DT _ _ W' _ (test _ (if es.any star = true then .bad else .lst (exs (es.map (trHE g N i sc n))))) ∧ DF _ _ W' _ (evf _ (if es.any star = true then .bad else .lst (exs (es.map (trHE g N i sc n)))))
      by_cases h : es.any star = true
      · rw [if_pos h]; exact bad3
      · rw [if_neg h]
        have hf : DF (Γ.at a cc dd i) (X.suite a ((a, oe) :: pn)) W' (.List es pos) (evf (callF fs k) (.lst (exs (es.map (trHE g N i sc n))))) := by
          rw [evf_lst]
          exact df_lst (sound_args (fun e => (ih e).1) (by simpa using h))
        refine plain ?_ rfl (fun _ => rfl) hf
        rw [ev_lst]
        exact hf.de
    | Attribute o f pos =>
      show DE _ _ W' _ (ev _ (trHAt g N i sc o f)) ∧ DT _ _ W' _ (test _ (trHAt g N i sc o f)) ∧ DF _ _ W' _ (evf _ (trHAt g N i sc o f))
      unfold trHAt
      cases o with
      | Name x px =>
        dsimp only
        by_cases h : f = "value" ∧ isVar i (trName g N sc x) = true
        · rw [if_pos h]
          obtain ⟨rfl, h2⟩ := h
          obtain ⟨n1, n2, n3, n4⟩ := nm_var c (isVar_eq h2)
          exact plain (de_errV xf xn hz hd n1 n2 n3 n4) rfl (fun _ => rfl) (df_no rfl)
        · rw [if_neg h]; exact bad3
      | _ => exact bad3
    | Call fe args kws pos =>
      show DE _ _ W' _ (ev _ (trHCall g N i sc fe args kws (trHE g N i sc n))) ∧ DT _ _ W' _ (test _ (trHCall g N i sc fe args kws (trHE g N i sc n))) ∧ DF _ _ W' _ (evf _ (trHCall g N i sc fe args kws (trHE g N i sc n)))
      unfold trHCall
      cases fe with
      | Name f pf =>
        cases kws with
        | nil =>
          rcases args with _ | ⟨e1, _ | ⟨e2, _ | ⟨e3, r⟩⟩⟩
          · exact bad3
          · dsimp only
            by_cases h : f = "repr" ∧ isGl sc "repr" = true ∧ star e1 = false
            · rw [if_pos h]
              obtain ⟨rfl, h2, h3⟩ := h
              refine plain ?_ rfl (fun _ => rfl) (df_no rfl)
              rw [ev_bi]
              exact de_repr (Γ := Γ.at a cc dd i) (X := X.suite a ((a, oe) :: pn)) c.hK c.gd c.room.units200 (c.gl h2).1 (c.bi _ (by decide)) h3 (ih e1).1.db
            · rw [if_neg h]; exact bad3
          · dsimp only
            unfold trHIs
            cases e1 with
            | Name x px =>
              cases e2 with
              | Name y py =>
                dsimp only
                by_cases h : f = "isinstance" ∧ isGl sc "isinstance" = true ∧ isGl sc y = true ∧ isVar i (trName g N sc x) = true
                · rw [if_pos h]
                  obtain ⟨rfl, h2, h3, h4⟩ := h
                  cases q2 : g.cls.lookup y with
                  | none => exact bad3
                  | some r =>
                    obtain ⟨cH, cs, ds⟩ := r
                    dsimp only
                    obtain ⟨n1, n2, n3, n4⟩ := nm_var c (isVar_eq h4)
                    obtain ⟨k1, k2, k3⟩ := c.cls y cH cs ds q2
                    exact plain (de_errIs xc hz hd n1 n2 n3 n4 (c.gl h2).1 (c.bi _ (by decide)) (c.gl h3).1 k1 (c.gl h3).2 (fun m => (k2 cc m).2) (fun m => (k3 cc m).2)) rfl (fun _ => rfl) (df_no rfl)
                · rw [if_neg h]; exact bad3
              | _ => exact bad3
            | _ => exact bad3
          · exact bad3
        | cons _ _ => exact bad3
      | _ => exact bad3
    | Compare l ops rs pos =>
      show DE _ _ W' _ (ev _ (trHCmp (trHE g N i sc n) l ops rs)) ∧ DT _ _ W' _ (test _ (trHCmp (trHE g N i sc n) l ops rs)) ∧ DF _ _ W' _ (evf _ (trHCmp (trHE g N i sc n) l ops rs))
      unfold trHCmp
      rcases ops with _ | ⟨op, _ | ⟨_, _⟩⟩
      · exact bad3
      · rcases rs with _ | ⟨r, _ | ⟨_, _⟩⟩
        · exact bad3
        · dsimp only
          by_cases h : behindInMarks op r = true
          · rw [if_pos h]; exact bad3
          · rw [if_neg h]
            have h' : behindInMarks op r = false := by simpa using h
            have o : OpS (Γ.at a cc dd i) (X.suite a ((a, oe) :: pn)) (compareOp op) (cmpOp op) := ops_cmp (Γ := Γ.at a cc dd i) (X := X.suite a ((a, oe) :: pn)) c.hK c.room.units66 op
            refine ⟨?_, ?_, df_no rfl⟩
            · rw [ev_cmp]; exact de_cmp h' o (ih l).1.db (ih r).1.db
            · rw [test_plain rfl, ev_cmp]; exact dt_cmp h' o (ih l).1.db (ih r).1.db
        · exact bad3
      · exact bad3
    | _ => exact bad3
theorem sound_HS (c : Cok g fs Γ N k X sc0 sc W) (hc : cc ∈ g.rz.map (·.2)) (hz : Zc (.ref (Γ.ca cc)) (some dd) oe) (hd : ∃ vs, oe.data = .fields vs) : ∀ n : Nat, (∀ st, DS (Γ.at a cc dd i) (X.suite a ((a, oe) :: pn)) W' st (exec (callF fs k) (trHS g an N i sc n st))) ∧ (∀ sts, DSs (Γ.at a cc dd i) (X.suite a ((a, oe) :: pn)) W' sts (exec (callF fs k) (trHSs g an N i sc n sts))) := by
  intro n
  induction n with
  | zero =>
    refine ⟨fun st => badS, fun sts => ?_⟩
    show DSs _ _ W' sts (exec _ .bad)
    rw [exec_bad]
    exact ⟨_, pss_never, fun _ _ _ _ _ _ _ _ p => p⟩
  | succ n ih =>
    have ihB := fun e => sound_HE (a := a) (pn := pn) (i := i) (W' := W') c hc hz hd n e
    refine ⟨fun st => ?_, fun sts => ?_⟩
    · cases st with
      | Return v pos =>
        cases v with
        | none => show DS _ _ W' _ (exec _ .retN); rw [exec_retN]; exact ds_retN
        | some e => show DS _ _ W' _ (exec _ (.ret _)); rw [exec_ret]; exact ds_ret (ihB e).1
      | Pass pos => show DS _ _ W' _ (exec _ .skip); rw [exec_skip]; exact ds_pass
      | If t l r pos => show DS _ _ W' _ (exec _ (.ife _ _ _)); rw [exec_ife]; exact ds_if (ihB t).2.1 (ih.2 l) (ih.2 r)
      | Assign tgs e pos =>
        rcases tgs with _ | ⟨tg, _ | ⟨_, _⟩⟩
        · exact badS
        · cases tg with
          | Name x px =>
            show DS _ _ W' _ (exec _ (if isComp e = true then .bad else (match ixOf N x with | some j => if sc.names.lookup x = some .local then .asg (.name j) (ownw g an N sc x e (trHE g N i sc n e)) else .bad | none => .bad)))
            by_cases h1 : isComp e = true
            · rw [if_pos h1]; exact badS
            · rw [if_neg h1]
              cases q : ixOf N x with
              | none => exact badS
              | some j =>
                dsimp only
                by_cases h : sc.names.lookup x = some .local
                · rw [if_pos h, exec_asg, asgn_name]
                  have hsc := c.hsc
                  have h2 : X.env.scope.names.lookup x = some .local := by rw [hsc]; exact h
                  unfold ownw
                  by_cases hw : (isB an N x && isNew g sc e) = true
                  · rw [if_pos hw, ev_own]
                    exact ds_setO (X := X.suite a ((a, oe) :: pn)) (by show X.N.Nodup; rw [c.hN]; exact c.nd) (by show X.N[j]? = _; rw [c.hN]; exact ixOf_get q) (.inl h2) (.inr h2) (sw_else (by simpa using h1)) (ihB e).2.2
                  rw [if_neg hw]
                  exact ds_set (X := X.suite a ((a, oe) :: pn)) (by show X.N.Nodup; rw [c.hN]; exact c.nd) (by show X.N[j]? = _; rw [c.hN]; exact ixOf_get q) (.inl h2) (.inr h2) (sw_else (by simpa using h1)) (ihB e).1
                · rw [if_neg h]; exact badS
          | _ => exact badS
        · cases tg <;> exact badS
      | Expr e pos =>
        show DS _ _ W' _ (exec _ (match metOf g an N sc e with | some (j, m, args) => if isComp e = true then .bad else .mut m j (exs (args.map (trHE g N i sc n))) | none => .bad))
        cases q : metOf g an N sc e with
        | none => exact badS
        | some p =>
          obtain ⟨j, m, args⟩ := p
          dsimp only
          by_cases h1 : isComp e = true
          · rw [if_pos h1]; exact badS
          · rw [if_neg h1, exec_mut]
            exact ds_mut (sw_else (by simpa using h1)) (sound_metH c (fun e => (ihB e).1) q)
      | _ => exact badS
    · cases sts with
      | nil => show DSs _ _ W' _ (exec _ .skip); rw [exec_skip]; exact dss_nil
      | cons st r => show DSs _ _ W' _ (exec _ (.seq _ _)); rw [exec_seq]; exact dss_cons (sound_frz (ih.1 st)) (ih.2 r)
end
theorem sound_raise {ex cause : Option Expr} {pos : Pos} {tr : Expr → Ex} (c : Cok g fs Γ N k X sc0 sc W) (ih : ∀ e, DE Γ X W e (ev (callF fs k) (tr e))) : DS Γ X W (.Raise ex cause pos) (exec (callF fs k) (trRaise g sc ex cause tr)) := by
  unfold trRaise
  cases cause with
  | some _ => exact badS
  | none =>
    cases ex with
    | none => exact badS
    | some e =>
      cases e with
      | Call f args kws p =>
        cases f with
        | Name x px =>
          cases kws with
          | cons _ _ => exact badS
          | nil =>
            rcases args with _ | ⟨a, _ | ⟨_, _⟩⟩
            · exact badS
            · dsimp only
              by_cases h : isGl sc x = true ∧ star a = false
              · rw [if_pos h]
                cases q : g.rz.lookup x with
                | none => exact badS
                | some cc =>
                  dsimp only
                  rw [exec_raise]
                  obtain ⟨k1, fI, k2⟩ := c.rz x cc q
                  exact ds_raise c.calm c.tk k2 k1 (c.gl h.1).2 c.room (c.gl h.1).1 h.2 (ih a)
              · rw [if_neg h]; exact badS
            · exact badS
        | _ => exact badS
      | _ => exact badS
/-- one clause -/
theorem sound_cl {hd : ExceptHandler} {n : Nat} {tb : Sx} (c : Cok g fs Γ N k X sc0 sc W) : exec (callF fs k) (trTryH g N sc hd tb (fun i => trHSs g an N i sc n)) = exec (callF fs k) .bad ∨
    ∃ (cs ds : List Nat) (i : Nat) (fh : En → Hh → RS), (exec (callF fs k) (trTryH g N sc hd tb (fun i => trHSs g an N i sc n)) = fun en h => catchS (exec (callF fs k) tb en h) cs ds i fh) ∧
      ∀ {hds : List ExceptHandler} {l : List Cl} {w : List (Value × Nat × ClT)}, ClOk Γ X hds l w → ∃ q, ClOk Γ X (hd :: hds) ((cs, ds, i, fh) :: l) (q :: w) := by
  obtain ⟨ty, nm, suite, hpos⟩ := hd
  unfold trTryH
  cases ty with
  | none => exact .inl rfl
  | some ty =>
    cases ty with
    | Name x px =>
      cases nm with
      | none => exact .inl rfl
      | some nm =>
      cases suite with
      | nil => exact .inl rfl
      | cons b0 suite =>
        dsimp only
        unfold trTry
        by_cases h : isGl sc x = true ∧ sc.names.lookup nm = some .local
        · rw [if_pos h]
          cases q : g.cls.lookup x with
          | none => exact .inl rfl
          | some r =>
            obtain ⟨cH, cs, ds⟩ := r
            cases q2 : ixOf N nm with
            | none => exact .inl rfl
            | some i =>
              dsimp only
              by_cases h2 : cs.all (fun c => (g.rz.map (·.2)).contains c) = true
              · rw [if_pos h2, exec_try]
                obtain ⟨k1, k2, k3⟩ := c.cls x cH cs ds q
                have hsc := c.hsc
                refine .inr ⟨cs, ds, i, _, rfl, fun r => ⟨_, .cons (by rw [c.hN]; exact ixOf_get q2) (by show X.env.scope.names.lookup nm = _; rw [hsc]; exact h.2) k1 (c.gl h.1).1 (c.gl h.1).2 (fun c' m => (k2 c' m).1) (fun c' m => (k3 c' m).1)
                  (fun a oe c' dd pn m hz hd => (sound_HS c (by have := List.all_eq_true.mp h2 c' m; simpa using this) hz hd n).2 _) r⟩⟩
              · rw [if_neg h2]; exact .inl rfl
        · rw [if_neg h]; exact .inl rfl
    | _ => exact .inl rfl
theorem catchS_bad {cs ds : List Nat} {i : Nat} {f : En → Hh → RS} : catchS .bad cs ds i f = .bad := rfl
/-- all clauses -/
theorem sound_cls {n : Nat} (c : Cok g fs Γ N k X sc0 sc W) : ∀ (hds : List ExceptHandler) (tb : Sx), (∀ en h, exec (callF fs k) (trTryL g N sc (fun i => trHSs g an N i sc n) hds tb) en h = .bad) ∨
    ∃ (l : List Cl) (w : List (Value × Nat × ClT)), ClOk Γ X hds l w ∧ exec (callF fs k) (trTryL g N sc (fun i => trHSs g an N i sc n) hds tb) = fun en h => catchN (exec (callF fs k) tb en h) l
  | [], tb => .inr ⟨[], [], .nil, rfl⟩
  | hd :: hds, tb => by
    show (∀ en h, exec (callF fs k) (trTryL g N sc _ hds (trTryH g N sc hd tb _)) en h = .bad) ∨ _
    rcases sound_cls c hds (trTryH g N sc hd tb (fun i => trHSs g an N i sc n)) with b | ⟨l, w, ok, e⟩
    · exact .inl b
    · rcases sound_cl (an := an) (hd := hd) (n := n) (tb := tb) c with b | ⟨cs, ds, i, fh, e2, mk⟩
      · refine .inl fun en h => ?_
        rw [e, b, exec_bad]
        exact catchN_no l rfl
      · obtain ⟨q, ok2⟩ := mk ok
        refine .inr ⟨_, _, ok2, ?_⟩
        show exec (callF fs k) (trTryL g N sc _ hds (trTryH g N sc hd tb _)) = _
        rw [e, e2]
        rfl
theorem sound_try {b : List Stmt} {hds : List ExceptHandler} {els fin : List Stmt} {pos : Pos} {n : Nat} {tb : Sx} (c : Cok g fs Γ N k X sc0 sc W) (hs : X.stack = X.env :: X.outer) (hf : X.env.frame = some X.env.locals)
    (hb : ∀ (W : WX) (pn : List (Addr × Obj)) (xe : Value → Shared → Prop), Takes (X.tr pn xe) W → PassesOwn (model X.prog X.w) X.A X.env xe → DSs Γ (X.tr pn xe) W b (exec (callF fs k) tb)) :
    DS Γ X W (.Try b hds els fin pos) (exec (callF fs k) (trTryS g N sc hds els fin tb (fun i => trHSs g an N i sc n))) := by
  unfold trTryS
  cases els with
  | cons _ _ => exact badS
  | nil =>
    cases fin with
    | cons _ _ => exact badS
    | nil =>
      cases hds with
      | nil => exact badS
      | cons hd r =>
        dsimp only
        rcases sound_cls (an := an) (n := n) c (hd :: r) tb with bd | ⟨l, w, ok, e⟩
        · have e : exec (callF fs k) (trTryL g N sc (fun i => trHSs g an N i sc n) (hd :: r) tb) = exec (callF fs k) .bad := by
            funext en h
            rw [bd, exec_bad]
          rw [e]
          exact badS
        · rw [e]
          exact ds_tryN hs hf (by rw [c.hN]; exact c.nd) c.tk c.xs hb ok
theorem sound_S0 : ∀ (n : Nat) (X : Cx) (W : WX), PassesOwn (model X.prog X.w) X.A X.env X.xe → X.stack = X.env :: X.outer → X.env.frame = some X.env.locals → Cok g fs Γ N k X sc0 sc W → (∀ st, DS Γ X W st (exec (callF fs k) (trS g an N n sc0 sc st))) ∧ (∀ sts, DSs Γ X W sts (exec (callF fs k) (trSs g an N n sc0 sc sts))) := by
  intro n
  induction n with
  | zero =>
    intro X W hp hs hf c
    refine ⟨fun st => badS, fun sts => ?_⟩
    show DSs Γ X W sts (exec _ .bad)
    rw [exec_bad]
    exact ⟨_, pss_never, fun _ _ _ _ _ _ _ _ p => p⟩
  | succ n ih0 =>
    intro X W hp hs hf c
    have ih := ih0 X W hp hs hf c
    have ihB : ∀ e, Both fs Γ k X W e (trE g an N n sc0 sc e) := fun e => sound n X sc0 sc W e c
    refine ⟨fun st => ?_, fun sts => ?_⟩
    · cases st with
      | Expr e pos =>
        show DS Γ X W _ (exec _ (if isStrC e = true then .skip else if isComp e = true then .bad else (match appOf g an N sc e with
          | some (i, j, args) => .appP i j (exs (args.map (trE g an N n sc0 sc)))
          | none => (match metOf g an N sc e with
            | some (i, m, args) => .mut m i (exs (args.map (trE g an N n sc0 sc)))
            | none => .expr (trE g an N n sc0 sc e)))))
        by_cases h1 : isStrC e = true
        · rw [if_pos h1, exec_skip]
          cases e <;> first | exact Bool.noConfusion h1 | skip
          rename_i cc j p
          cases cc <;> first | exact Bool.noConfusion h1 | exact ds_doc
        · rw [if_neg h1]
          by_cases h2 : isComp e = true
          · rw [if_pos h2]; exact badS
          · rw [if_neg h2]
            have hsw : swapsWith e none pos.line X.env = pure false := sw_else (by simpa using h2)
            cases qa : appOf g an N sc e with
            | some r =>
              obtain ⟨i, j, args⟩ := r
              dsimp only
              rw [exec_appP]
              exact sound_app c hsw (fun e => (ihB e).1) qa
            | none =>
            dsimp only
            cases q : metOf g an N sc e with
            | some r =>
              obtain ⟨i, m, args⟩ := r
              dsimp only
              rw [exec_mut]
              exact ds_mut hsw (sound_met c (fun e => (ihB e).1) q)
            | none =>
              dsimp only
              rw [exec_expr]
              exact ds_expr hsw (ihB e).1
      | Return v pos =>
        cases v with
        | none => show DS Γ X W _ (exec _ .retN); rw [exec_retN]; exact ds_retN
        | some e =>
          show DS Γ X W _ (exec _ (if (an.ow && isNew g sc e) = true then .retO (trE g an N n sc0 sc e) else (match an.nw, e with
            | true, .List es _ => if es.any star = true then .bad else .ret (.new (exs (es.map (trE g an N n sc0 sc))))
            | _, _ => .ret (trE g an N n sc0 sc e))))
          by_cases h1 : (an.ow && isNew g sc e) = true
          · rw [if_pos h1, exec_retO]
            exact ds_retO (ihB e).2.2
          · rw [if_neg h1]
            split
            · rename_i es p2 _
              by_cases h2 : es.any star = true
              · rw [if_pos h2]; exact badS
              · rw [if_neg h2, exec_ret, ev_new]
                exact ds_ret (de_new (sound_args (fun e => (ihB e).1) (by simpa using h2)))
            · rw [exec_ret]
              exact ds_ret (ihB _).1
      | Pass pos => show DS Γ X W _ (exec _ .skip); rw [exec_skip]; exact ds_pass
      | Break pos => show DS Γ X W _ (exec _ .brk); rw [exec_brk]; exact ds_break
      | Continue pos => show DS Γ X W _ (exec _ .cont); rw [exec_cont]; exact ds_cont
      | If t a b pos => show DS Γ X W _ (exec _ (.ife _ _ _)); rw [exec_ife]; exact ds_if (ihB t).2.1 (ih.2 a) (ih.2 b)
      | While t b els pos =>
        cases els with
        | nil => show DS Γ X W _ (exec _ (.whl _ _)); rw [exec_whl]; exact ds_while hp (ihB t).2.1 (ih.2 b)
        | cons _ _ => exact badS
      | For tg it b els pos =>
        cases els with
        | nil =>
          show DS Γ X W _ (exec _ (if isSet it = true then .bad else (match cellFor an N sc tg it with
            | some (k, a) => .forC k (trE g an N n sc0 sc a) _ _
            | none => .for_ _ _ _)))
          by_cases h : isSet it = true
          · rw [if_pos h]; exact badS
          · rw [if_neg h]
            cases qc : cellFor an N sc tg it with
            | none =>
              dsimp only
              rw [exec_for]
              exact ds_for hp c.calm (notSet (by simpa using h)) (sound_I c (fun e => (ihB e).1) tg it) (sound_T c (fun e => (ihB e).1) n tg) (ih.2 b)
            | some ka =>
              obtain ⟨kk, a⟩ := ka
              dsimp only
              rw [exec_forC]
              exact sound_forC c hp (by simpa using h) (fun e => (ihB e).1) qc (sound_T c (fun e => (ihB e).1) n tg) (ih.2 b)
        | cons _ _ => exact badS
      | Assign tgs e pos =>
        rcases tgs with _ | ⟨tg, _ | ⟨_, _⟩⟩
        · exact badS
        · show DS Γ X W _ (exec _ (match lendOf an N sc tg e pos.line with
            | some (j, i) => .asgB j i (trE g an N n sc0 sc e)
            | none => (match metOf g an N sc e with
              | some (i, .pop, args) => if star tg = true ∨ isListX tg = true then .bad else .popO (trT g N (trE g an N n sc0 sc) n sc0 sc tg) i (exs (args.map (trE g an N n sc0 sc)))
              | some _ => .bad
              | none => trAsg g an N n sc0 sc tg e)))
          cases ql : lendOf an N sc tg e pos.line with
          | some ji =>
            obtain ⟨j, i⟩ := ji
            dsimp only
            rw [exec_asgB]
            exact sound_lend c (ihB e).1 ql
          | none =>
          dsimp only
          cases q : metOf g an N sc e with
          | none => exact sound_asg c
          | some r =>
            obtain ⟨i, m, args⟩ := r
            cases m <;> first | exact badS | skip
            dsimp only
            by_cases h0 : star tg = true ∨ isListX tg = true
            · rw [if_pos h0]; exact badS
            · rw [if_neg h0, exec_popO]
              have hst : star tg = false := by
                cases q : star tg with
                | false => rfl
                | true => exact absurd (.inl q) h0
              have hnl : ∀ es p, tg ≠ .List es p := fun es p z => by
                subst z
                exact h0 (.inr rfl)
              have hce : isComp e = false ∧ isTuple e = false := by
                cases e <;> first | (cases q; done) | exact ⟨rfl, rfl⟩
              exact ds_popO (sw_else hce.1) (stores_none (.inr hce.2) hnl) hst (sound_met c (fun e => (ihB e).1) q) (sound_T c (fun e => (ihB e).1) n tg)
        · exact badS
      | AugAssign tg op e pos =>
        cases tg with
        | Name x px => exact sound_aug c (ihB e).1
        | _ => exact badS
      | Raise ex cause pos => exact sound_raise c (fun e => (ihB e).1)
      | Try b hds els fin pos => exact sound_try c hs hf (fun W' pn xe t1 t2 => (ih0 (X.tr pn xe) W' t2 hs hf (c.tr t1)).2 b)
      | _ => exact badS
    · cases sts with
      | nil => show DSs Γ X W _ (exec _ .skip); rw [exec_skip]; exact dss_nil
      | cons st r => show DSs Γ X W _ (exec _ (.seq _ _)); rw [exec_seq]; exact dss_cons (sound_frz (ih.1 st)) (ih.2 r)
theorem sound_S (hp : PassesOwn (model X.prog X.w) X.A X.env X.xe) (hs : X.stack = X.env :: X.outer) (hf : X.env.frame = some X.env.locals) (c : Cok g fs Γ N k X sc0 sc W) : ∀ n : Nat, (∀ st, DS Γ X W st (exec (callF fs k) (trS g an N n sc0 sc st))) ∧ (∀ sts, DSs Γ X W sts (exec (callF fs k) (trSs g an N n sc0 sc sts))) := fun n => sound_S0 n X W hp hs hf c
end
end PD

set_option Elab.async false
set_option linter.all false
set_option maxRecDepth 100000
set_option maxHeartbeats 4000000
namespace PD
open PySem PySem.Spec PyProof.Rows L2
section
variable {P : Program} {w : World} {K : PySem.W.Frag} {mg : Str → Option Value} {base : Heap} {g : GT} {fs : List Fn} {Γ : Wd}
theorem er_start {α : Al} {H : Hp} {N : List Str} {ds : List D} {vs : List V} (r : Reps Γ.K α H ds vs) : ER Γ α H (startE N ds) (L2.start N vs) := by
  have key : ∀ (i : Nat) (d : D), (startE N ds)[i]? = some (some d) → ∃ v, (L2.start N vs)[i]? = some (some v) ∧ Rep Γ.K α H d v := by
    unfold startE L2.start
    intro i d h
    have hl := r.length
    by_cases c : i < ds.length
    · rw [List.getElem?_append_left (by simpa using c), List.getElem?_map] at h
      cases q : ds[i]? with
      | none => rw [q] at h; cases h
      | some d' =>
        rw [q] at h
        cases h
        obtain ⟨v, e, rv⟩ := r.get q
        exact ⟨v, by rw [List.getElem?_append_left (by simp; omega), List.getElem?_map, e]; rfl, rv⟩
    · rw [List.getElem?_append_right (by simpa using c), List.getElem?_replicate] at h
      split at h <;> cases h
  refine ⟨by unfold startE L2.start; simp [r.length], fun i d h => ?_, fun i j a xs ys _ h _ _ => ?_⟩
  · obtain ⟨v, e, q⟩ := key i d h
    exact ⟨v, e, .val q⟩
  · obtain ⟨v, e, q⟩ := key i _ h
    have := q.plain
    cases this
/-- the addresses for a def that is called -/
def Al.sub (α : Al) : Al := ⟨α.c, [], α.o ++ α.b⟩
theorem Al.sub_mem {α : Al} : ∀ a, a ∈ α.sub.o ∨ a ∈ α.sub.b → a ∈ α.o ∨ a ∈ α.b := fun a h => by
  rcases h with h | h
  · cases h
  · exact List.mem_append.mp h
theorem ret_step {α α' : Al} {H H' : Hp} (s : Stp Γ.K α.sub H α' H') : Step Γ.K α H ⟨α'.c, α.o, α.b⟩ H' :=
  .of s.pre s.tup s.ro rfl rfl (fun a ha => by
    rcases s.new a (.inl ha) with (z | z) | z
    · exact .inl z
    · cases z
    · exact .inr z) fun a o ha e => s.frm a o ha (by intro z; cases z) e
theorem ret_mem {α α' : Al} {H H' : Hp} (s : Stp Γ.K α.sub H α' H') : ∀ a, a ∈ (⟨α'.c, α.o, α.b⟩ : Al).o ∨ a ∈ (⟨α'.c, α.o, α.b⟩ : Al).b → a ∈ α'.o ∨ a ∈ α'.b := fun a h => .inr (by
  rw [s.hb]
  exact List.mem_append.mpr h)
theorem ret_ext {α α' : Al} {H H' : Hp} (s : Stp Γ.K α.sub H α' H') : Ext Γ.K α' H' ⟨α'.c, α.o, α.b⟩ H' := Ext.sub (α := α') (α1 := ⟨α'.c, α.o, α.b⟩) rfl (ret_mem s)
theorem end_post {own : Bool} {α : Al} {H : Hp} {r : RS} {Q : VK} {E : XK} (p : PstC Γ own α H (endOf own r) Q E) : PstS Γ α.sub H r { nx := fun _ H' => Q .non H', rt := Q } (fun cls d _ H => E cls d H) := by
  cases own with
  | false =>
    have p' : Pst Γ (RV Γ) α H (endOf false r) Q E := p
    cases r with
    | nx en h => exact fun α' H' σ' st hr er => p' _ _ _ (ret_step st) (hr.sub rfl (ret_mem st)) .non
    | rt d h => exact fun α' H' v st hr rv => p' _ _ _ (ret_step st) (hr.sub rfl (ret_mem st)) (rv.monoE (ret_ext st))
    | ro ds h => exact False.elim p'
    | bk en h => exact False.elim p'
    | ct en h => exact False.elim p'
    | exc c x en h =>
      intro α' H' σ' cls d st hr er xr
      obtain ⟨da, v, e1, e2, e3, e4, e5⟩ := xr
      exact p' _ _ _ _ (ret_step st) (hr.sub rfl (ret_mem st)) ⟨da, v, e1, e2, e3, e4, e5.monoE (ret_ext st)⟩
    | bad => exact p'
  | true =>
    have p' : PstF Γ α H (bnd (endOf true r) ownOfD) Q E := p
    cases r with
    | nx en h => exact False.elim p'
    | rt d h =>
      intro α' H' v st hr rv
      cases rv <;> exact False.elim p'
    | ro ds h =>
      intro α' H' a vs st hr e ao ac rs
      have q0 : H a = none := by
        rcases st.new a (.inr ao) with (z | z) | z
        · obtain ⟨β, e1⟩ := st.pre
          exact (ac (by rw [e1]; exact List.mem_append_left _ z)).elim
        · cases z
        · exact z
      have sb : ∀ b, b ∈ (⟨α'.c, a :: α.o, α.b⟩ : Al).o ∨ b ∈ (⟨α'.c, a :: α.o, α.b⟩ : Al).b → b ∈ α'.o ∨ b ∈ α'.b := fun b hb => by
        rcases hb with hb | hb
        · rcases List.mem_cons.mp hb with rfl | hb
          · exact .inl ao
          · exact ret_mem st b (.inl hb)
        · exact ret_mem st b (.inr hb)
      have s1 := ret_step st
      exact p' ⟨α'.c, a :: α.o, α.b⟩ H' a vs (.of s1.pre s1.tup s1.ro rfl rfl q0 s1.new s1.frm) (hr.sub rfl sb) e (rs.monoE (Ext.sub (α := α') (α1 := ⟨α'.c, a :: α.o, α.b⟩) rfl sb))
    | bk en h => exact False.elim p'
    | ct en h => exact False.elim p'
    | exc c x en h =>
      intro α' H' σ' cls d st hr er xr
      obtain ⟨da, v, e1, e2, e3, e4, e5⟩ := xr
      exact p' _ _ _ _ (ret_step st) (hr.sub rfl (ret_mem st)) ⟨da, v, e1, e2, e3, e4, e5.monoE (ret_ext st)⟩
    | bad => exact p'
/-- what the top says of one def -/
structure FnAt (K : PySem.W.Frag) (mg : Str → Option Value) (g : GT) (n : Nat) (f : Fn) (nm : Str) (st : Stmt) (a : Addr) (fd : FuncData) : Prop where
  fn : Fun K nm nm st a fd
  mg : mg f.name = some (.ref a)
  bd : Binds K fd f.ps []
  sc : FnScope f.N f.ps (defScope st)
  tr : ∃ an, trSs g an f.N n (defScope st) (defScope st) (defBody st) = f.body
  kw : ∀ l, g.kws.lookup f.name = some l → KwAt K fd f.ps l
theorem kwn {K : PySem.W.Frag} {fd : FuncData} {ps : List Str} : KwAt K fd ps [] := trivial
theorem kwc {K : PySem.W.Frag} {fd : FuncData} {ps ks : List Str} {m : Nat} {π : List Nat} {r : List ((Nat × List Str) × List Nat)} (a : KB K fd ps m ks π) (b : KwAt K fd ps r) : KwAt K fd ps (((m, ks), π) :: r) := ⟨a, b⟩
theorem fun_kb {x qual : Str} {st : Stmt} {f : Addr} {fd : FuncData} {ps ks : List Str} {m : Nat} {π : List Nat} (F : Fun K x qual st f fd) (e : m + π.length = ps.length)
    (h : ∀ (kV doc pm : Value) (an : Option Addr) (cdv ct : Value) (us ws : List Value), us.length = m → ws.length = π.length → bindArgs (PySem.W.fnOf x qual (defArgs st) (defBody st) (defScope st) .none kV doc pm an cdv ct) ⟨us, ks.zip ws⟩ = pure (ps.zip (us ++ π.map fun j => ws.getD j .none))) : KB K fd ps m ks π := by
  obtain ⟨oc, od, kV, doc, pm, an, cdv, ct, osl, rfl, lk, hcd⟩ := F.ex
  exact ⟨e, fun s us ws h1 h2 => .of_eq (h kV doc pm an cdv ct us ws h1 h2)⟩
/-- what the module says -/
structure ModAt (K : PySem.W.Frag) (mg : Str → Option Value) (g : GT) (fs : List Fn) (Γ : Wd) (n : Nat) : Prop where
  hK : K = Γ.K
  names : g.fns = fs.map fun f => (f.name, f.id, f.own)
  ids : (fs.map (·.id)).Nodup
  cons : ∀ x d, g.cons.lookup x = some d → ∃ u v, mg x = some u ∧ RelV v u ∧ ∀ α H, Rep Γ.K α H d v
  bi : ∀ x ∈ bnames, mg x = none
  fns : ∀ f, f ∈ fs → ∃ nm st a fd, FnAt K mg g n f nm st a fd
  xs : Γ.xs = none
  cls : ∀ x c cs ds, g.cls.lookup x = some (c, cs, ds) → mg x = some (.ref (Γ.ca c)) ∧ (∀ c', c' ∈ cs → PySem.W.exmOne K (.ref (Γ.ca c')) (.ref (Γ.ca c)) = some true ∧ PySem.W.kitOne K (.ref (Γ.ca c')) (.ref (Γ.ca c)) = some true) ∧ (∀ c', c' ∈ ds → PySem.W.exmOne K (.ref (Γ.ca c')) (.ref (Γ.ca c)) = some false ∧ PySem.W.kitOne K (.ref (Γ.ca c')) (.ref (Γ.ca c)) = some false)
  rz : ∀ x c, g.rz.lookup x = some c → mg x = some (.ref (Γ.ca c)) ∧ ∃ fI, PySem.OwnX.OwnTxt K (Γ.ca c) fI
  exc : ∀ c, c ∈ g.rz.map (·.2) → XfC K (Γ.ca c) ∧ PySem.W.findIn K (.ref (Γ.ca c)) "value" = some none ∧ ExC K (Γ.ca c)
theorem fget_mem : ∀ {fs : List Fn} {f : Fn}, (fs.map (·.id)).Nodup → f ∈ fs → fget fs f.id = some f
  | [], _, _, h => by cases h
  | e :: r, f, nd, h => by
    rw [List.map_cons, List.nodup_cons] at nd
    unfold fget
    rw [List.find?_cons]
    rcases List.mem_cons.mp h with q | q
    · subst q
      simp
    · have ne : (e.id == f.id) = false := by
        rw [beq_eq_false_iff_ne]
        intro z
        exact nd.1 (by rw [z]; exact List.mem_map.mpr ⟨f, q, rfl⟩)
      rw [ne]
      exact fget_mem nd.2 q
theorem lookup_mem {l : List (Str × Nat × Bool)} {x : Str} {i : Nat × Bool} (h : l.lookup x = some i) : (x, i) ∈ l := PySem.mem_of_lookup h
theorem fn_zero (M : ModAt K mg g fs Γ n) {i : Nat} {f : Fn} {st : Stmt} {a : Addr} {fd : FuncData} : FnG P w K mg base (L2.CX P w) 0 a fd f.ps (spF Γ fs 0 i f.ps.length f.own) :=
  ⟨fun vs H Q E h => h.1, fun A outer s H args us vs Q E hr gd e0 hb r h => by
    obtain ⟨_, α, hh, ds, _, _, p⟩ := h
    have : PstC Γ f.own α H .bad Q E := p
    cases q : f.own <;> rw [q] at this <;> exact False.elim this⟩
theorem fn_succ {n k : Nat} (M : ModAt K mg g fs Γ n) (ih : ∀ f, f ∈ fs → ∀ nm st a fd, FnAt K mg g n f nm st a fd → FnG P w K mg base (L2.CX P w) k a fd f.ps (spF Γ fs k f.id f.ps.length f.own))
    {f : Fn} {st : Stmt} {a : Addr} {fd : FuncData} {nm : Str} (hm : f ∈ fs) (F : FnAt K mg g n f nm st a fd) : FnG P w K mg base (L2.CX P w) (k + 1) a fd f.ps (spF Γ fs (k + 1) f.id f.ps.length f.own) := by
  have hf := fget_mem M.ids hm
  refine Fun.okG F.fn F.sc (fun vs H Q E h => h.1) (fun cdv A outer s H vs Q E hr gd h => ?_)
  obtain ⟨hl, α, hh, ds, hrel, rs, p⟩ := h
  unfold callF at p
  rw [hf] at p
  dsimp only at p
  rw [if_pos (by rw [rs.length]; exact hl)] at p
  have c : Cok g fs Γ f.N k (cxOf (L2.CX P w) P w K mg base f.N nm (defScope st) a cdv A outer s H E) (defScope st) (defScope st) (fun cls d _ H => E cls d H) := by
    refine ⟨rfl, F.sc.nd, rfl, F.sc.kind, fun _ _ => rfl, rfl, hr, gd, M.hK, M.cons, M.bi, fun j b x hx => ?_, M.xs, M.cls, M.rz, M.exc, takes_of rfl rfl rfl rfl⟩
    rw [M.names] at hx
    obtain ⟨f', q, e⟩ := List.mem_map.mp (lookup_mem hx)
    cases e
    obtain ⟨nm', st', a', fd', F'⟩ := M.fns f' q
    exact ⟨f', a', fd', fget_mem M.ids q, rfl, rfl, F'.mg, F'.fn.kp, F'.bd, ih f' q nm' st' a' fd' F', F'.kw⟩
  have hp : PassesOwn (model P w) (A.deeper (envOfC nm (defScope st) s.heap.objs.size a cdv)) (envOfC nm (defScope st) s.heap.objs.size a cdv) (cxOf (L2.CX P w) P w K mg base f.N nm (defScope st) a cdv A outer s H E).xe :=
    passes_of (X := cxOf (L2.CX P w) P w K mg base f.N nm (defScope st) a cdv A outer s H E) (K := fun e s'' => L2.CX P w outer H s E e s'') rfl
  obtain ⟨an, tr⟩ := F.tr
  obtain ⟨t, pt, kk⟩ := ((sound_S (an := an) hp rfl rfl c n).2 (defBody st)).ex
  refine ⟨t, pt, kk α.sub _ _ _ _ _ (hrel.sub rfl Al.sub_mem) (er_start (rs.monoE (Ext.sub (α := α) (α1 := α.sub) rfl Al.sub_mem))) ?_⟩
  rw [tr]
  exact end_post p
theorem fn_all {n : Nat} (M : ModAt K mg g fs Γ n) : ∀ (k : Nat) (f : Fn), f ∈ fs → ∀ nm st a fd, FnAt K mg g n f nm st a fd → FnG P w K mg base (L2.CX P w) k a fd f.ps (spF Γ fs k f.id f.ps.length f.own)
  | 0, f, hf, nm, st, a, fd, F => fn_zero (st := st) M
  | k + 1, f, hf, nm, st, a, fd, F => fn_succ M (fun f' hf' => fn_all M k f' hf') hf F
/-- the law's own promise, from the evaluation of its def -/
theorem law_post {i k : Nat} {H : Hp} {a : Addr} {ns : List Int} (hO : Only H) (hS : SqL Γ.K H a (ns.map V.int)) (e : ∃ h', callF fs k i [.scr ns] [] = .ok (.bl true) h') : spF Γ fs k i 1 false [.ref a] H (fun v _ => v = .bl true) fun _ _ _ => False := by
  obtain ⟨h', e⟩ := e
  refine ⟨rfl, ⟨[], [], []⟩, [], [.scr ns], ⟨rfl, List.nodup_nil, fun a h => by simp at h, fun a h => by simp at h, fun n a o h => by simp at h⟩, .cons (.scr ?_) .nil, ?_⟩
  · rcases hS with (s | ⟨o, s⟩) | s
    · rcases hO a with q | ⟨o, xs, q⟩
      · rw [q] at s; cases s
      · rw [q] at s; cases s
    · exact .inl ⟨o, s⟩
    · exact .inr s
  · show Pst Γ (RV Γ) _ _ _ _ _
    rw [e]
    intro α' H' b st hr r
    cases r
    rfl
theorem noCX {H : Hp} {s s' : Shared} {e : Value} {outer : List Env} (h : L2.CX P w outer H s (fun _ _ _ => False) e s') : False := by
  obtain ⟨_, _, _, _, _, _, _, _, _, _, _, _, z⟩ := h
  exact z
/-- the law is called: as law_call, from a promise that holds where nothing is printed -/
theorem callG {P : Program} {w : World} {K : PySem.W.Frag} {mg mb : Str → Option Value} {C : CXT} {k : Nat} {fa a : Addr} {fd : FuncData} {x : Str} {sp : Sp} {s1 : Shared} {vs : List Value} {ns : List Int} (KX : K.In s1.heap) (n1 : s1.heap.Ns mainGlobals mg) (n2 : s1.heap.Ns builtinsNs mb)
    (n3 : ∀ x : Str, x ≠ "__name__" → mb x = bootBuiltins x) (nl : s1.heap.NoLimit) (g0 : s1.gens = #[]) (ob : s1.heap.get? a = some { cls := .type "list", data := .seq vs.toArray }) (is : IntsAre vs ns) (sz : ns.length ≤ sizeLine) (rm : Room k callerA)
    (F : ∀ base : Heap, K.In base → base.Ns mainGlobals mg → FnG P w K mg base C k fa fd [x] sp) (bd : ∀ (s : Shared) (u : Value), BindsTo s fd ⟨[u], []⟩ [(x, u)])
    (pr : ∀ H : Hp, Only H → SqL K H a (ns.map V.int) → sp [.ref a] H (fun v _ => v = .bl true) fun _ _ _ => False) (no : ∀ H e s', C [] H s1 (fun _ _ _ => False) e s' → False) :
    codeAny (model P w) callerA (.call (.ref fa) ⟨[.ref a], []⟩) (fun r s' => r = .ok (.ret (.bool true)) ∧ OldK s1.heap s'.heap ∧ s'.os = s1.os ∧ AllBare s'.gens) s1 := by
  have rv := vals_ints is
  have go : ∀ H : Hp, Only H → SqL K H a (ns.map V.int) → HOk P w H s1.heap → (∀ b u, H b = some u → b = a ∧ K.lookup a = none) →
      codeAny (model P w) callerA (.call (.ref fa) ⟨[.ref a], []⟩) (fun r s' => r = .ok (.ret (.bool true)) ∧ OldK s1.heap s'.heap ∧ s'.os = s1.os ∧ AllBare s'.gens) s1 := fun H oO oS ok at_ => by
    have nsK : ∀ {b : Addr} {m : Str → Option Value}, s1.heap.Ns b m → (hidT s1.heap H).Ns b m := fun {b m} ⟨o, es, ep, e, d, r⟩ => by
      refine ⟨o, es, ep, hidT_get e ?_, d, r⟩
      cases q : H b with
      | none => rfl
      | some u =>
        cases (at_ b u q).1
        cases ob.symm.trans e
        cases d
    have kb : K.In (hidT s1.heap H) := fun b o e => hidT_get (KX b o e) (by
      cases q : H b with
      | none => rfl
      | some u =>
        obtain ⟨rfl, z⟩ := at_ b u q
        cases z.symm.trans e)
    obtain ⟨mc, l1, l2⟩ := nl
    have e0 : Env0 P w K mg (hidT s1.heap H) callerA [] s1 H := ⟨rfl, ⟨kb, nsK n1, ⟨mb, nsK n2, n3⟩, ⟨mc, nsK l1, l2⟩⟩, fun b o e => of_hidT e, Nat.le_of_eq (hidT_size _ _), trivial, fun b q => (by cases q), ok, .of_eq g0⟩
    refine codeAny_mono ((F _ kb (nsK n1)).go callerA [] s1 H ⟨[.ref a], []⟩ [.ref a] [.ref a] _ _ rm rfl e0 (bd s1 (.ref a)) (.cons rfl .nil) (pr H oO oS)) fun r s2 c => ?_
    match r, c with
    | .error e, c => exact (no H e s2 c).elim
    | .ok (.ret u), ⟨v, H2, os, bare, un, ok2, rr, q⟩ =>
      cases (show v = .bl true from q)
      cases (show u = Value.bool true from rr)
      refine ⟨rfl, OldK.of_keep fun b o e => ?_, os, bare⟩
      cases q : H b with
      | none => exact un.keep b o e q (fun z => by cases z) (by simp)
      | some u =>
        rcases oO b with z | ⟨o2, xs, z⟩
        · cases q.symm.trans z
        · have i1 := (ok b _ z).1
          cases e.symm.trans i1
          exact (ok2 b _ (un.frzs b _ _ z)).1
  cases hk : K.lookup a with
  | some o =>
    have e := KX a o hk
    cases ob.symm.trans e
    exact go (fun _ => none) (fun _ => .inl rfl) (.inr ⟨_, vs.toArray, _, hk, rfl, rfl, rfl, by rw [List.size_toArray, is.length]; exact sz, by simpa using rv⟩) (fun b u z => nomatch z) fun b u z => nomatch z
  | none =>
    let H0 : Hp := fun b => if b = a then some (.frz { cls := .type "list", data := .seq vs.toArray } (.lst (ns.map V.int))) else none
    have at0 : ∀ b u, H0 b = some u → b = a ∧ u = .frz { cls := .type "list", data := .seq vs.toArray } (.lst (ns.map V.int)) := fun b u z => by
      by_cases q : b = a
      · have y : H0 b = _ := if_pos q
        rw [y] at z
        cases z
        exact ⟨q, rfl⟩
      · have y : H0 b = none := if_neg q
        rw [y] at z
        cases z
    refine go H0 (fun b => ?_) (.inl (.inr ⟨_, if_pos rfl⟩)) (fun b u z => ?_) fun b u z => ⟨(at0 b u z).1, hk⟩
    · by_cases q : b = a
      · exact .inr ⟨_, _, if_pos q⟩
      · exact .inl (if_neg q)
    · obtain ⟨rfl, rfl⟩ := at0 b u z
      exact ⟨ob, by rw [List.length_map]; exact sz, vs, _, rv, ob⟩
/-- the walk that k_head asks for -/
theorem walkG {l : PySem.W.OpenLaw} {n k : Nat} {q : Program} {lo : List Str} {XP : (Str → Option Value) → Heap → Prop} {YP : World → Heap → Prop} {d : DefRec} {K : Params → PySem.W.Frag} {C : World → CXT} {sp : World → Sp} {x : Str} (h1 : l.most = some n) (h2 : n ≤ sizeLine) (h3 : d.params.defaults = []) (rm : Room k callerA)
    (hY : ∀ (w : World) (h : Heap), YP w h → (K w.params).In h)
    (F : ∀ (w : World) (mg : Str → Option Value) (fa : Addr) (h : Heap), (K w.params).In h → h.Ns mainGlobals mg → mg d.name = some (.ref fa) → ∃ fd : FuncData, (∀ (s : Shared) (u : Value), BindsTo s fd ⟨[u], []⟩ [(x, u)]) ∧ ∀ base : Heap, (K w.params).In base → base.Ns mainGlobals mg → FnG l.prog w (K w.params) mg base (C w) k fa fd [x] (sp w))
    (pr : ∀ (w : World) (H : Hp) (a : Addr) (ns : List Int), ns.length ≤ n → (∀ z ∈ ns, Builtin.Int.intBits z ≤ 1048576) → Only H → SqL (K w.params) H a (ns.map V.int) → sp w [.ref a] H (fun v _ => v = .bl true) fun _ _ _ => False)
    (no : ∀ (w : World) (H : Hp) (s : Shared) (e : Value) (s' : Shared), C w [] H s (fun _ _ _ => False) e s' → False) : PySem.W.WalkO q lo XP YP l.row.toRowW d [] (fun f vs => PySem.call f vs) :=
  Att.attach_callB h1 h3 fun w s0 s1 mg mb fa o pm cd doc a vs ns G Y ho hd hcd hmg hobj is hl hbits hg => by
    obtain ⟨fd, b, f⟩ := F w mg fa _ (hY w _ Y) G.T.g hmg
    exact callG (hY w _ Y) G.T.g G.T.b G.T.builtins G.T.nolimit hg hobj is (Nat.le_trans hl h2) rm f b (fun H oO oS => pr w H a ns hl hbits oO oS) fun H e s' => no w H s1 e s'
def ConsAt (K : PySem.W.Frag) (mg : Str → Option Value) : List (Str × D) → Prop
  | [] => True
  | (x, d) :: r => (∃ u v, mg x = some u ∧ RelV v u ∧ ∀ α H, Rep K α H d v) ∧ ConsAt K mg r
theorem ConsAt.get : ∀ {l : List (Str × D)} {x : Str} {d : D}, ConsAt K mg l → l.lookup x = some d → ∃ u v, mg x = some u ∧ RelV v u ∧ ∀ α H, Rep K α H d v
  | [], _, _, _, h => by cases h
  | (y, e) :: r, x, d, c, h => by
    rw [List.lookup_cons] at h
    by_cases q : x = y
    · subst q
      simp only [beq_self_eq_true] at h
      cases h
      exact c.1
    · have : (x == y) = false := by simpa using q
      rw [this] at h
      exact ConsAt.get c.2 h
def BiAt (mg : Str → Option Value) : List Str → Prop
  | [] => True
  | x :: r => mg x = none ∧ BiAt mg r
theorem BiAt.get : ∀ {l : List Str}, BiAt mg l → ∀ x ∈ l, mg x = none
  | [], _, _, h => by cases h
  | y :: r, c, x, h => by
    rcases List.mem_cons.mp h with e | e
    · rw [e]; exact c.1
    · exact BiAt.get c.2 x e
def FnsAt (K : PySem.W.Frag) (mg : Str → Option Value) (g : GT) (n : Nat) : List Fn → Prop
  | [] => True
  | f :: r => (∃ nm st a fd, FnAt K mg g n f nm st a fd) ∧ FnsAt K mg g n r
theorem FnsAt.get {n : Nat} : ∀ {l : List Fn} {f : Fn}, FnsAt K mg g n l → f ∈ l → ∃ nm st a fd, FnAt K mg g n f nm st a fd
  | [], _, _, h => by cases h
  | e :: r, f, c, h => by
    rcases List.mem_cons.mp h with q | q
    · subst q
      exact c.1
    · exact FnsAt.get c.2 q
/-- what the top has written of the own errors -/
def ClsAt (K : PySem.W.Frag) (mg : Str → Option Value) (ca : Nat → Addr) : List (Str × Nat × List Nat × List Nat) → Prop
  | [] => True
  | (x, c, cs, ds) :: r => (mg x = some (.ref (ca c)) ∧ (∀ c', c' ∈ cs → PySem.W.exmOne K (.ref (ca c')) (.ref (ca c)) = some true ∧ PySem.W.kitOne K (.ref (ca c')) (.ref (ca c)) = some true) ∧ (∀ c', c' ∈ ds → PySem.W.exmOne K (.ref (ca c')) (.ref (ca c)) = some false ∧ PySem.W.kitOne K (.ref (ca c')) (.ref (ca c)) = some false)) ∧ ClsAt K mg ca r
theorem ClsAt.get {mg : Str → Option Value} {ca : Nat → Addr} : ∀ {l : List (Str × Nat × List Nat × List Nat)}, ClsAt K mg ca l → ∀ x c cs ds, l.lookup x = some (c, cs, ds) → mg x = some (.ref (ca c)) ∧ (∀ c', c' ∈ cs → PySem.W.exmOne K (.ref (ca c')) (.ref (ca c)) = some true ∧ PySem.W.kitOne K (.ref (ca c')) (.ref (ca c)) = some true) ∧ (∀ c', c' ∈ ds → PySem.W.exmOne K (.ref (ca c')) (.ref (ca c)) = some false ∧ PySem.W.kitOne K (.ref (ca c')) (.ref (ca c)) = some false)
  | [], _, _, _, _, _, h => by cases h
  | (y, d) :: r, a, x, c, cs, ds, h => by
    rw [List.lookup_cons] at h
    by_cases q : (x == y) = true
    · rw [q] at h
      cases h
      have e : x = y := by simpa using q
      subst e
      exact a.1
    · rw [show (x == y) = false by simpa using q] at h
      exact ClsAt.get a.2 x c cs ds h
def RzAt (K : PySem.W.Frag) (mg : Str → Option Value) (ca : Nat → Addr) : List (Str × Nat) → Prop
  | [] => True
  | (x, c) :: r => (mg x = some (.ref (ca c)) ∧ (∃ fI, PySem.OwnX.OwnTxt K (ca c) fI) ∧ XfC K (ca c) ∧ PySem.W.findIn K (.ref (ca c)) "value" = some none ∧ ExC K (ca c)) ∧ RzAt K mg ca r
theorem RzAt.mem {mg : Str → Option Value} {ca : Nat → Addr} : ∀ {l : List (Str × Nat)}, RzAt K mg ca l → ∀ q, q ∈ l → mg q.1 = some (.ref (ca q.2)) ∧ (∃ fI, PySem.OwnX.OwnTxt K (ca q.2) fI) ∧ XfC K (ca q.2) ∧ PySem.W.findIn K (.ref (ca q.2)) "value" = some none ∧ ExC K (ca q.2)
  | [], _, _, h => by cases h
  | (y, d) :: r, a, q, h => by
    rcases List.mem_cons.mp h with rfl | h
    · exact a.1
    · exact RzAt.mem a.2 q h
theorem mod_at {n : Nat} {ca : Nat → Addr} (hn : g.fns = fs.map fun f => (f.name, f.id, f.own)) (hi : (fs.map (·.id)).Nodup) (c : ConsAt K mg g.cons) (b : BiAt mg bnames) (f : FnsAt K mg g n fs) (cl : ClsAt K mg ca g.cls) (rz : RzAt K mg ca g.rz) : ModAt K mg g fs ⟨K, ca, none⟩ n :=
  ⟨rfl, hn, hi, fun x d h => c.get h, b.get, fun f' h => f.get h, rfl, cl.get, fun x c h => let q := rz.mem (x, c) (PySem.mem_of_lookup h); ⟨q.1, q.2.1⟩, fun c h => by
    obtain ⟨q, m, e⟩ := List.mem_map.mp h
    subst e
    exact (rz.mem q m).2.2⟩
theorem rep_tupK {α : Al} {H : Hp} {a : Addr} {dd : Option Addr} {its : List Value} {n : Nat} {sl : Array (Option Value)} {ds : List D} (vs : List V) (y : K.lookup a = some ⟨.type "tuple", dd, .seq its.toArray n, sl⟩) (v : Vals vs its) (hz : its.length ≤ sizeLine) (r : Reps K α H ds vs) : Rep K α H (.tup ds) (.ref a) :=
  .tup (.inr ⟨_, _, _, y, rfl, rfl, by simpa using hz, by simpa using v⟩) r
end
end PD

set_option Elab.async false
set_option linter.all false
set_option maxRecDepth 100000
namespace L_onenumber_k08_arguments_by_names
open PD PySem
def gt : GT := ⟨([(("is_integer" : Str), (1 : Nat), false), (("divisor_of" : Str), (2 : Nat), false), (("is_fraction" : Str), (3 : Nat), false), (("lowest" : Str), (4 : Nat), false), (("add" : Str), (5 : Nat), false), (("less" : Str), (6 : Nat), false), (("mul" : Str), (7 : Nat), false), (("div" : Str), (8 : Nat), false), (("order_of" : Str), (9 : Nat), false), (("need_fractions" : Str), (10 : Nat), false), (("fraction" : Str), (11 : Nat), false), (("plus" : Str), (12 : Nat), false), (("minus" : Str), (13 : Nat), false), (("times" : Str), (14 : Nat), false), (("over" : Str), (15 : Nat), false), (("compare" : Str), (16 : Nat), false), (("is_pair" : Str), (17 : Nat), false), (("turn_of" : Str), (18 : Nat), false), (("joined" : Str), (19 : Nat), false), (("spread_by" : Str), (20 : Nat), false), (("need_pairs" : Str), (21 : Nat), false), (("is_ahead" : Str), (22 : Nat), false), (("are_level" : Str), (23 : Nat), false), (("total" : Str), (24 : Nat), false), (("spread" : Str), (25 : Nat), false), (("need_list" : Str), (26 : Nat), false), (("measure" : Str), (27 : Nat), false), (("is_along" : Str), (28 : Nat), false), (("find_ends" : Str), (29 : Nat), false), (("find_witness" : Str), (30 : Nat), false), (("are_positive" : Str), (31 : Nat), false), (("cross" : Str), (32 : Nat), false), (("opposite_of" : Str), (33 : Nat), false), (("round_of" : Str), (34 : Nat), false), (("find_ring" : Str), (35 : Nat), false), (("witness" : Str), (36 : Nat), false), (("is_witness" : Str), (37 : Nat), false), (("ring" : Str), (38 : Nat), false), (("is_share_frames" : Str), (39 : Nat), false), (("is_ring" : Str), (40 : Nat), false), (("weights_left" : Str), (41 : Nat), false), (("are_rungs" : Str), (42 : Nat), false), (("is_ladder" : Str), (43 : Nat), false), (("need_ladder" : Str), (44 : Nat), false), (("need_ladders" : Str), (45 : Nat), false), (("sum_of_pays" : Str), (46 : Nat), false), (("pays" : Str), (47 : Nat), false), (("left" : Str), (48 : Nat), false), (("chain" : Str), (49 : Nat), false), (("is_same_frame" : Str), (50 : Nat), false), (("need_frame" : Str), (51 : Nat), false), (("merge" : Str), (52 : Nat), false), (("glued" : Str), (53 : Nat), false), (("foremost_of" : Str), (54 : Nat), false), (("beside_one_another" : Str), (55 : Nat), false), (("shared" : Str), (56 : Nat), false), (("put_together" : Str), (57 : Nat), false), (("glue" : Str), (58 : Nat), false), (("side_by_side" : Str), (59 : Nat), false), (("is_share_algebra" : Str), (60 : Nat), false), (("blend" : Str), (61 : Nat), false), (("counts_together" : Str), (62 : Nat), false), (("is_outcome" : Str), (63 : Nat), false), (("counts_of" : Str), (64 : Nat), false), (("is_term" : Str), (65 : Nat), false), (("is_mix" : Str), (66 : Nat), false), (("within" : Str), (67 : Nat), false), (("parts_of" : Str), (68 : Nat), false), (("factor_of" : Str), (69 : Nat), false), (("step_pair" : Str), (70 : Nat), false), (("frame_pairs" : Str), (71 : Nat), false), (("find_ladder" : Str), (72 : Nat), false), (("number_of" : Str), (73 : Nat), false), (("need_term" : Str), (74 : Nat), false), (("ladder_of" : Str), (75 : Nat), false), (("numbers" : Str), (76 : Nat), false), (("mix_ladder" : Str), (77 : Nat), false), (("beneath" : Str), (78 : Nat), false), (("follows" : Str), (79 : Nat), false), (("paper" : Str), (80 : Nat), false), (("is_right" : Str), (81 : Nat), false), (("is_paper" : Str), (82 : Nat), false), (("law" : Str), (83 : Nat), false)] : List (Str × Nat × Bool)), ([(("NOUGHT" : Str), ((.tup [(.int 0), (.int 1)]) : D)), (("WHOLE" : Str), ((.tup [(.int 1), (.int 1)]) : D)), (("NONE" : Str), ((.tup [(.tup [(.int 0), (.int 1)]), (.tup [(.int 0), (.int 1)])]) : D)), (("MOST_PAIRS" : Str), ((.int 80) : D)), (("MOST_RUNGS" : Str), ((.int 64) : D)), (("MOST_CHAINED" : Str), ((.int 16) : D)), (("MOST_OUTCOMES" : Str), ((.int 3) : D)), (("MOST_MEMBERS" : Str), ((.int 3) : D)), (("MOST_STEPS" : Str), ((.int 16) : D)), (("MOST_PARTS" : Str), ((.int 48) : D)), (("MOST_TERMS" : Str), ((.int 4) : D)), (("MOST_MIX_PARTS" : Str), ((.int 96) : D))] : List (Str × D)), ([] : List (Str × Nat × List Nat × List Nat)), ([(("BadFraction" : Str), (0 : Nat)), (("BadPair" : Str), (1 : Nat)), (("BadPairs" : Str), (2 : Nat)), (("BadTerm" : Str), (3 : Nat)), (("BadMix" : Str), (4 : Nat)), (("BadLadder" : Str), (5 : Nat)), (("NoFrame" : Str), (6 : Nat)), (("TooMany" : Str), (7 : Nat))] : List (Str × Nat)), ([(("is_fraction" : Str), ([(((0 : Nat), (["value"] : List Str)), ([0] : List Nat))] : List ((Nat × List Str) × List Nat))), (("are_level" : Str), ([(((0 : Nat), (["other", "one"] : List Str)), ([1, 0] : List Nat))] : List ((Nat × List Str) × List Nat))), (("is_ring" : Str), ([(((0 : Nat), (["value", "pairs"] : List Str)), ([1, 0] : List Nat))] : List ((Nat × List Str) × List Nat))), (("plus" : Str), ([(((0 : Nat), (["other", "one"] : List Str)), ([1, 0] : List Nat))] : List ((Nat × List Str) × List Nat))), (("minus" : Str), ([(((0 : Nat), (["other", "one"] : List Str)), ([1, 0] : List Nat))] : List ((Nat × List Str) × List Nat))), (("times" : Str), ([(((0 : Nat), (["other", "one"] : List Str)), ([1, 0] : List Nat))] : List ((Nat × List Str) × List Nat))), (("over" : Str), ([(((0 : Nat), (["other", "one"] : List Str)), ([1, 0] : List Nat))] : List ((Nat × List Str) × List Nat))), (("compare" : Str), ([(((0 : Nat), (["other", "one"] : List Str)), ([1, 0] : List Nat))] : List ((Nat × List Str) × List Nat))), (("fraction" : Str), ([(((0 : Nat), (["bottom", "top"] : List Str)), ([1, 0] : List Nat))] : List ((Nat × List Str) × List Nat))), (("is_ahead" : Str), ([(((0 : Nat), (["other", "one"] : List Str)), ([1, 0] : List Nat))] : List ((Nat × List Str) × List Nat))), (("is_pair" : Str), ([(((0 : Nat), (["value"] : List Str)), ([0] : List Nat))] : List ((Nat × List Str) × List Nat))), (("total" : Str), ([(((0 : Nat), (["pairs"] : List Str)), ([0] : List Nat))] : List ((Nat × List Str) × List Nat))), (("spread" : Str), ([(((0 : Nat), (["share", "pair"] : List Str)), ([1, 0] : List Nat))] : List ((Nat × List Str) × List Nat))), (("is_witness" : Str), ([(((0 : Nat), (["value", "pairs"] : List Str)), ([1, 0] : List Nat))] : List ((Nat × List Str) × List Nat))), (("ring" : Str), ([(((0 : Nat), (["pairs"] : List Str)), ([0] : List Nat))] : List ((Nat × List Str) × List Nat))), (("is_ladder" : Str), ([(((0 : Nat), (["value"] : List Str)), ([0] : List Nat))] : List ((Nat × List Str) × List Nat))), (("pays" : Str), ([(((0 : Nat), (["ladder"] : List Str)), ([0] : List Nat))] : List ((Nat × List Str) × List Nat))), (("left" : Str), ([(((0 : Nat), (["ladder"] : List Str)), ([0] : List Nat))] : List ((Nat × List Str) × List Nat))), (("chain" : Str), ([(((0 : Nat), (["ladder"] : List Str)), ([0] : List Nat))] : List ((Nat × List Str) × List Nat))), (("is_same_frame" : Str), ([(((0 : Nat), (["ladders"] : List Str)), ([0] : List Nat))] : List ((Nat × List Str) × List Nat))), (("put_together" : Str), ([(((0 : Nat), (["rungs"] : List Str)), ([0] : List Nat))] : List ((Nat × List Str) × List Nat))), (("glue" : Str), ([(((0 : Nat), (["rungs", "pair"] : List Str)), ([1, 0] : List Nat))] : List ((Nat × List Str) × List Nat))), (("side_by_side" : Str), ([(((0 : Nat), (["ladders"] : List Str)), ([0] : List Nat))] : List ((Nat × List Str) × List Nat))), (("blend" : Str), ([(((0 : Nat), (["shares"] : List Str)), ([0] : List Nat))] : List ((Nat × List Str) × List Nat))), (("ladder_of" : Str), ([(((0 : Nat), (["term"] : List Str)), ([0] : List Nat))] : List ((Nat × List Str) × List Nat))), (("numbers" : Str), ([(((0 : Nat), (["term"] : List Str)), ([0] : List Nat))] : List ((Nat × List Str) × List Nat))), (("mix_ladder" : Str), ([(((0 : Nat), (["mix"] : List Str)), ([0] : List Nat))] : List ((Nat × List Str) × List Nat))), (("paper" : Str), ([(((0 : Nat), (["term"] : List Str)), ([0] : List Nat))] : List ((Nat × List Str) × List Nat))), (("is_paper" : Str), ([(((0 : Nat), (["value", "term"] : List Str)), ([1, 0] : List Nat))] : List ((Nat × List Str) × List Nat))), (("witness" : Str), ([(((0 : Nat), (["pairs"] : List Str)), ([0] : List Nat))] : List ((Nat × List Str) × List Nat)))] : List (Str × List ((Nat × List Str) × List Nat)))⟩
def f_is_integer : Fn := { id := 1, name := "is_integer", own := false, N := ["value"], ps := ["value"], body := (.seq (.ret (.and (.isi (.var 0) .int) (.not (.isi (.var 0) .bool)))) .skip) }
def f_divisor_of : Fn := { id := 2, name := "divisor_of", own := false, N := ["one", "other"], ps := ["one", "other"], body := (.seq (.par [0, 1] (.cons (.bi .abs (.var 0)) (.cons (.bi .abs (.var 1)) .nil))) (.seq (.whl (.cmp .NotEq (.var 1) (.con (.int 0))) (.seq (.par [0, 1] (.cons (.var 1) (.cons (.bin .Mod (.var 0) (.var 1)) .nil))) .skip)) (.seq (.ret (.var 0)) .skip))) }
def f_is_fraction : Fn := { id := 3, name := "is_fraction", own := false, N := ["value"], ps := ["value"], body := (.seq (.ife (.or (.not (.isi (.var 0) .tuple)) (.or (.cmp .NotEq (.bi .len (.var 0)) (.con (.int 2))) (.or (.not (.call 1 (.cons (.ix (.var 0) (.con (.int 0))) .nil))) (.not (.call 1 (.cons (.ix (.var 0) (.con (.int 1))) .nil)))))) (.seq (.ret (.con (.bl false))) .skip) .skip) (.seq (.ret (.and (.cmp .Gt (.ix (.var 0) (.con (.int 1))) (.con (.int 0))) (.cmp .Eq (.call 2 (.cons (.ix (.var 0) (.con (.int 0))) (.cons (.ix (.var 0) (.con (.int 1))) .nil))) (.con (.int 1))))) .skip)) }
def f_lowest : Fn := { id := 4, name := "lowest", own := false, N := ["top", "bottom", "shared"], ps := ["top", "bottom"], body := (.seq (.asg (.name 2) (.call 2 (.cons (.var 0) (.cons (.var 1) .nil)))) (.seq (.ife (.cmp .Lt (.var 1) (.con (.int 0))) (.seq (.asg (.name 2) (.bin .Sub (.con (.int 0)) (.var 2))) .skip) .skip) (.seq (.ret (.tup (.cons (.bin .FloorDiv (.var 0) (.var 2)) (.cons (.bin .FloorDiv (.var 1) (.var 2)) .nil)))) .skip))) }
def f_add : Fn := { id := 5, name := "add", own := false, N := ["one", "other"], ps := ["one", "other"], body := (.seq (.ret (.call 4 (.cons (.bin .Add (.bin .Mult (.ix (.var 0) (.con (.int 0))) (.ix (.var 1) (.con (.int 1)))) (.bin .Mult (.ix (.var 1) (.con (.int 0))) (.ix (.var 0) (.con (.int 1))))) (.cons (.bin .Mult (.ix (.var 0) (.con (.int 1))) (.ix (.var 1) (.con (.int 1)))) .nil)))) .skip) }
def f_less : Fn := { id := 6, name := "less", own := false, N := ["one", "other"], ps := ["one", "other"], body := (.seq (.ret (.call 4 (.cons (.bin .Sub (.bin .Mult (.ix (.var 0) (.con (.int 0))) (.ix (.var 1) (.con (.int 1)))) (.bin .Mult (.ix (.var 1) (.con (.int 0))) (.ix (.var 0) (.con (.int 1))))) (.cons (.bin .Mult (.ix (.var 0) (.con (.int 1))) (.ix (.var 1) (.con (.int 1)))) .nil)))) .skip) }
def f_mul : Fn := { id := 7, name := "mul", own := false, N := ["one", "other"], ps := ["one", "other"], body := (.seq (.ret (.call 4 (.cons (.bin .Mult (.ix (.var 0) (.con (.int 0))) (.ix (.var 1) (.con (.int 0)))) (.cons (.bin .Mult (.ix (.var 0) (.con (.int 1))) (.ix (.var 1) (.con (.int 1)))) .nil)))) .skip) }
def f_div : Fn := { id := 8, name := "div", own := false, N := ["one", "other"], ps := ["one", "other"], body := (.seq (.ret (.call 4 (.cons (.bin .Mult (.ix (.var 0) (.con (.int 0))) (.ix (.var 1) (.con (.int 1)))) (.cons (.bin .Mult (.ix (.var 0) (.con (.int 1))) (.ix (.var 1) (.con (.int 0)))) .nil)))) .skip) }
def f_order_of : Fn := { id := 9, name := "order_of", own := false, N := ["one", "other", "gap"], ps := ["one", "other"], body := (.seq (.asg (.name 2) (.bin .Sub (.bin .Mult (.ix (.var 0) (.con (.int 0))) (.ix (.var 1) (.con (.int 1)))) (.bin .Mult (.ix (.var 1) (.con (.int 0))) (.ix (.var 0) (.con (.int 1)))))) (.seq (.ret (.bin .Sub (.bi .int (.cmp .Gt (.var 2) (.con (.int 0)))) (.bi .int (.cmp .Lt (.var 2) (.con (.int 0)))))) .skip)) }
def f_need_fractions : Fn := { id := 10, name := "need_fractions", own := false, N := ["values", "value"], ps := ["values"], body := (.seq (.for_ (.seq (.var 0)) (.name 1) (.seq (.ife (.not (.call 3 (.cons (.var 1) .nil))) (.seq (.raise 0 (.var 1)) .skip) .skip) .skip)) .skip) }
def f_fraction : Fn := { id := 11, name := "fraction", own := false, N := ["top", "bottom", "value"], ps := ["top", "bottom"], body := (.seq (.for_ (.seq (.tup (.cons (.var 0) (.cons (.var 1) .nil)))) (.name 2) (.seq (.ife (.not (.call 1 (.cons (.var 2) .nil))) (.seq (.raise 0 (.var 2)) .skip) .skip) .skip)) (.seq (.ife (.cmp .Eq (.var 1) (.con (.int 0))) (.seq (.raise 0 (.var 1)) .skip) .skip) (.seq (.ret (.call 4 (.cons (.var 0) (.cons (.var 1) .nil)))) .skip))) }
def f_plus : Fn := { id := 12, name := "plus", own := false, N := ["one", "other"], ps := ["one", "other"], body := (.seq (.expr (.call 10 (.cons (.tup (.cons (.var 0) (.cons (.var 1) .nil))) .nil))) (.seq (.ret (.call 5 (.cons (.var 0) (.cons (.var 1) .nil)))) .skip)) }
def f_minus : Fn := { id := 13, name := "minus", own := false, N := ["one", "other"], ps := ["one", "other"], body := (.seq (.expr (.call 10 (.cons (.tup (.cons (.var 0) (.cons (.var 1) .nil))) .nil))) (.seq (.ret (.call 6 (.cons (.var 0) (.cons (.var 1) .nil)))) .skip)) }
def f_times : Fn := { id := 14, name := "times", own := false, N := ["one", "other"], ps := ["one", "other"], body := (.seq (.expr (.call 10 (.cons (.tup (.cons (.var 0) (.cons (.var 1) .nil))) .nil))) (.seq (.ret (.call 7 (.cons (.var 0) (.cons (.var 1) .nil)))) .skip)) }
def f_over : Fn := { id := 15, name := "over", own := false, N := ["one", "other"], ps := ["one", "other"], body := (.seq (.expr (.call 10 (.cons (.tup (.cons (.var 0) (.cons (.var 1) .nil))) .nil))) (.seq (.ife (.cmp .Eq (.var 1) (.con (.tup [(.int 0), (.int 1)]))) (.seq (.raise 0 (.var 1)) .skip) .skip) (.seq (.ret (.call 8 (.cons (.var 0) (.cons (.var 1) .nil)))) .skip))) }
def f_compare : Fn := { id := 16, name := "compare", own := false, N := ["one", "other"], ps := ["one", "other"], body := (.seq (.expr (.call 10 (.cons (.tup (.cons (.var 0) (.cons (.var 1) .nil))) .nil))) (.seq (.ret (.call 9 (.cons (.var 0) (.cons (.var 1) .nil)))) .skip)) }
def f_is_pair : Fn := { id := 17, name := "is_pair", own := false, N := ["value"], ps := ["value"], body := (.seq (.ret (.and (.isi (.var 0) .tuple) (.and (.cmp .Eq (.bi .len (.var 0)) (.con (.int 2))) (.and (.call 3 (.cons (.ix (.var 0) (.con (.int 0))) .nil)) (.call 3 (.cons (.ix (.var 0) (.con (.int 1))) .nil)))))) .skip) }
def f_turn_of : Fn := { id := 18, name := "turn_of", own := false, N := ["one", "other"], ps := ["one", "other"], body := (.seq (.ret (.call 9 (.cons (.call 7 (.cons (.ix (.var 0) (.con (.int 0))) (.cons (.ix (.var 1) (.con (.int 1))) .nil))) (.cons (.call 7 (.cons (.ix (.var 1) (.con (.int 0))) (.cons (.ix (.var 0) (.con (.int 1))) .nil))) .nil)))) .skip) }
def f_joined : Fn := { id := 19, name := "joined", own := false, N := ["one", "other"], ps := ["one", "other"], body := (.seq (.ret (.tup (.cons (.call 5 (.cons (.ix (.var 0) (.con (.int 0))) (.cons (.ix (.var 1) (.con (.int 0))) .nil))) (.cons (.call 5 (.cons (.ix (.var 0) (.con (.int 1))) (.cons (.ix (.var 1) (.con (.int 1))) .nil))) .nil)))) .skip) }
def f_spread_by : Fn := { id := 20, name := "spread_by", own := false, N := ["pair", "share"], ps := ["pair", "share"], body := (.seq (.ret (.tup (.cons (.call 7 (.cons (.ix (.var 0) (.con (.int 0))) (.cons (.var 1) .nil))) (.cons (.call 7 (.cons (.ix (.var 0) (.con (.int 1))) (.cons (.var 1) .nil))) .nil)))) .skip) }
def f_need_pairs : Fn := { id := 21, name := "need_pairs", own := false, N := ["values", "value"], ps := ["values"], body := (.seq (.for_ (.seq (.var 0)) (.name 1) (.seq (.ife (.not (.call 17 (.cons (.var 1) .nil))) (.seq (.raise 1 (.var 1)) .skip) .skip) .skip)) .skip) }
def f_is_ahead : Fn := { id := 22, name := "is_ahead", own := false, N := ["one", "other"], ps := ["one", "other"], body := (.seq (.expr (.call 21 (.cons (.tup (.cons (.var 0) (.cons (.var 1) .nil))) .nil))) (.seq (.ret (.cmp .Gt (.call 18 (.cons (.var 0) (.cons (.var 1) .nil))) (.con (.int 0)))) .skip)) }
def f_are_level : Fn := { id := 23, name := "are_level", own := false, N := ["one", "other"], ps := ["one", "other"], body := (.seq (.expr (.call 21 (.cons (.tup (.cons (.var 0) (.cons (.var 1) .nil))) .nil))) (.seq (.ret (.cmp .Eq (.call 18 (.cons (.var 0) (.cons (.var 1) .nil))) (.con (.int 0)))) .skip)) }
def f_total : Fn := { id := 24, name := "total", own := false, N := ["pairs", "found", "pair"], ps := ["pairs"], body := (.seq (.expr (.call 21 (.cons (.var 0) .nil))) (.seq (.asg (.name 1) (.con (.tup [(.tup [(.int 0), (.int 1)]), (.tup [(.int 0), (.int 1)])]))) (.seq (.for_ (.seq (.var 0)) (.name 2) (.seq (.asg (.name 1) (.call 19 (.cons (.var 1) (.cons (.var 2) .nil)))) .skip)) (.seq (.ret (.var 1)) .skip)))) }
def f_spread : Fn := { id := 25, name := "spread", own := false, N := ["pair", "share"], ps := ["pair", "share"], body := (.seq (.expr (.call 21 (.cons (.tup (.cons (.var 0) .nil)) .nil))) (.seq (.expr (.call 10 (.cons (.tup (.cons (.var 1) .nil)) .nil))) (.seq (.ret (.call 20 (.cons (.var 0) (.cons (.var 1) .nil)))) .skip))) }
def f_need_list : Fn := { id := 26, name := "need_list", own := false, N := ["value", "one"], ps := ["value"], body := (.seq (.ife (.or (.not (.isis (.var 0) [.list, .tuple])) (.or (.cmp .Gt (.bi .len (.var 0)) (.con (.int 80))) (.not (.bi .all (.comp (.seq (.var 0)) (.name 1) (.con (.bl true)) (.call 17 (.cons (.var 1) .nil)) [1]))))) (.seq (.raise 2 (.var 0)) .skip) .skip) .skip) }
def f_measure : Fn := { id := 27, name := "measure", own := false, N := ["pair", "other"], ps := ["pair", "other"], body := (.seq (.ret (.call 5 (.cons (.call 7 (.cons (.ix (.var 0) (.con (.int 0))) (.cons (.ix (.var 1) (.con (.int 0))) .nil))) (.cons (.call 7 (.cons (.ix (.var 0) (.con (.int 1))) (.cons (.ix (.var 1) (.con (.int 1))) .nil))) .nil)))) .skip) }
def f_is_along : Fn := { id := 28, name := "is_along", own := false, N := ["one", "other"], ps := ["one", "other"], body := (.seq (.ret (.and (.cmp .Eq (.call 18 (.cons (.var 0) (.cons (.var 1) .nil))) (.con (.int 0))) (.cmp .Gt (.call 9 (.cons (.call 27 (.cons (.var 0) (.cons (.var 1) .nil))) (.cons (.con (.tup [(.int 0), (.int 1)])) .nil))) (.con (.int 0))))) .skip) }
def f_find_ends : Fn := { id := 29, name := "find_ends", own := false, N := ["pairs", "first", "last", "pair", "behind", "ahead"], ps := ["pairs"], body := (.seq (.par [1, 2] (.cons (.ix (.var 0) (.con (.int 0))) (.cons (.ix (.var 0) (.con (.int 0))) .nil))) (.seq (.for_ (.seq (.var 0)) (.name 3) (.seq (.par [4, 5] (.cons (.call 18 (.cons (.var 1) (.cons (.var 3) .nil))) (.cons (.call 18 (.cons (.var 3) (.cons (.var 2) .nil))) .nil))) (.seq (.ife (.or (.cmp .Eq (.var 3) (.con (.tup [(.tup [(.int 0), (.int 1)]), (.tup [(.int 0), (.int 1)])]))) (.and (.cmp .NotEq (.bin .Add (.var 4) (.var 5)) (.con (.int 0))) (.or (.cmp .Lt (.var 4) (.con (.int 0))) (.cmp .Lt (.var 5) (.con (.int 0)))))) (.seq (.ret (.con .non)) .skip) .skip) (.seq (.ife (.and (.cmp .Eq (.var 4) (.con (.int 0))) (.and (.cmp .Eq (.var 5) (.con (.int 0))) (.not (.call 28 (.cons (.var 1) (.cons (.var 3) .nil)))))) (.seq (.ret (.con .non)) .skip) .skip) (.seq (.ife (.cmp .Lt (.var 4) (.con (.int 0))) (.seq (.asg (.name 1) (.var 3)) .skip) (.seq (.ife (.cmp .Lt (.var 5) (.con (.int 0))) (.seq (.asg (.name 2) (.var 3)) .skip) .skip) .skip)) .skip))))) (.seq (.ret (.tup (.cons (.var 1) (.cons (.var 2) .nil)))) .skip))) }
def f_find_witness : Fn := { id := 30, name := "find_witness", own := false, N := ["pairs", "ends", "first", "last"], ps := ["pairs"], body := (.seq (.ife (.cmp .Eq (.bi .len (.var 0)) (.con (.int 0))) (.seq (.ret (.tup (.cons (.con (.tup [(.int 0), (.int 1)])) (.cons (.con (.tup [(.int 1), (.int 1)])) .nil)))) .skip) .skip) (.seq (.asg (.name 1) (.call 29 (.cons (.var 0) .nil))) (.seq (.ife (.cmp .Is (.var 1) (.con .non)) (.seq (.ret (.con .non)) .skip) .skip) (.seq (.asg (.tup (.cons (.name 2) (.cons (.name 3) .nil))) (.var 1)) (.seq (.ife (.cmp .Eq (.call 18 (.cons (.var 2) (.cons (.var 3) .nil))) (.con (.int 0))) (.seq (.ret (.var 2)) .skip) .skip) (.seq (.ret (.tup (.cons (.call 6 (.cons (.ix (.var 3) (.con (.int 1))) (.cons (.ix (.var 2) (.con (.int 1))) .nil))) (.cons (.call 6 (.cons (.ix (.var 2) (.con (.int 0))) (.cons (.ix (.var 3) (.con (.int 0))) .nil))) .nil)))) .skip)))))) }
def f_are_positive : Fn := { id := 31, name := "are_positive", own := false, N := ["pairs", "value", "one"], ps := ["pairs", "value"], body := (.seq (.ret (.bi .all (.comp (.seq (.var 0)) (.name 2) (.con (.bl true)) (.cmp .Gt (.call 9 (.cons (.call 27 (.cons (.var 1) (.cons (.var 2) .nil))) (.cons (.con (.tup [(.int 0), (.int 1)])) .nil))) (.con (.int 0))) [2]))) .skip) }
def f_cross : Fn := { id := 32, name := "cross", own := false, N := ["one", "other"], ps := ["one", "other"], body := (.seq (.ret (.call 6 (.cons (.call 7 (.cons (.ix (.var 0) (.con (.int 0))) (.cons (.ix (.var 1) (.con (.int 1))) .nil))) (.cons (.call 7 (.cons (.ix (.var 1) (.con (.int 0))) (.cons (.ix (.var 0) (.con (.int 1))) .nil))) .nil)))) .skip) }
def f_opposite_of : Fn := { id := 33, name := "opposite_of", own := false, N := ["pairs", "first", "second", "one", "other", "part"], ps := ["pairs", "first", "second"], body := (.seq (.par [3, 4] (.cons (.ix (.var 0) (.var 1)) (.cons (.ix (.var 0) (.var 2)) .nil))) (.seq (.ife (.or (.cmp .NotEq (.call 18 (.cons (.var 3) (.cons (.var 4) .nil))) (.con (.int 0))) (.cmp .GtE (.call 9 (.cons (.call 27 (.cons (.var 3) (.cons (.var 4) .nil))) (.cons (.con (.tup [(.int 0), (.int 1)])) .nil))) (.con (.int 0)))) (.seq (.ret (.con .non)) .skip) .skip) (.seq (.asg (.name 5) (.ite (.cmp .NotEq (.ix (.var 4) (.con (.int 0))) (.con (.tup [(.int 0), (.int 1)]))) (.con (.int 0)) (.con (.int 1)))) (.seq (.ret (.tup (.cons (.tup (.cons (.var 1) (.cons (.con (.tup [(.int 1), (.int 1)])) .nil))) (.cons (.tup (.cons (.var 2) (.cons (.call 8 (.cons (.call 6 (.cons (.con (.tup [(.int 0), (.int 1)])) (.cons (.ix (.var 3) (.var 5)) .nil))) (.cons (.ix (.var 4) (.var 5)) .nil))) .nil))) .nil)))) .skip)))) }
def f_round_of : Fn := { id := 34, name := "round_of", own := false, N := ["pairs", "numbers", "one", "other", "third", "shares", "signs", "number", "share"], ps := ["pairs", "numbers"], body := (.seq (.asg (.tup (.cons (.name 2) (.cons (.name 3) (.cons (.name 4) .nil)))) (.comp (.seq (.var 1)) (.name 7) (.con (.bl true)) (.ix (.var 0) (.var 7)) [7])) (.seq (.asg (.name 5) (.lst (.cons (.call 32 (.cons (.var 3) (.cons (.var 4) .nil))) (.cons (.call 32 (.cons (.var 4) (.cons (.var 2) .nil))) (.cons (.call 32 (.cons (.var 2) (.cons (.var 3) .nil))) .nil))))) (.seq (.asg (.name 6) (.comp (.seq (.var 5)) (.name 8) (.con (.bl true)) (.call 9 (.cons (.var 8) (.cons (.con (.tup [(.int 0), (.int 1)])) .nil))) [8])) (.seq (.ife (.cmp .NotIn (.var 6) (.tup (.cons (.lst (.cons (.con (.int 1)) (.cons (.con (.int 1)) (.cons (.con (.int 1)) .nil)))) (.cons (.lst (.cons (.neg (.con (.int 1))) (.cons (.neg (.con (.int 1))) (.cons (.neg (.con (.int 1))) .nil)))) .nil)))) (.seq (.ret (.con .non)) .skip) .skip) (.seq (.ret (.bi .tuple (.comp (.zip (.var 1) (.var 5)) (.tup (.cons (.name 7) (.cons (.name 8) .nil))) (.con (.bl true)) (.tup (.cons (.var 7) (.cons (.call 7 (.cons (.var 8) (.cons (.tup (.cons (.ix (.var 6) (.con (.int 0))) (.cons (.con (.int 1)) .nil))) .nil))) .nil))) [7, 8]))) .skip))))) }
def f_find_ring : Fn := { id := 35, name := "find_ring", own := false, N := ["pairs", "many", "first", "second", "found", "third"], ps := ["pairs"], body := (.seq (.asg (.name 1) (.bi .len (.var 0))) (.seq (.for_ (.rng1 (.var 1)) (.name 2) (.seq (.ife (.cmp .Eq (.ix (.var 0) (.var 2)) (.con (.tup [(.tup [(.int 0), (.int 1)]), (.tup [(.int 0), (.int 1)])]))) (.seq (.ret (.tup (.cons (.tup (.cons (.var 2) (.cons (.con (.tup [(.int 1), (.int 1)])) .nil))) .nil))) .skip) .skip) .skip)) (.seq (.for_ (.rng1 (.var 1)) (.name 2) (.seq (.for_ (.rng2 (.bin .Add (.var 2) (.con (.int 1))) (.var 1)) (.name 3) (.seq (.asg (.name 4) (.call 33 (.cons (.var 0) (.cons (.var 2) (.cons (.var 3) .nil))))) (.seq (.ife (.cmp .IsNot (.var 4) (.con .non)) (.seq (.ret (.var 4)) .skip) .skip) .skip))) .skip)) (.seq (.for_ (.rng1 (.var 1)) (.name 2) (.seq (.for_ (.rng2 (.bin .Add (.var 2) (.con (.int 1))) (.var 1)) (.name 3) (.seq (.for_ (.rng2 (.bin .Add (.var 3) (.con (.int 1))) (.var 1)) (.name 5) (.seq (.asg (.name 4) (.call 34 (.cons (.var 0) (.cons (.tup (.cons (.var 2) (.cons (.var 3) (.cons (.var 5) .nil)))) .nil)))) (.seq (.ife (.cmp .IsNot (.var 4) (.con .non)) (.seq (.ret (.var 4)) .skip) .skip) .skip))) .skip)) .skip)) (.seq (.ret (.con .non)) .skip))))) }
def f_witness : Fn := { id := 36, name := "witness", own := false, N := ["pairs"], ps := ["pairs"], body := (.seq (.expr (.call 26 (.cons (.var 0) .nil))) (.seq (.ret (.call 30 (.cons (.var 0) .nil))) .skip)) }
def f_is_witness : Fn := { id := 37, name := "is_witness", own := false, N := ["pairs", "value"], ps := ["pairs", "value"], body := (.seq (.expr (.call 26 (.cons (.var 0) .nil))) (.seq (.ret (.and (.call 17 (.cons (.var 1) .nil)) (.call 31 (.cons (.var 0) (.cons (.var 1) .nil))))) .skip)) }
def f_ring : Fn := { id := 38, name := "ring", own := false, N := ["pairs"], ps := ["pairs"], body := (.seq (.expr (.call 26 (.cons (.var 0) .nil))) (.seq (.ret (.ite (.cmp .IsNot (.call 30 (.cons (.var 0) .nil)) (.con .non)) (.con .non) (.call 35 (.cons (.var 0) .nil)))) .skip)) }
def f_is_share_frames : Fn := { id := 39, name := "is_share_frames", own := false, N := ["pairs", "value"], ps := ["pairs", "value"], body := (.seq (.ife (.or (.not (.isi (.var 1) .tuple)) (.or (.cmp .NotEq (.bi .len (.var 1)) (.con (.int 2))) (.or (.not (.isi (.ix (.var 1) (.con (.int 0))) .int)) (.isi (.ix (.var 1) (.con (.int 0))) .bool)))) (.seq (.ret (.con (.bl false))) .skip) .skip) (.seq (.ret (.and (.chain .LtE .Lt (.con (.int 0)) (.ix (.var 1) (.con (.int 0))) (.bi .len (.var 0))) (.and (.call 3 (.cons (.ix (.var 1) (.con (.int 1))) .nil)) (.cmp .Gt (.ix (.ix (.var 1) (.con (.int 1))) (.con (.int 0))) (.con (.int 0)))))) .skip)) }
def f_is_ring : Fn := { id := 40, name := "is_ring", own := false, N := ["pairs", "value", "found", "number", "share", "one", "at"], ps := ["pairs", "value"], body := (.seq (.expr (.call 26 (.cons (.var 0) .nil))) (.seq (.ife (.or (.not (.isi (.var 1) .tuple)) (.or (.not (.chain .LtE .LtE (.con (.int 1)) (.bi .len (.var 1)) (.con (.int 3)))) (.not (.bi .all (.comp (.seq (.var 1)) (.name 5) (.con (.bl true)) (.call 39 (.cons (.var 0) (.cons (.var 5) .nil))) [5]))))) (.seq (.ret (.con (.bl false))) .skip) .skip) (.seq (.ife (.not (.bi .all (.comp (.rng1 (.bin .Sub (.bi .len (.var 1)) (.con (.int 1)))) (.name 6) (.con (.bl true)) (.cmp .Lt (.ix (.ix (.var 1) (.var 6)) (.con (.int 0))) (.ix (.ix (.var 1) (.bin .Add (.var 6) (.con (.int 1)))) (.con (.int 0)))) [6]))) (.seq (.ret (.con (.bl false))) .skip) .skip) (.seq (.asg (.name 2) (.con (.tup [(.tup [(.int 0), (.int 1)]), (.tup [(.int 0), (.int 1)])]))) (.seq (.for_ (.seq (.var 1)) (.tup (.cons (.name 3) (.cons (.name 4) .nil))) (.seq (.asg (.name 2) (.call 19 (.cons (.var 2) (.cons (.call 20 (.cons (.ix (.var 0) (.var 3)) (.cons (.var 4) .nil))) .nil)))) .skip)) (.seq (.ret (.cmp .Eq (.var 2) (.con (.tup [(.tup [(.int 0), (.int 1)]), (.tup [(.int 0), (.int 1)])])))) .skip)))))) }
def f_weights_left : Fn := { id := 41, name := "weights_left", own := false, N := ["rungs", "found", "rest", "pay", "fall"], ps := ["rungs"], body := (.seq (.par [1, 2] (.cons (.own (.lst .nil)) (.cons (.con (.tup [(.int 1), (.int 1)])) .nil))) (.seq (.for_ (.seq (.var 0)) (.tup (.cons (.name 3) (.cons (.name 4) .nil))) (.seq (.asg (.name 2) (.call 6 (.cons (.var 2) (.cons (.var 4) .nil)))) (.seq (.mut .append 1 (.cons (.var 2) .nil)) .skip))) (.seq (.seq (.frz [1]) (.ret (.var 1))) .skip))) }
def f_are_rungs : Fn := { id := 42, name := "are_rungs", own := false, N := ["value", "rung"], ps := ["value"], body := (.seq (.ife (.or (.not (.isi (.var 0) .tuple)) (.cmp .Gt (.bi .len (.var 0)) (.con (.int 64)))) (.seq (.ret (.con (.bl false))) .skip) .skip) (.seq (.ret (.bi .all (.comp (.seq (.var 0)) (.name 1) (.con (.bl true)) (.and (.call 17 (.cons (.var 1) .nil)) (.cmp .NotEq (.var 1) (.con (.tup [(.tup [(.int 0), (.int 1)]), (.tup [(.int 0), (.int 1)])])))) [1]))) .skip)) }
def f_is_ladder : Fn := { id := 43, name := "is_ladder", own := false, N := ["value", "signs", "at", "rest", "sign"], ps := ["value"], body := (.seq (.ife (.or (.not (.call 42 (.cons (.var 0) .nil))) (.cmp .Is (.call 30 (.cons (.var 0) .nil)) (.con .non))) (.seq (.ret (.con (.bl false))) .skip) .skip) (.seq (.ife (.not (.bi .all (.comp (.rng1 (.bin .Sub (.bi .len (.var 0)) (.con (.int 1)))) (.name 2) (.con (.bl true)) (.cmp .Gt (.call 18 (.cons (.ix (.var 0) (.var 2)) (.cons (.ix (.var 0) (.bin .Add (.var 2) (.con (.int 1)))) .nil))) (.con (.int 0))) [2]))) (.seq (.ret (.con (.bl false))) .skip) .skip) (.seq (.asg (.name 1) (.comp (.seq (.call 41 (.cons (.var 0) .nil))) (.name 3) (.con (.bl true)) (.call 9 (.cons (.var 3) (.cons (.con (.tup [(.int 0), (.int 1)])) .nil))) [3])) (.seq (.ret (.and (.bi .all (.comp (.seq (.sl (.var 1) .none (.some (.neg (.con (.int 1)))))) (.name 4) (.con (.bl true)) (.cmp .Gt (.var 4) (.con (.int 0))) [4])) (.bi .all (.comp (.seq (.var 1)) (.name 4) (.con (.bl true)) (.cmp .GtE (.var 4) (.con (.int 0))) [4])))) .skip)))) }
def f_need_ladder : Fn := { id := 44, name := "need_ladder", own := false, N := ["value"], ps := ["value"], body := (.seq (.ife (.not (.call 43 (.cons (.var 0) .nil))) (.seq (.raise 5 (.var 0)) .skip) .skip) .skip) }
def f_need_ladders : Fn := { id := 45, name := "need_ladders", own := false, N := ["values", "value"], ps := ["values"], body := (.seq (.for_ (.seq (.var 0)) (.name 1) (.seq (.expr (.call 44 (.cons (.var 1) .nil))) .skip)) .skip) }
def f_sum_of_pays : Fn := { id := 46, name := "sum_of_pays", own := false, N := ["rungs", "found", "pay", "fall"], ps := ["rungs"], body := (.seq (.asg (.name 1) (.con (.tup [(.int 0), (.int 1)]))) (.seq (.for_ (.seq (.var 0)) (.tup (.cons (.name 2) (.cons (.name 3) .nil))) (.seq (.asg (.name 1) (.call 5 (.cons (.var 1) (.cons (.var 2) .nil)))) .skip)) (.seq (.ret (.var 1)) .skip))) }
def f_pays : Fn := { id := 47, name := "pays", own := false, N := ["ladder"], ps := ["ladder"], body := (.seq (.expr (.call 44 (.cons (.var 0) .nil))) (.seq (.ret (.call 46 (.cons (.var 0) .nil))) .skip)) }
def f_left : Fn := { id := 48, name := "left", own := false, N := ["ladder"], ps := ["ladder"], body := (.seq (.expr (.call 44 (.cons (.var 0) .nil))) (.seq (.ret (.call 41 (.cons (.var 0) .nil))) .skip)) }
def f_chain : Fn := { id := 49, name := "chain", own := false, N := ["ladder", "found", "lefts", "at", "outcomes"], ps := ["ladder"], body := (.seq (.expr (.call 44 (.cons (.var 0) .nil))) (.seq (.ife (.cmp .Gt (.bi .len (.var 0)) (.con (.int 16))) (.seq (.raise 7 (.con (.int 16))) .skip) .skip) (.seq (.par [1, 2] (.cons (.tup (.cons (.con (.str "end")) .nil)) (.cons (.lstS [false, true] (.cons (.con (.tup [(.int 1), (.int 1)])) (.cons (.call 41 (.cons (.var 0) .nil)) .nil))) .nil))) (.seq (.for_ (.rng3 (.cons (.bin .Sub (.bi .len (.var 0)) (.con (.int 1))) (.cons (.neg (.con (.int 1))) (.cons (.neg (.con (.int 1))) .nil)))) (.name 3) (.seq (.asg (.name 4) (.tup .nil)) (.seq (.ife (.cmp .NotEq (.ix (.var 2) (.bin .Add (.var 3) (.con (.int 1)))) (.con (.tup [(.int 0), (.int 1)]))) (.seq (.asg (.name 4) (.tup (.cons (.tup (.cons (.call 8 (.cons (.ix (.var 2) (.bin .Add (.var 3) (.con (.int 1)))) (.cons (.ix (.var 2) (.var 3)) .nil))) (.cons (.var 1) .nil))) .nil))) .skip) .skip) (.seq (.asg (.name 1) (.tup (.cons (.con (.str "step")) (.cons (.call 8 (.cons (.ix (.ix (.var 0) (.var 3)) (.con (.int 0))) (.cons (.ix (.var 2) (.var 3)) .nil))) (.cons (.var 4) .nil))))) .skip)))) (.seq (.ret (.var 1)) .skip))))) }
def f_is_same_frame : Fn := { id := 50, name := "is_same_frame", own := false, N := ["ladders", "ladder", "rung"], ps := ["ladders"], body := (.seq (.expr (.call 45 (.cons (.var 0) .nil))) (.seq (.ret (.cmp .IsNot (.call 30 (.cons (.comp2 (.seq (.var 0)) (.name 1) (.seq (.var 1)) (.name 2) (.con (.bl true)) (.var 2) [1, 2] [2]) .nil)) (.con .non))) .skip)) }
def f_need_frame : Fn := { id := 51, name := "need_frame", own := false, N := ["pairs"], ps := ["pairs"], body := (.seq (.ife (.cmp .Is (.call 30 (.cons (.var 0) .nil)) (.con .non)) (.seq (.raise 6 (.call 35 (.cons (.var 0) .nil))) .skip) .skip) .skip) }
def f_merge : Fn := { id := 52, name := "merge", own := false, N := ["rungs", "found", "rung", "at"], ps := ["rungs"], body := (.seq (.asg (.name 1) (.own (.lst .nil))) (.seq (.for_ (.seq (.var 0)) (.name 2) (.seq (.ife (.cmp .Eq (.var 2) (.con (.tup [(.tup [(.int 0), (.int 1)]), (.tup [(.int 0), (.int 1)])]))) (.seq .cont .skip) .skip) (.seq (.asg (.name 3) (.con (.int 0))) (.seq (.whl (.and (.cmp .Lt (.var 3) (.bi .len (.bor 1))) (.cmp .Gt (.call 18 (.cons (.ix (.bor 1) (.var 3)) (.cons (.var 2) .nil))) (.con (.int 0)))) (.seq (.aug 3 .Add (.con (.int 1))) .skip)) (.seq (.ife (.and (.cmp .Lt (.var 3) (.bi .len (.bor 1))) (.cmp .Eq (.call 18 (.cons (.ix (.bor 1) (.var 3)) (.cons (.var 2) .nil))) (.con (.int 0)))) (.seq (.setO 1 (.var 3) (.call 19 (.cons (.ix (.bor 1) (.var 3)) (.cons (.var 2) .nil)))) .skip) (.seq (.mut .insert 1 (.cons (.var 3) (.cons (.var 2) .nil))) .skip)) .skip))))) (.seq (.ret (.bi .tuple (.bor 1))) .skip))) }
def f_glued : Fn := { id := 53, name := "glued", own := false, N := ["pair", "rungs", "behind"], ps := ["pair", "rungs"], body := (.seq (.asg (.name 2) (.newL (.bi .list (.call 52 (.cons (.var 1) .nil))))) (.seq (.ife (.cmp .Eq (.var 0) (.con (.tup [(.tup [(.int 0), (.int 1)]), (.tup [(.int 0), (.int 1)])]))) (.seq (.ret (.bi .tuple (.var 2))) .skip) .skip) (.seq (.whl (.and (.cmp .NotEq (.var 2) (.lst .nil)) (.cmp .Gt (.call 18 (.cons (.ix (.var 2) (.con (.int 0))) (.cons (.var 0) .nil))) (.con (.int 0)))) (.seq (.asg (.name 0) (.call 19 (.cons (.var 0) (.cons (.popR (.var 2) (.cons (.con (.int 0)) .nil)) .nil)))) .skip)) (.seq (.ret (.call 52 (.cons (.lstS [false, true] (.cons (.var 0) (.cons (.var 2) .nil))) .nil))) .skip)))) }
def f_foremost_of : Fn := { id := 54, name := "foremost_of", own := false, N := ["rests", "found", "number", "rungs"], ps := ["rests"], body := (.seq (.asg (.name 1) (.con .non)) (.seq (.for_ (.enum (.var 0)) (.tup (.cons (.name 2) (.cons (.name 3) .nil))) (.seq (.ife (.and (.cmp .NotEq (.var 3) (.lst .nil)) (.or (.cmp .Is (.var 1) (.con .non)) (.cmp .Gt (.call 18 (.cons (.ix (.var 3) (.con (.int 0))) (.cons (.ix (.ix (.var 0) (.var 1)) (.con (.int 0))) .nil))) (.con (.int 0))))) (.seq (.asg (.name 1) (.var 2)) .skip) .skip) .skip)) (.seq (.ret (.var 1)) .skip))) }
def f_beside_one_another : Fn := { id := 55, name := "beside_one_another", own := false, N := ["ladders", "rests", "lefts", "found", "number", "rung", "share", "other", "rest", "ladder"], ps := ["ladders"], body := (.seq (.par [1, 2, 3] (.cons (.comp (.seq (.var 0)) (.name 9) (.con (.bl true)) (.newL (.bi .list (.var 9))) [9]) (.cons (.newL (.comp (.seq (.var 0)) (.name 9) (.con (.bl true)) (.con (.tup [(.int 1), (.int 1)])) [9])) (.cons (.own (.lst .nil)) .nil)))) (.seq (.asg (.name 4) (.call 54 (.cons (.var 1) .nil))) (.seq (.whl (.cmp .IsNot (.var 4) (.con .non)) (.seq (.par [5, 6] (.cons (.popR (.ix (.var 1) (.var 4)) (.cons (.con (.int 0)) .nil)) (.cons (.con (.tup [(.int 1), (.int 1)])) .nil))) (.seq (.forC true (.var 2) (.tup (.cons (.name 7) (.cons (.name 8) .nil))) (.seq (.ife (.cmp .NotEq (.var 7) (.var 4)) (.seq (.asg (.name 6) (.call 7 (.cons (.var 6) (.cons (.var 8) .nil)))) .skip) .skip) .skip)) (.seq (.mut .append 3 (.cons (.call 20 (.cons (.var 5) (.cons (.var 6) .nil))) .nil)) (.seq (.asg (.sub (.var 2) (.var 4)) (.call 6 (.cons (.ix (.var 2) (.var 4)) (.cons (.ix (.var 5) (.con (.int 1))) .nil)))) (.seq (.asg (.name 4) (.call 54 (.cons (.var 1) .nil))) .skip)))))) (.seq (.seq (.frz [3]) (.ret (.call 52 (.cons (.var 3) .nil)))) .skip)))) }
def f_shared : Fn := { id := 56, name := "shared", own := false, N := ["shares", "weight", "ladder", "rung"], ps := ["shares"], body := (.seq (.ret (.call 52 (.cons (.comp2 (.seq (.var 0)) (.tup (.cons (.name 1) (.cons (.name 2) .nil))) (.seq (.var 2)) (.name 3) (.con (.bl true)) (.call 20 (.cons (.var 3) (.cons (.var 1) .nil))) [1, 2, 3] [3]) .nil))) .skip) }
def f_put_together : Fn := { id := 57, name := "put_together", own := false, N := ["rungs", "kept", "rung"], ps := ["rungs"], body := (.seq (.expr (.call 21 (.cons (.var 0) .nil))) (.seq (.asg (.name 1) (.comp (.seq (.var 0)) (.name 2) (.cmp .NotEq (.var 2) (.con (.tup [(.tup [(.int 0), (.int 1)]), (.tup [(.int 0), (.int 1)])]))) (.var 2) [2])) (.seq (.expr (.call 51 (.cons (.var 1) .nil))) (.seq (.ret (.call 52 (.cons (.var 1) .nil))) .skip)))) }
def f_glue : Fn := { id := 58, name := "glue", own := false, N := ["pair", "rungs", "kept", "rung", "one"], ps := ["pair", "rungs"], body := (.seq (.expr (.call 21 (.cons (.tupS [false, true] (.cons (.var 0) (.cons (.var 1) .nil))) .nil))) (.seq (.asg (.name 2) (.comp (.seq (.var 1)) (.name 3) (.cmp .NotEq (.var 3) (.con (.tup [(.tup [(.int 0), (.int 1)]), (.tup [(.int 0), (.int 1)])]))) (.var 3) [3])) (.seq (.expr (.call 51 (.cons (.comp (.seq (.tupS [false, true] (.cons (.var 0) (.cons (.var 2) .nil)))) (.name 4) (.cmp .NotEq (.var 4) (.con (.tup [(.tup [(.int 0), (.int 1)]), (.tup [(.int 0), (.int 1)])]))) (.var 4) [4]) .nil))) (.seq (.ret (.call 53 (.cons (.var 0) (.cons (.var 2) .nil)))) .skip)))) }
def f_side_by_side : Fn := { id := 59, name := "side_by_side", own := false, N := ["ladders", "rungs", "ladder", "rung"], ps := ["ladders"], body := (.seq (.expr (.call 45 (.cons (.var 0) .nil))) (.seq (.asg (.name 1) (.comp2 (.seq (.var 0)) (.name 2) (.seq (.var 2)) (.name 3) (.con (.bl true)) (.var 3) [2, 3] [3])) (.seq (.ife (.cmp .Gt (.bi .len (.var 1)) (.con (.int 64))) (.seq (.raise 7 (.con (.int 64))) .skip) .skip) (.seq (.expr (.call 51 (.cons (.var 1) .nil))) (.seq (.ret (.call 55 (.cons (.var 0) .nil))) .skip))))) }
def f_is_share_algebra : Fn := { id := 60, name := "is_share_algebra", own := false, N := ["value"], ps := ["value"], body := (.seq (.ife (.or (.not (.isi (.var 0) .tuple)) (.or (.cmp .NotEq (.bi .len (.var 0)) (.con (.int 2))) (.not (.call 3 (.cons (.ix (.var 0) (.con (.int 0))) .nil))))) (.seq (.ret (.con (.bl false))) .skip) .skip) (.seq (.ret (.and (.cmp .Gt (.ix (.ix (.var 0) (.con (.int 0))) (.con (.int 0))) (.con (.int 0))) (.call 43 (.cons (.ix (.var 0) (.con (.int 1))) .nil)))) .skip)) }
def f_blend : Fn := { id := 61, name := "blend", own := false, N := ["shares", "share", "rungs", "weight", "ladder", "rung"], ps := ["shares"], body := (.seq (.for_ (.seq (.var 0)) (.name 1) (.seq (.ife (.not (.call 60 (.cons (.var 1) .nil))) (.seq (.raise 5 (.var 1)) .skip) .skip) .skip)) (.seq (.asg (.name 2) (.comp2 (.seq (.var 0)) (.tup (.cons (.name 3) (.cons (.name 4) .nil))) (.seq (.var 4)) (.name 5) (.con (.bl true)) (.var 5) [3, 4, 5] [5])) (.seq (.ife (.cmp .Gt (.bi .len (.var 2)) (.con (.int 64))) (.seq (.raise 7 (.con (.int 64))) .skip) .skip) (.seq (.expr (.call 51 (.cons (.var 2) .nil))) (.seq (.ret (.call 56 (.cons (.var 0) .nil))) .skip))))) }
def f_counts_together : Fn := { id := 62, name := "counts_together", own := false, N := ["values", "steps", "parts", "value", "counts"], ps := ["values"], body := (.seq (.asg (.tup (.cons (.name 1) (.cons (.name 2) .nil))) (.tup (.cons (.con (.int 0)) (.cons (.con (.int 0)) .nil)))) (.seq (.for_ (.seq (.var 0)) (.name 3) (.seq (.asg (.name 4) (.call 64 (.cons (.var 3) .nil))) (.seq (.ife (.cmp .Is (.var 4) (.con .non)) (.seq (.ret (.con .non)) .skip) .skip) (.seq (.par [1, 2] (.cons (.bin .Add (.var 1) (.ix (.var 4) (.con (.int 0)))) (.cons (.bin .Add (.var 2) (.ix (.var 4) (.con (.int 1)))) .nil))) .skip)))) (.seq (.ret (.tup (.cons (.var 1) (.cons (.var 2) .nil)))) .skip))) }
def f_is_outcome : Fn := { id := 63, name := "is_outcome", own := false, N := ["value"], ps := ["value"], body := (.seq (.ife (.or (.not (.isi (.var 0) .tuple)) (.or (.cmp .NotEq (.bi .len (.var 0)) (.con (.int 2))) (.not (.call 3 (.cons (.ix (.var 0) (.con (.int 0))) .nil))))) (.seq (.ret (.con (.bl false))) .skip) .skip) (.seq (.ret (.cmp .Gt (.call 9 (.cons (.ix (.var 0) (.con (.int 0))) (.cons (.con (.tup [(.int 0), (.int 1)])) .nil))) (.con (.int 0)))) .skip)) }
def f_counts_of : Fn := { id := 64, name := "counts_of", own := false, N := ["value", "counts", "one"], ps := ["value"], body := (.seq (.ife (.or (.not (.isi (.var 0) .tuple)) (.or (.cmp .Eq (.var 0) (.tup .nil)) (.not (.isi (.ix (.var 0) (.con (.int 0))) .str)))) (.seq (.ret (.con .non)) .skip) .skip) (.seq (.ife (.cmp .Eq (.ix (.var 0) (.con (.int 0))) (.con (.str "end"))) (.seq (.ret (.ite (.cmp .Eq (.bi .len (.var 0)) (.con (.int 1))) (.tup (.cons (.con (.int 0)) (.cons (.con (.int 1)) .nil))) (.con .non))) .skip) .skip) (.seq (.ife (.and (.cmp .Eq (.ix (.var 0) (.con (.int 0))) (.con (.str "step"))) (.and (.cmp .Eq (.bi .len (.var 0)) (.con (.int 3))) (.and (.call 3 (.cons (.ix (.var 0) (.con (.int 1))) .nil)) (.isi (.ix (.var 0) (.con (.int 2))) .tuple)))) (.seq (.ife (.or (.cmp .Gt (.bi .len (.ix (.var 0) (.con (.int 2)))) (.con (.int 3))) (.not (.bi .all (.comp (.seq (.ix (.var 0) (.con (.int 2)))) (.name 2) (.con (.bl true)) (.call 63 (.cons (.var 2) .nil)) [2])))) (.seq (.ret (.con .non)) .skip) .skip) (.seq (.asg (.name 1) (.call 62 (.cons (.comp (.seq (.ix (.var 0) (.con (.int 2)))) (.name 2) (.con (.bl true)) (.ix (.var 2) (.con (.int 1))) [2]) .nil))) (.seq (.ret (.ite (.cmp .IsNot (.var 1) (.con .non)) (.tup (.cons (.bin .Add (.ix (.var 1) (.con (.int 0))) (.con (.int 1))) (.cons (.bin .Add (.ix (.var 1) (.con (.int 1))) (.con (.int 1))) .nil))) (.con .non))) .skip))) .skip) (.seq (.ife (.and (.cmp .Eq (.ix (.var 0) (.con (.int 0))) (.con (.str "all"))) (.and (.cmp .Eq (.bi .len (.var 0)) (.con (.int 2))) (.and (.isi (.ix (.var 0) (.con (.int 1))) .tuple) (.chain .LtE .LtE (.con (.int 2)) (.bi .len (.ix (.var 0) (.con (.int 1)))) (.con (.int 3)))))) (.seq (.asg (.name 1) (.call 62 (.cons (.ix (.var 0) (.con (.int 1))) .nil))) (.seq (.ret (.ite (.cmp .IsNot (.var 1) (.con .non)) (.tup (.cons (.ix (.var 1) (.con (.int 0))) (.cons (.bin .Add (.ix (.var 1) (.con (.int 1))) (.con (.int 1))) .nil))) (.con .non))) .skip)) .skip) (.seq (.ret (.con .non)) .skip))))) }
def f_is_term : Fn := { id := 65, name := "is_term", own := false, N := ["value", "counts"], ps := ["value"], body := (.seq (.asg (.name 1) (.call 64 (.cons (.var 0) .nil))) (.seq (.ret (.and (.cmp .IsNot (.var 1) (.con .non)) (.and (.cmp .LtE (.ix (.var 1) (.con (.int 0))) (.con (.int 16))) (.cmp .LtE (.ix (.var 1) (.con (.int 1))) (.con (.int 48)))))) .skip)) }
def f_is_mix : Fn := { id := 66, name := "is_mix", own := false, N := ["value", "counts", "one"], ps := ["value"], body := (.seq (.ife (.or (.not (.isi (.var 0) .tuple)) (.or (.not (.chain .LtE .LtE (.con (.int 1)) (.bi .len (.var 0)) (.con (.int 4)))) (.not (.bi .all (.comp (.seq (.var 0)) (.name 2) (.con (.bl true)) (.call 65 (.cons (.var 2) .nil)) [2]))))) (.seq (.ret (.con (.bl false))) .skip) .skip) (.seq (.asg (.name 1) (.call 62 (.cons (.var 0) .nil))) (.seq (.ret (.and (.cmp .LtE (.ix (.var 1) (.con (.int 0))) (.con (.int 16))) (.cmp .LtE (.ix (.var 1) (.con (.int 1))) (.con (.int 96))))) .skip))) }
def f_within : Fn := { id := 67, name := "within", own := false, N := ["term", "one"], ps := ["term"], body := (.seq (.ife (.cmp .Eq (.ix (.var 0) (.con (.int 0))) (.con (.str "step"))) (.seq (.ret (.comp (.seq (.ix (.var 0) (.con (.int 2)))) (.name 1) (.con (.bl true)) (.ix (.var 1) (.con (.int 1))) [1])) .skip) .skip) (.seq (.ret (.ite (.cmp .Eq (.ix (.var 0) (.con (.int 0))) (.con (.str "all"))) (.bi .list (.ix (.var 0) (.con (.int 1)))) (.lst .nil))) .skip)) }
def f_parts_of : Fn := { id := 68, name := "parts_of", own := false, N := ["term", "found", "one"], ps := ["term"], body := (.seq (.asg (.name 1) (.own (.lst (.cons (.var 0) .nil)))) (.seq (.for_ (.seq (.call 67 (.cons (.var 0) .nil))) (.name 2) (.seq (.mut .extend 1 (.cons (.call 68 (.cons (.var 2) .nil)) .nil)) .skip)) (.seq (.seq (.frz [1]) (.ret (.var 1))) .skip))) }
def f_factor_of : Fn := { id := 69, name := "factor_of", own := false, N := ["step", "found", "weight", "term"], ps := ["step"], body := (.seq (.asg (.name 1) (.con (.tup [(.int 0), (.int 1)]))) (.seq (.for_ (.seq (.ix (.var 0) (.con (.int 2)))) (.tup (.cons (.name 2) (.cons (.name 3) .nil))) (.seq (.asg (.name 1) (.call 5 (.cons (.var 1) (.cons (.var 2) .nil)))) .skip)) (.seq (.ret (.var 1)) .skip))) }
def f_step_pair : Fn := { id := 70, name := "step_pair", own := false, N := ["step"], ps := ["step"], body := (.seq (.ret (.tup (.cons (.ix (.var 0) (.con (.int 1))) (.cons (.call 6 (.cons (.con (.tup [(.int 1), (.int 1)])) (.cons (.call 69 (.cons (.var 0) .nil)) .nil))) .nil)))) .skip) }
def f_frame_pairs : Fn := { id := 71, name := "frame_pairs", own := false, N := ["term", "pairs", "part", "pair"], ps := ["term"], body := (.seq (.asg (.name 1) (.comp (.seq (.call 68 (.cons (.var 0) .nil))) (.name 2) (.cmp .Eq (.ix (.var 2) (.con (.int 0))) (.con (.str "step"))) (.call 70 (.cons (.var 2) .nil)) [2])) (.seq (.ret (.comp (.seq (.var 1)) (.name 3) (.cmp .NotEq (.var 3) (.con (.tup [(.tup [(.int 0), (.int 1)]), (.tup [(.int 0), (.int 1)])]))) (.var 3) [3])) .skip)) }
def f_find_ladder : Fn := { id := 72, name := "find_ladder", own := false, N := ["term", "member", "weight", "behind"], ps := ["term"], body := (.seq (.ife (.cmp .Eq (.ix (.var 0) (.con (.int 0))) (.con (.str "end"))) (.seq (.ret (.tup .nil)) .skip) .skip) (.seq (.ife (.cmp .Eq (.ix (.var 0) (.con (.int 0))) (.con (.str "all"))) (.seq (.ret (.call 55 (.cons (.comp (.seq (.ix (.var 0) (.con (.int 1)))) (.name 1) (.con (.bl true)) (.call 72 (.cons (.var 1) .nil)) [1]) .nil))) .skip) .skip) (.seq (.ret (.call 53 (.cons (.call 70 (.cons (.var 0) .nil)) (.cons (.call 56 (.cons (.comp (.seq (.ix (.var 0) (.con (.int 2)))) (.tup (.cons (.name 2) (.cons (.name 3) .nil))) (.con (.bl true)) (.tup (.cons (.var 2) (.cons (.call 72 (.cons (.var 3) .nil)) .nil))) [2, 3]) .nil)) .nil)))) .skip))) }
def f_number_of : Fn := { id := 73, name := "number_of", own := false, N := ["step"], ps := ["step"], body := (.seq (.ret (.ite (.cmp .Eq (.call 70 (.cons (.var 0) .nil)) (.con (.tup [(.tup [(.int 0), (.int 1)]), (.tup [(.int 0), (.int 1)])]))) (.con (.str "toss")) (.ix (.call 72 (.cons (.var 0) .nil)) (.con (.int 0))))) .skip) }
def f_need_term : Fn := { id := 74, name := "need_term", own := false, N := ["term"], ps := ["term"], body := (.seq (.ife (.not (.call 65 (.cons (.var 0) .nil))) (.seq (.raise 3 (.var 0)) .skip) .skip) (.seq (.expr (.call 51 (.cons (.call 71 (.cons (.var 0) .nil)) .nil))) .skip)) }
def f_ladder_of : Fn := { id := 75, name := "ladder_of", own := false, N := ["term"], ps := ["term"], body := (.seq (.expr (.call 74 (.cons (.var 0) .nil))) (.seq (.ret (.call 72 (.cons (.var 0) .nil))) .skip)) }
def f_numbers : Fn := { id := 76, name := "numbers", own := false, N := ["term", "part"], ps := ["term"], body := (.seq (.expr (.call 74 (.cons (.var 0) .nil))) (.seq (.ret (.comp (.seq (.call 68 (.cons (.var 0) .nil))) (.name 1) (.cmp .Eq (.ix (.var 1) (.con (.int 0))) (.con (.str "step"))) (.call 73 (.cons (.var 1) .nil)) [1])) .skip)) }
def f_mix_ladder : Fn := { id := 77, name := "mix_ladder", own := false, N := ["mix", "term", "pair"], ps := ["mix"], body := (.seq (.ife (.not (.call 66 (.cons (.var 0) .nil))) (.seq (.raise 4 (.var 0)) .skip) .skip) (.seq (.expr (.call 51 (.cons (.comp2 (.seq (.var 0)) (.name 1) (.seq (.call 71 (.cons (.var 1) .nil))) (.name 2) (.con (.bl true)) (.var 2) [1, 2] [2]) .nil))) (.seq (.ret (.call 55 (.cons (.comp (.seq (.var 0)) (.name 1) (.con (.bl true)) (.call 72 (.cons (.var 1) .nil)) [1]) .nil))) .skip))) }
def f_beneath : Fn := { id := 78, name := "beneath", own := false, N := ["term", "weight", "behind"], ps := ["term"], body := (.seq (.ife (.cmp .Eq (.ix (.var 0) (.con (.int 0))) (.con (.str "step"))) (.seq (.ret (.comp (.seq (.ix (.var 0) (.con (.int 2)))) (.tup (.cons (.name 1) (.cons (.name 2) .nil))) (.con (.bl true)) (.var 2) [1, 2])) .skip) .skip) (.seq (.ret (.ite (.cmp .Eq (.ix (.var 0) (.con (.int 0))) (.con (.str "all"))) (.bi .list (.ix (.var 0) (.con (.int 1)))) (.lst .nil))) .skip)) }
def f_follows : Fn := { id := 79, name := "follows", own := false, N := ["term", "ladder", "ladders", "weights", "weight", "behind"], ps := ["term", "ladder", "ladders"], body := (.seq (.ife (.cmp .Eq (.ix (.var 0) (.con (.int 0))) (.con (.str "end"))) (.seq (.ret (.cmp .Eq (.var 1) (.tup .nil))) .skip) .skip) (.seq (.ife (.cmp .Eq (.ix (.var 0) (.con (.int 0))) (.con (.str "all"))) (.seq (.ret (.cmp .Eq (.var 1) (.call 55 (.cons (.var 2) .nil)))) .skip) .skip) (.seq (.asg (.name 3) (.comp (.seq (.ix (.var 0) (.con (.int 2)))) (.tup (.cons (.name 4) (.cons (.name 5) .nil))) (.con (.bl true)) (.var 4) [4, 5])) (.seq (.ret (.cmp .Eq (.var 1) (.call 53 (.cons (.call 70 (.cons (.var 0) .nil)) (.cons (.call 56 (.cons (.lzip (.var 3) (.var 2)) .nil)) .nil))))) .skip)))) }
def f_paper : Fn := { id := 80, name := "paper", own := false, N := ["term", "part"], ps := ["term"], body := (.seq (.expr (.call 74 (.cons (.var 0) .nil))) (.seq (.ret (.comp (.seq (.call 68 (.cons (.var 0) .nil))) (.name 1) (.con (.bl true)) (.call 72 (.cons (.var 1) .nil)) [1])) .skip)) }
def f_is_right : Fn := { id := 81, name := "is_right", own := false, N := ["term", "told", "ladders", "at", "other", "many"], ps := ["term", "told"], body := (.seq (.par [2, 3] (.cons (.own (.lst .nil)) (.cons (.con (.int 1)) .nil))) (.seq (.for_ (.seq (.call 78 (.cons (.var 0) .nil))) (.name 4) (.seq (.asg (.name 5) (.bi .len (.call 68 (.cons (.var 4) .nil)))) (.seq (.ife (.not (.call 81 (.cons (.var 4) (.cons (.sl (.var 1) (.some (.var 3)) (.some (.bin .Add (.var 3) (.var 5)))) .nil)))) (.seq (.ret (.con (.bl false))) .skip) .skip) (.seq (.mut .append 2 (.cons (.ix (.var 1) (.var 3)) .nil)) (.seq (.aug 3 .Add (.var 5)) .skip))))) (.seq (.seq (.frz [2]) (.ret (.call 79 (.cons (.var 0) (.cons (.ix (.var 1) (.con (.int 0))) (.cons (.var 2) .nil)))))) .skip))) }
def f_is_paper : Fn := { id := 82, name := "is_paper", own := false, N := ["term", "value", "ladder"], ps := ["term", "value"], body := (.seq (.ife (.not (.call 65 (.cons (.var 0) .nil))) (.seq (.raise 3 (.var 0)) .skip) .skip) (.seq (.ife (.or (.cmp .Is (.call 30 (.cons (.call 71 (.cons (.var 0) .nil)) .nil)) (.con .non)) (.not (.isi (.var 1) .list))) (.seq (.ret (.con (.bl false))) .skip) .skip) (.seq (.ife (.or (.cmp .NotEq (.bi .len (.var 1)) (.bi .len (.call 68 (.cons (.var 0) .nil)))) (.not (.bi .all (.comp (.seq (.var 1)) (.name 2) (.con (.bl true)) (.call 43 (.cons (.var 2) .nil)) [2])))) (.seq (.ret (.con (.bl false))) .skip) .skip) (.seq (.ret (.call 81 (.cons (.var 0) (.cons (.var 1) .nil)))) .skip)))) }
def f_law : Fn := { id := 83, name := "law", own := false, N := ["_law_script", "_law_good", "_law_poor", "_law_late"], ps := ["_law_script"], body := (.seq (.asg (.tup (.cons (.name 1) (.cons (.name 2) (.cons (.name 3) .nil)))) (.tup (.cons (.tup (.cons (.tup (.cons (.con (.int 4)) (.cons (.con (.int 1)) .nil))) (.cons (.tup (.cons (.con (.int 1)) (.cons (.con (.int 2)) .nil))) .nil))) (.cons (.tup (.cons (.tup (.cons (.con (.int 1)) (.cons (.con (.int 1)) .nil))) (.cons (.tup (.cons (.con (.int 1)) (.cons (.con (.int 2)) .nil))) .nil))) (.cons (.tup (.cons (.con (.str "step")) (.cons (.tup (.cons (.con (.int 4)) (.cons (.con (.int 1)) .nil))) (.cons (.tup (.cons (.tup (.cons (.tup (.cons (.con (.int 1)) (.cons (.con (.int 2)) .nil))) (.cons (.tup (.cons (.con (.str "end")) .nil)) .nil))) .nil)) .nil)))) .nil))))) (.seq (.ife (.cmp .NotEq (.lst (.cons (.callK 12 [1, 0] .nil (.cons (.tup (.cons (.con (.int 1)) (.cons (.con (.int 3)) .nil))) (.cons (.tup (.cons (.con (.int 1)) (.cons (.con (.int 2)) .nil))) .nil))) (.cons (.callK 13 [1, 0] .nil (.cons (.tup (.cons (.con (.int 1)) (.cons (.con (.int 3)) .nil))) (.cons (.tup (.cons (.con (.int 1)) (.cons (.con (.int 2)) .nil))) .nil))) .nil))) (.lst (.cons (.tup (.cons (.con (.int 5)) (.cons (.con (.int 6)) .nil))) (.cons (.tup (.cons (.con (.int 1)) (.cons (.con (.int 6)) .nil))) .nil)))) (.seq (.ret (.con (.bl false))) .skip) .skip) (.seq (.ife (.cmp .NotEq (.lst (.cons (.callK 14 [1, 0] .nil (.cons (.tup (.cons (.con (.int 4)) (.cons (.con (.int 3)) .nil))) (.cons (.tup (.cons (.con (.int 1)) (.cons (.con (.int 2)) .nil))) .nil))) (.cons (.callK 15 [1, 0] .nil (.cons (.tup (.cons (.neg (.con (.int 3))) (.cons (.con (.int 4)) .nil))) (.cons (.tup (.cons (.con (.int 1)) (.cons (.con (.int 2)) .nil))) .nil))) .nil))) (.lst (.cons (.tup (.cons (.con (.int 2)) (.cons (.con (.int 3)) .nil))) (.cons (.tup (.cons (.neg (.con (.int 2))) (.cons (.con (.int 3)) .nil))) .nil)))) (.seq (.ret (.con (.bl false))) .skip) .skip) (.seq (.ife (.cmp .NotEq (.lst (.cons (.callK 16 [1, 0] .nil (.cons (.tup (.cons (.con (.int 1)) (.cons (.con (.int 3)) .nil))) (.cons (.tup (.cons (.con (.int 1)) (.cons (.con (.int 2)) .nil))) .nil))) (.cons (.callK 11 [1, 0] .nil (.cons (.neg (.con (.int 4))) (.cons (.con (.int 2)) .nil))) .nil))) (.lst (.cons (.con (.int 1)) (.cons (.tup (.cons (.neg (.con (.int 1))) (.cons (.con (.int 2)) .nil))) .nil)))) (.seq (.ret (.con (.bl false))) .skip) .skip) (.seq (.ife (.callK 3 [0] .nil (.cons (.tup (.cons (.con (.int 2)) (.cons (.con (.int 4)) .nil))) .nil)) (.seq (.ret (.con (.bl false))) .skip) .skip) (.seq (.ife (.or (.not (.callK 22 [1, 0] .nil (.cons (.var 2) (.cons (.var 1) .nil)))) (.or (.callK 23 [1, 0] .nil (.cons (.var 2) (.cons (.var 1) .nil))) (.not (.callK 17 [0] .nil (.cons (.var 1) .nil))))) (.seq (.ret (.con (.bl false))) .skip) .skip) (.seq (.ife (.or (.cmp .NotEq (.callK 24 [0] .nil (.cons (.lst (.cons (.var 1) (.cons (.var 2) .nil))) .nil)) (.tup (.cons (.tup (.cons (.con (.int 5)) (.cons (.con (.int 1)) .nil))) (.cons (.tup (.cons (.con (.int 1)) (.cons (.con (.int 1)) .nil))) .nil)))) (.cmp .NotEq (.callK 25 [1, 0] .nil (.cons (.tup (.cons (.con (.int 2)) (.cons (.con (.int 1)) .nil))) (.cons (.var 2) .nil))) (.tup (.cons (.tup (.cons (.con (.int 2)) (.cons (.con (.int 1)) .nil))) (.cons (.tup (.cons (.con (.int 1)) (.cons (.con (.int 1)) .nil))) .nil))))) (.seq (.ret (.con (.bl false))) .skip) .skip) (.seq (.ife (.or (.not (.callK 37 [1, 0] .nil (.cons (.callK 36 [0] .nil (.cons (.lst (.cons (.var 1) .nil)) .nil)) (.cons (.lst (.cons (.var 1) .nil)) .nil)))) (.cmp .IsNot (.callK 38 [0] .nil (.cons (.lst (.cons (.var 1) .nil)) .nil)) (.con .non))) (.seq (.ret (.con (.bl false))) .skip) .skip) (.seq (.ife (.or (.callK 40 [1, 0] .nil (.cons (.tup (.cons (.tup (.cons (.con (.int 0)) (.cons (.tup (.cons (.con (.int 1)) (.cons (.con (.int 1)) .nil))) .nil))) .nil)) (.cons (.lst (.cons (.var 1) .nil)) .nil))) (.not (.callK 43 [0] .nil (.cons (.tup (.cons (.var 1) (.cons (.var 2) .nil))) .nil)))) (.seq (.ret (.con (.bl false))) .skip) .skip) (.seq (.ife (.or (.cmp .NotEq (.callK 47 [0] .nil (.cons (.tup (.cons (.var 1) .nil)) .nil)) (.tup (.cons (.con (.int 4)) (.cons (.con (.int 1)) .nil)))) (.or (.cmp .NotEq (.callK 48 [0] .nil (.cons (.tup (.cons (.var 1) .nil)) .nil)) (.lst (.cons (.tup (.cons (.con (.int 1)) (.cons (.con (.int 2)) .nil))) .nil))) (.cmp .NotEq (.callK 49 [0] .nil (.cons (.tup (.cons (.var 1) .nil)) .nil)) (.var 3)))) (.seq (.ret (.con (.bl false))) .skip) .skip) (.seq (.ife (.or (.not (.callK 50 [0] .nil (.cons (.lst (.cons (.tup (.cons (.var 1) .nil)) (.cons (.tup (.cons (.var 2) .nil)) .nil))) .nil))) (.cmp .NotEq (.callK 57 [0] .nil (.cons (.lst (.cons (.var 2) (.cons (.var 1) .nil))) .nil)) (.tup (.cons (.var 1) (.cons (.var 2) .nil))))) (.seq (.ret (.con (.bl false))) .skip) .skip) (.seq (.ife (.or (.cmp .NotEq (.callK 58 [1, 0] .nil (.cons (.lst (.cons (.var 1) .nil)) (.cons (.var 2) .nil))) (.tup (.cons (.tup (.cons (.tup (.cons (.con (.int 5)) (.cons (.con (.int 1)) .nil))) (.cons (.tup (.cons (.con (.int 1)) (.cons (.con (.int 1)) .nil))) .nil))) .nil))) (.cmp .NotEq (.callK 59 [0] .nil (.cons (.lst (.cons (.tup (.cons (.var 1) .nil)) .nil)) .nil)) (.tup (.cons (.var 1) .nil)))) (.seq (.ret (.con (.bl false))) .skip) .skip) (.seq (.ife (.or (.cmp .NotEq (.callK 61 [0] .nil (.cons (.lst (.cons (.tup (.cons (.tup (.cons (.con (.int 1)) (.cons (.con (.int 1)) .nil))) (.cons (.tup (.cons (.var 1) .nil)) .nil))) .nil)) .nil)) (.tup (.cons (.var 1) .nil))) (.cmp .NotEq (.callK 75 [0] .nil (.cons (.var 3) .nil)) (.tup (.cons (.var 1) .nil)))) (.seq (.ret (.con (.bl false))) .skip) .skip) (.seq (.ife (.or (.cmp .NotEq (.callK 76 [0] .nil (.cons (.var 3) .nil)) (.lst (.cons (.var 1) .nil))) (.cmp .NotEq (.callK 77 [0] .nil (.cons (.tup (.cons (.var 3) .nil)) .nil)) (.tup (.cons (.var 1) .nil)))) (.seq (.ret (.con (.bl false))) .skip) .skip) (.seq (.ret (.and (.cmp .Eq (.callK 80 [0] .nil (.cons (.var 3) .nil)) (.lst (.cons (.tup (.cons (.var 1) .nil)) (.cons (.tup .nil) .nil)))) (.cmp .Is (.callK 82 [1, 0] .nil (.cons (.lst (.cons (.tup (.cons (.var 1) .nil)) (.cons (.tup .nil) .nil))) (.cons (.var 3) .nil))) (.con (.bl true))))) .skip))))))))))))))) }
def fs : List Fn := [f_is_integer, f_divisor_of, f_is_fraction, f_lowest, f_add, f_less, f_mul, f_div, f_order_of, f_need_fractions, f_fraction, f_plus, f_minus, f_times, f_over, f_compare, f_is_pair, f_turn_of, f_joined, f_spread_by, f_need_pairs, f_is_ahead, f_are_level, f_total, f_spread, f_need_list, f_measure, f_is_along, f_find_ends, f_find_witness, f_are_positive, f_cross, f_opposite_of, f_round_of, f_find_ring, f_witness, f_is_witness, f_ring, f_is_share_frames, f_is_ring, f_weights_left, f_are_rungs, f_is_ladder, f_need_ladder, f_need_ladders, f_sum_of_pays, f_pays, f_left, f_chain, f_is_same_frame, f_need_frame, f_merge, f_glued, f_foremost_of, f_beside_one_another, f_shared, f_put_together, f_glue, f_side_by_side, f_is_share_algebra, f_blend, f_counts_together, f_is_outcome, f_counts_of, f_is_term, f_is_mix, f_within, f_parts_of, f_factor_of, f_step_pair, f_frame_pairs, f_find_ladder, f_number_of, f_need_term, f_ladder_of, f_numbers, f_mix_ladder, f_beneath, f_follows, f_paper, f_is_right, f_is_paper, f_law]
end L_onenumber_k08_arguments_by_names
namespace L_onenumber_k08_arguments_by_names
open PD PySem PySem.Spec PyProof.Rows L2
def topS (i : Nat) : Stmt := PySem.Challenge.pw_onenumber_k08_arguments_by_names.main.body.getD i (.Pass ⟨0, 0, 0, 0⟩)
theorem sc_is_integer : FnScope f_is_integer.N f_is_integer.ps (defScope (topS 13)) := ⟨rfl, rfl, rfl, by decide +kernel, rfl, by decide +kernel, by decide +kernel⟩
theorem tr_is_integer : trSs gt ⟨[], [], false, false, [], false, []⟩ f_is_integer.N 60 (defScope (topS 13)) (defScope (topS 13)) (defBody (topS 13)) = f_is_integer.body := by kernel_rfl
theorem sc_divisor_of : FnScope f_divisor_of.N f_divisor_of.ps (defScope (topS 14)) := ⟨rfl, rfl, rfl, by decide +kernel, rfl, by decide +kernel, by decide +kernel⟩
theorem tr_divisor_of : trSs gt ⟨[], [], false, false, [], false, []⟩ f_divisor_of.N 60 (defScope (topS 14)) (defScope (topS 14)) (defBody (topS 14)) = f_divisor_of.body := by kernel_rfl
theorem sc_is_fraction : FnScope f_is_fraction.N f_is_fraction.ps (defScope (topS 15)) := ⟨rfl, rfl, rfl, by decide +kernel, rfl, by decide +kernel, by decide +kernel⟩
theorem tr_is_fraction : trSs gt ⟨[], [], false, false, [], false, []⟩ f_is_fraction.N 60 (defScope (topS 15)) (defScope (topS 15)) (defBody (topS 15)) = f_is_fraction.body := by kernel_rfl
theorem sc_lowest : FnScope f_lowest.N f_lowest.ps (defScope (topS 16)) := ⟨rfl, rfl, rfl, by decide +kernel, rfl, by decide +kernel, by decide +kernel⟩
theorem tr_lowest : trSs gt ⟨[], [], false, false, [], false, []⟩ f_lowest.N 60 (defScope (topS 16)) (defScope (topS 16)) (defBody (topS 16)) = f_lowest.body := by kernel_rfl
theorem sc_add : FnScope f_add.N f_add.ps (defScope (topS 17)) := ⟨rfl, rfl, rfl, by decide +kernel, rfl, by decide +kernel, by decide +kernel⟩
theorem tr_add : trSs gt ⟨[], [], false, false, [], false, []⟩ f_add.N 60 (defScope (topS 17)) (defScope (topS 17)) (defBody (topS 17)) = f_add.body := by kernel_rfl
theorem sc_less : FnScope f_less.N f_less.ps (defScope (topS 18)) := ⟨rfl, rfl, rfl, by decide +kernel, rfl, by decide +kernel, by decide +kernel⟩
theorem tr_less : trSs gt ⟨[], [], false, false, [], false, []⟩ f_less.N 60 (defScope (topS 18)) (defScope (topS 18)) (defBody (topS 18)) = f_less.body := by kernel_rfl
theorem sc_mul : FnScope f_mul.N f_mul.ps (defScope (topS 19)) := ⟨rfl, rfl, rfl, by decide +kernel, rfl, by decide +kernel, by decide +kernel⟩
theorem tr_mul : trSs gt ⟨[], [], false, false, [], false, []⟩ f_mul.N 60 (defScope (topS 19)) (defScope (topS 19)) (defBody (topS 19)) = f_mul.body := by kernel_rfl
theorem sc_div : FnScope f_div.N f_div.ps (defScope (topS 20)) := ⟨rfl, rfl, rfl, by decide +kernel, rfl, by decide +kernel, by decide +kernel⟩
theorem tr_div : trSs gt ⟨[], [], false, false, [], false, []⟩ f_div.N 60 (defScope (topS 20)) (defScope (topS 20)) (defBody (topS 20)) = f_div.body := by kernel_rfl
theorem sc_order_of : FnScope f_order_of.N f_order_of.ps (defScope (topS 21)) := ⟨rfl, rfl, rfl, by decide +kernel, rfl, by decide +kernel, by decide +kernel⟩
theorem tr_order_of : trSs gt ⟨[], [], false, false, [], false, []⟩ f_order_of.N 60 (defScope (topS 21)) (defScope (topS 21)) (defBody (topS 21)) = f_order_of.body := by kernel_rfl
theorem sc_need_fractions : FnScope f_need_fractions.N f_need_fractions.ps (defScope (topS 22)) := ⟨rfl, rfl, rfl, by decide +kernel, rfl, by decide +kernel, by decide +kernel⟩
theorem tr_need_fractions : trSs gt ⟨[], [], false, false, [], false, []⟩ f_need_fractions.N 60 (defScope (topS 22)) (defScope (topS 22)) (defBody (topS 22)) = f_need_fractions.body := by kernel_rfl
theorem sc_fraction : FnScope f_fraction.N f_fraction.ps (defScope (topS 23)) := ⟨rfl, rfl, rfl, by decide +kernel, rfl, by decide +kernel, by decide +kernel⟩
theorem tr_fraction : trSs gt ⟨[], [], false, false, [], false, []⟩ f_fraction.N 60 (defScope (topS 23)) (defScope (topS 23)) (defBody (topS 23)) = f_fraction.body := by kernel_rfl
theorem sc_plus : FnScope f_plus.N f_plus.ps (defScope (topS 24)) := ⟨rfl, rfl, rfl, by decide +kernel, rfl, by decide +kernel, by decide +kernel⟩
theorem tr_plus : trSs gt ⟨[], [], false, false, [], false, []⟩ f_plus.N 60 (defScope (topS 24)) (defScope (topS 24)) (defBody (topS 24)) = f_plus.body := by kernel_rfl
theorem sc_minus : FnScope f_minus.N f_minus.ps (defScope (topS 25)) := ⟨rfl, rfl, rfl, by decide +kernel, rfl, by decide +kernel, by decide +kernel⟩
theorem tr_minus : trSs gt ⟨[], [], false, false, [], false, []⟩ f_minus.N 60 (defScope (topS 25)) (defScope (topS 25)) (defBody (topS 25)) = f_minus.body := by kernel_rfl
theorem sc_times : FnScope f_times.N f_times.ps (defScope (topS 26)) := ⟨rfl, rfl, rfl, by decide +kernel, rfl, by decide +kernel, by decide +kernel⟩
theorem tr_times : trSs gt ⟨[], [], false, false, [], false, []⟩ f_times.N 60 (defScope (topS 26)) (defScope (topS 26)) (defBody (topS 26)) = f_times.body := by kernel_rfl
theorem sc_over : FnScope f_over.N f_over.ps (defScope (topS 27)) := ⟨rfl, rfl, rfl, by decide +kernel, rfl, by decide +kernel, by decide +kernel⟩
theorem tr_over : trSs gt ⟨[], [], false, false, [], false, []⟩ f_over.N 60 (defScope (topS 27)) (defScope (topS 27)) (defBody (topS 27)) = f_over.body := by kernel_rfl
theorem sc_compare : FnScope f_compare.N f_compare.ps (defScope (topS 28)) := ⟨rfl, rfl, rfl, by decide +kernel, rfl, by decide +kernel, by decide +kernel⟩
theorem tr_compare : trSs gt ⟨[], [], false, false, [], false, []⟩ f_compare.N 60 (defScope (topS 28)) (defScope (topS 28)) (defBody (topS 28)) = f_compare.body := by kernel_rfl
theorem sc_is_pair : FnScope f_is_pair.N f_is_pair.ps (defScope (topS 31)) := ⟨rfl, rfl, rfl, by decide +kernel, rfl, by decide +kernel, by decide +kernel⟩
theorem tr_is_pair : trSs gt ⟨[], [], false, false, [], false, []⟩ f_is_pair.N 60 (defScope (topS 31)) (defScope (topS 31)) (defBody (topS 31)) = f_is_pair.body := by kernel_rfl
theorem sc_turn_of : FnScope f_turn_of.N f_turn_of.ps (defScope (topS 32)) := ⟨rfl, rfl, rfl, by decide +kernel, rfl, by decide +kernel, by decide +kernel⟩
theorem tr_turn_of : trSs gt ⟨[], [], false, false, [], false, []⟩ f_turn_of.N 60 (defScope (topS 32)) (defScope (topS 32)) (defBody (topS 32)) = f_turn_of.body := by kernel_rfl
theorem sc_joined : FnScope f_joined.N f_joined.ps (defScope (topS 33)) := ⟨rfl, rfl, rfl, by decide +kernel, rfl, by decide +kernel, by decide +kernel⟩
theorem tr_joined : trSs gt ⟨[], [], false, false, [], false, []⟩ f_joined.N 60 (defScope (topS 33)) (defScope (topS 33)) (defBody (topS 33)) = f_joined.body := by kernel_rfl
theorem sc_spread_by : FnScope f_spread_by.N f_spread_by.ps (defScope (topS 34)) := ⟨rfl, rfl, rfl, by decide +kernel, rfl, by decide +kernel, by decide +kernel⟩
theorem tr_spread_by : trSs gt ⟨[], [], false, false, [], false, []⟩ f_spread_by.N 60 (defScope (topS 34)) (defScope (topS 34)) (defBody (topS 34)) = f_spread_by.body := by kernel_rfl
theorem sc_need_pairs : FnScope f_need_pairs.N f_need_pairs.ps (defScope (topS 35)) := ⟨rfl, rfl, rfl, by decide +kernel, rfl, by decide +kernel, by decide +kernel⟩
theorem tr_need_pairs : trSs gt ⟨[], [], false, false, [], false, []⟩ f_need_pairs.N 60 (defScope (topS 35)) (defScope (topS 35)) (defBody (topS 35)) = f_need_pairs.body := by kernel_rfl
theorem sc_is_ahead : FnScope f_is_ahead.N f_is_ahead.ps (defScope (topS 36)) := ⟨rfl, rfl, rfl, by decide +kernel, rfl, by decide +kernel, by decide +kernel⟩
theorem tr_is_ahead : trSs gt ⟨[], [], false, false, [], false, []⟩ f_is_ahead.N 60 (defScope (topS 36)) (defScope (topS 36)) (defBody (topS 36)) = f_is_ahead.body := by kernel_rfl
theorem sc_are_level : FnScope f_are_level.N f_are_level.ps (defScope (topS 37)) := ⟨rfl, rfl, rfl, by decide +kernel, rfl, by decide +kernel, by decide +kernel⟩
theorem tr_are_level : trSs gt ⟨[], [], false, false, [], false, []⟩ f_are_level.N 60 (defScope (topS 37)) (defScope (topS 37)) (defBody (topS 37)) = f_are_level.body := by kernel_rfl
theorem sc_total : FnScope f_total.N f_total.ps (defScope (topS 38)) := ⟨rfl, rfl, rfl, by decide +kernel, rfl, by decide +kernel, by decide +kernel⟩
theorem tr_total : trSs gt ⟨[], [], false, false, [], false, []⟩ f_total.N 60 (defScope (topS 38)) (defScope (topS 38)) (defBody (topS 38)) = f_total.body := by kernel_rfl
theorem sc_spread : FnScope f_spread.N f_spread.ps (defScope (topS 39)) := ⟨rfl, rfl, rfl, by decide +kernel, rfl, by decide +kernel, by decide +kernel⟩
theorem tr_spread : trSs gt ⟨[], [], false, false, [], false, []⟩ f_spread.N 60 (defScope (topS 39)) (defScope (topS 39)) (defBody (topS 39)) = f_spread.body := by kernel_rfl
theorem sc_need_list : FnScope f_need_list.N f_need_list.ps (defScope (topS 42)) := ⟨rfl, rfl, rfl, by decide +kernel, rfl, by decide +kernel, by decide +kernel⟩
theorem tr_need_list : trSs gt ⟨[], [], false, false, [], false, []⟩ f_need_list.N 60 (defScope (topS 42)) (defScope (topS 42)) (defBody (topS 42)) = f_need_list.body := by kernel_rfl
theorem sc_measure : FnScope f_measure.N f_measure.ps (defScope (topS 43)) := ⟨rfl, rfl, rfl, by decide +kernel, rfl, by decide +kernel, by decide +kernel⟩
theorem tr_measure : trSs gt ⟨[], [], false, false, [], false, []⟩ f_measure.N 60 (defScope (topS 43)) (defScope (topS 43)) (defBody (topS 43)) = f_measure.body := by kernel_rfl
theorem sc_is_along : FnScope f_is_along.N f_is_along.ps (defScope (topS 44)) := ⟨rfl, rfl, rfl, by decide +kernel, rfl, by decide +kernel, by decide +kernel⟩
theorem tr_is_along : trSs gt ⟨[], [], false, false, [], false, []⟩ f_is_along.N 60 (defScope (topS 44)) (defScope (topS 44)) (defBody (topS 44)) = f_is_along.body := by kernel_rfl
theorem sc_find_ends : FnScope f_find_ends.N f_find_ends.ps (defScope (topS 45)) := ⟨rfl, rfl, rfl, by decide +kernel, rfl, by decide +kernel, by decide +kernel⟩
theorem tr_find_ends : trSs gt ⟨[], [], false, false, [], false, []⟩ f_find_ends.N 60 (defScope (topS 45)) (defScope (topS 45)) (defBody (topS 45)) = f_find_ends.body := by kernel_rfl
theorem sc_find_witness : FnScope f_find_witness.N f_find_witness.ps (defScope (topS 46)) := ⟨rfl, rfl, rfl, by decide +kernel, rfl, by decide +kernel, by decide +kernel⟩
theorem tr_find_witness : trSs gt ⟨[], [], false, false, [], false, []⟩ f_find_witness.N 60 (defScope (topS 46)) (defScope (topS 46)) (defBody (topS 46)) = f_find_witness.body := by kernel_rfl
theorem sc_are_positive : FnScope f_are_positive.N f_are_positive.ps (defScope (topS 47)) := ⟨rfl, rfl, rfl, by decide +kernel, rfl, by decide +kernel, by decide +kernel⟩
theorem tr_are_positive : trSs gt ⟨[], [], false, false, [], false, []⟩ f_are_positive.N 60 (defScope (topS 47)) (defScope (topS 47)) (defBody (topS 47)) = f_are_positive.body := by kernel_rfl
theorem sc_cross : FnScope f_cross.N f_cross.ps (defScope (topS 48)) := ⟨rfl, rfl, rfl, by decide +kernel, rfl, by decide +kernel, by decide +kernel⟩
theorem tr_cross : trSs gt ⟨[], [], false, false, [], false, []⟩ f_cross.N 60 (defScope (topS 48)) (defScope (topS 48)) (defBody (topS 48)) = f_cross.body := by kernel_rfl
theorem sc_opposite_of : FnScope f_opposite_of.N f_opposite_of.ps (defScope (topS 49)) := ⟨rfl, rfl, rfl, by decide +kernel, rfl, by decide +kernel, by decide +kernel⟩
theorem tr_opposite_of : trSs gt ⟨[], [], false, false, [], false, []⟩ f_opposite_of.N 60 (defScope (topS 49)) (defScope (topS 49)) (defBody (topS 49)) = f_opposite_of.body := by kernel_rfl
theorem sc_round_of : FnScope f_round_of.N f_round_of.ps (defScope (topS 50)) := ⟨rfl, rfl, rfl, by decide +kernel, rfl, by decide +kernel, by decide +kernel⟩
theorem tr_round_of : trSs gt ⟨[], [], false, false, [], false, []⟩ f_round_of.N 60 (defScope (topS 50)) (defScope (topS 50)) (defBody (topS 50)) = f_round_of.body := by kernel_rfl
theorem sc_find_ring : FnScope f_find_ring.N f_find_ring.ps (defScope (topS 51)) := ⟨rfl, rfl, rfl, by decide +kernel, rfl, by decide +kernel, by decide +kernel⟩
theorem tr_find_ring : trSs gt ⟨[], [], false, false, [], false, []⟩ f_find_ring.N 60 (defScope (topS 51)) (defScope (topS 51)) (defBody (topS 51)) = f_find_ring.body := by kernel_rfl
theorem sc_witness : FnScope f_witness.N f_witness.ps (defScope (topS 52)) := ⟨rfl, rfl, rfl, by decide +kernel, rfl, by decide +kernel, by decide +kernel⟩
theorem tr_witness : trSs gt ⟨[], [], false, false, [], false, []⟩ f_witness.N 60 (defScope (topS 52)) (defScope (topS 52)) (defBody (topS 52)) = f_witness.body := by kernel_rfl
theorem sc_is_witness : FnScope f_is_witness.N f_is_witness.ps (defScope (topS 53)) := ⟨rfl, rfl, rfl, by decide +kernel, rfl, by decide +kernel, by decide +kernel⟩
theorem tr_is_witness : trSs gt ⟨[], [], false, false, [], false, []⟩ f_is_witness.N 60 (defScope (topS 53)) (defScope (topS 53)) (defBody (topS 53)) = f_is_witness.body := by kernel_rfl
theorem sc_ring : FnScope f_ring.N f_ring.ps (defScope (topS 54)) := ⟨rfl, rfl, rfl, by decide +kernel, rfl, by decide +kernel, by decide +kernel⟩
theorem tr_ring : trSs gt ⟨[], [], false, false, [], false, []⟩ f_ring.N 60 (defScope (topS 54)) (defScope (topS 54)) (defBody (topS 54)) = f_ring.body := by kernel_rfl
theorem sc_is_share_frames : FnScope f_is_share_frames.N f_is_share_frames.ps (defScope (topS 55)) := ⟨rfl, rfl, rfl, by decide +kernel, rfl, by decide +kernel, by decide +kernel⟩
theorem tr_is_share_frames : trSs gt ⟨[], [], false, false, [], false, []⟩ f_is_share_frames.N 60 (defScope (topS 55)) (defScope (topS 55)) (defBody (topS 55)) = f_is_share_frames.body := by kernel_rfl
theorem sc_is_ring : FnScope f_is_ring.N f_is_ring.ps (defScope (topS 57)) := ⟨rfl, rfl, rfl, by decide +kernel, rfl, by decide +kernel, by decide +kernel⟩
theorem tr_is_ring : trSs gt ⟨[], [], false, false, [], false, []⟩ f_is_ring.N 60 (defScope (topS 57)) (defScope (topS 57)) (defBody (topS 57)) = f_is_ring.body := by kernel_rfl
theorem sc_weights_left : FnScope f_weights_left.N f_weights_left.ps (defScope (topS 61)) := ⟨rfl, rfl, rfl, by decide +kernel, rfl, by decide +kernel, by decide +kernel⟩
theorem tr_weights_left : trSs gt ⟨[1], [(222, [1])], false, false, [], false, []⟩ f_weights_left.N 60 (defScope (topS 61)) (defScope (topS 61)) (defBody (topS 61)) = f_weights_left.body := by kernel_rfl
theorem sc_are_rungs : FnScope f_are_rungs.N f_are_rungs.ps (defScope (topS 62)) := ⟨rfl, rfl, rfl, by decide +kernel, rfl, by decide +kernel, by decide +kernel⟩
theorem tr_are_rungs : trSs gt ⟨[], [], false, false, [], false, []⟩ f_are_rungs.N 60 (defScope (topS 62)) (defScope (topS 62)) (defBody (topS 62)) = f_are_rungs.body := by kernel_rfl
theorem sc_is_ladder : FnScope f_is_ladder.N f_is_ladder.ps (defScope (topS 63)) := ⟨rfl, rfl, rfl, by decide +kernel, rfl, by decide +kernel, by decide +kernel⟩
theorem tr_is_ladder : trSs gt ⟨[], [], false, false, [], false, []⟩ f_is_ladder.N 60 (defScope (topS 63)) (defScope (topS 63)) (defBody (topS 63)) = f_is_ladder.body := by kernel_rfl
theorem sc_need_ladder : FnScope f_need_ladder.N f_need_ladder.ps (defScope (topS 64)) := ⟨rfl, rfl, rfl, by decide +kernel, rfl, by decide +kernel, by decide +kernel⟩
theorem tr_need_ladder : trSs gt ⟨[], [], false, false, [], false, []⟩ f_need_ladder.N 60 (defScope (topS 64)) (defScope (topS 64)) (defBody (topS 64)) = f_need_ladder.body := by kernel_rfl
theorem sc_need_ladders : FnScope f_need_ladders.N f_need_ladders.ps (defScope (topS 65)) := ⟨rfl, rfl, rfl, by decide +kernel, rfl, by decide +kernel, by decide +kernel⟩
theorem tr_need_ladders : trSs gt ⟨[], [], false, false, [], false, []⟩ f_need_ladders.N 60 (defScope (topS 65)) (defScope (topS 65)) (defBody (topS 65)) = f_need_ladders.body := by kernel_rfl
theorem sc_sum_of_pays : FnScope f_sum_of_pays.N f_sum_of_pays.ps (defScope (topS 66)) := ⟨rfl, rfl, rfl, by decide +kernel, rfl, by decide +kernel, by decide +kernel⟩
theorem tr_sum_of_pays : trSs gt ⟨[], [], false, false, [], false, []⟩ f_sum_of_pays.N 60 (defScope (topS 66)) (defScope (topS 66)) (defBody (topS 66)) = f_sum_of_pays.body := by kernel_rfl
theorem sc_pays : FnScope f_pays.N f_pays.ps (defScope (topS 67)) := ⟨rfl, rfl, rfl, by decide +kernel, rfl, by decide +kernel, by decide +kernel⟩
theorem tr_pays : trSs gt ⟨[], [], false, false, [], false, []⟩ f_pays.N 60 (defScope (topS 67)) (defScope (topS 67)) (defBody (topS 67)) = f_pays.body := by kernel_rfl
theorem sc_left : FnScope f_left.N f_left.ps (defScope (topS 68)) := ⟨rfl, rfl, rfl, by decide +kernel, rfl, by decide +kernel, by decide +kernel⟩
theorem tr_left : trSs gt ⟨[], [], false, false, [], false, []⟩ f_left.N 60 (defScope (topS 68)) (defScope (topS 68)) (defBody (topS 68)) = f_left.body := by kernel_rfl
theorem sc_chain : FnScope f_chain.N f_chain.ps (defScope (topS 69)) := ⟨rfl, rfl, rfl, by decide +kernel, rfl, by decide +kernel, by decide +kernel⟩
theorem tr_chain : trSs gt ⟨[], [], false, false, [], false, []⟩ f_chain.N 60 (defScope (topS 69)) (defScope (topS 69)) (defBody (topS 69)) = f_chain.body := by kernel_rfl
theorem sc_is_same_frame : FnScope f_is_same_frame.N f_is_same_frame.ps (defScope (topS 70)) := ⟨rfl, rfl, rfl, by decide +kernel, rfl, by decide +kernel, by decide +kernel⟩
theorem tr_is_same_frame : trSs gt ⟨[], [], false, false, [], false, []⟩ f_is_same_frame.N 60 (defScope (topS 70)) (defScope (topS 70)) (defBody (topS 70)) = f_is_same_frame.body := by kernel_rfl
theorem sc_need_frame : FnScope f_need_frame.N f_need_frame.ps (defScope (topS 72)) := ⟨rfl, rfl, rfl, by decide +kernel, rfl, by decide +kernel, by decide +kernel⟩
theorem tr_need_frame : trSs gt ⟨[], [], false, false, [], false, []⟩ f_need_frame.N 60 (defScope (topS 72)) (defScope (topS 72)) (defBody (topS 72)) = f_need_frame.body := by kernel_rfl
theorem sc_merge : FnScope f_merge.N f_merge.ps (defScope (topS 73)) := ⟨rfl, rfl, rfl, by decide +kernel, rfl, by decide +kernel, by decide +kernel⟩
theorem tr_merge : trSs gt ⟨[1], [], false, false, [], false, []⟩ f_merge.N 60 (defScope (topS 73)) (defScope (topS 73)) (defBody (topS 73)) = f_merge.body := by kernel_rfl
theorem sc_glued : FnScope f_glued.N f_glued.ps (defScope (topS 74)) := ⟨rfl, rfl, rfl, by decide +kernel, rfl, by decide +kernel, by decide +kernel⟩
theorem tr_glued : trSs gt ⟨[], [], false, false, [], true, []⟩ f_glued.N 60 (defScope (topS 74)) (defScope (topS 74)) (defBody (topS 74)) = f_glued.body := by kernel_rfl
theorem sc_foremost_of : FnScope f_foremost_of.N f_foremost_of.ps (defScope (topS 75)) := ⟨rfl, rfl, rfl, by decide +kernel, rfl, by decide +kernel, by decide +kernel⟩
theorem tr_foremost_of : trSs gt ⟨[], [], false, false, [], false, []⟩ f_foremost_of.N 60 (defScope (topS 75)) (defScope (topS 75)) (defBody (topS 75)) = f_foremost_of.body := by kernel_rfl
theorem sc_beside_one_another : FnScope f_beside_one_another.N f_beside_one_another.ps (defScope (topS 76)) := ⟨rfl, rfl, rfl, by decide +kernel, rfl, by decide +kernel, by decide +kernel⟩
theorem tr_beside_one_another : trSs gt ⟨[3], [(306, [3])], false, false, [], true, [2]⟩ f_beside_one_another.N 60 (defScope (topS 76)) (defScope (topS 76)) (defBody (topS 76)) = f_beside_one_another.body := by kernel_rfl
theorem sc_shared : FnScope f_shared.N f_shared.ps (defScope (topS 77)) := ⟨rfl, rfl, rfl, by decide +kernel, rfl, by decide +kernel, by decide +kernel⟩
theorem tr_shared : trSs gt ⟨[], [], false, false, [], false, []⟩ f_shared.N 60 (defScope (topS 77)) (defScope (topS 77)) (defBody (topS 77)) = f_shared.body := by kernel_rfl
theorem sc_put_together : FnScope f_put_together.N f_put_together.ps (defScope (topS 78)) := ⟨rfl, rfl, rfl, by decide +kernel, rfl, by decide +kernel, by decide +kernel⟩
theorem tr_put_together : trSs gt ⟨[], [], false, false, [], false, []⟩ f_put_together.N 60 (defScope (topS 78)) (defScope (topS 78)) (defBody (topS 78)) = f_put_together.body := by kernel_rfl
theorem sc_glue : FnScope f_glue.N f_glue.ps (defScope (topS 79)) := ⟨rfl, rfl, rfl, by decide +kernel, rfl, by decide +kernel, by decide +kernel⟩
theorem tr_glue : trSs gt ⟨[], [], false, false, [], false, []⟩ f_glue.N 60 (defScope (topS 79)) (defScope (topS 79)) (defBody (topS 79)) = f_glue.body := by kernel_rfl
theorem sc_side_by_side : FnScope f_side_by_side.N f_side_by_side.ps (defScope (topS 80)) := ⟨rfl, rfl, rfl, by decide +kernel, rfl, by decide +kernel, by decide +kernel⟩
theorem tr_side_by_side : trSs gt ⟨[], [], false, false, [], false, []⟩ f_side_by_side.N 60 (defScope (topS 80)) (defScope (topS 80)) (defBody (topS 80)) = f_side_by_side.body := by kernel_rfl
theorem sc_is_share_algebra : FnScope f_is_share_algebra.N f_is_share_algebra.ps (defScope (topS 81)) := ⟨rfl, rfl, rfl, by decide +kernel, rfl, by decide +kernel, by decide +kernel⟩
theorem tr_is_share_algebra : trSs gt ⟨[], [], false, false, [], false, []⟩ f_is_share_algebra.N 60 (defScope (topS 81)) (defScope (topS 81)) (defBody (topS 81)) = f_is_share_algebra.body := by kernel_rfl
theorem sc_blend : FnScope f_blend.N f_blend.ps (defScope (topS 83)) := ⟨rfl, rfl, rfl, by decide +kernel, rfl, by decide +kernel, by decide +kernel⟩
theorem tr_blend : trSs gt ⟨[], [], false, false, [], false, []⟩ f_blend.N 60 (defScope (topS 83)) (defScope (topS 83)) (defBody (topS 83)) = f_blend.body := by kernel_rfl
theorem sc_counts_together : FnScope f_counts_together.N f_counts_together.ps (defScope (topS 91)) := ⟨rfl, rfl, rfl, by decide +kernel, rfl, by decide +kernel, by decide +kernel⟩
theorem tr_counts_together : trSs gt ⟨[], [], false, false, [], false, []⟩ f_counts_together.N 60 (defScope (topS 91)) (defScope (topS 91)) (defBody (topS 91)) = f_counts_together.body := by kernel_rfl
theorem sc_is_outcome : FnScope f_is_outcome.N f_is_outcome.ps (defScope (topS 92)) := ⟨rfl, rfl, rfl, by decide +kernel, rfl, by decide +kernel, by decide +kernel⟩
theorem tr_is_outcome : trSs gt ⟨[], [], false, false, [], false, []⟩ f_is_outcome.N 60 (defScope (topS 92)) (defScope (topS 92)) (defBody (topS 92)) = f_is_outcome.body := by kernel_rfl
theorem sc_counts_of : FnScope f_counts_of.N f_counts_of.ps (defScope (topS 93)) := ⟨rfl, rfl, rfl, by decide +kernel, rfl, by decide +kernel, by decide +kernel⟩
theorem tr_counts_of : trSs gt ⟨[], [], false, false, [], false, []⟩ f_counts_of.N 60 (defScope (topS 93)) (defScope (topS 93)) (defBody (topS 93)) = f_counts_of.body := by kernel_rfl
theorem sc_is_term : FnScope f_is_term.N f_is_term.ps (defScope (topS 94)) := ⟨rfl, rfl, rfl, by decide +kernel, rfl, by decide +kernel, by decide +kernel⟩
theorem tr_is_term : trSs gt ⟨[], [], false, false, [], false, []⟩ f_is_term.N 60 (defScope (topS 94)) (defScope (topS 94)) (defBody (topS 94)) = f_is_term.body := by kernel_rfl
theorem sc_is_mix : FnScope f_is_mix.N f_is_mix.ps (defScope (topS 95)) := ⟨rfl, rfl, rfl, by decide +kernel, rfl, by decide +kernel, by decide +kernel⟩
theorem tr_is_mix : trSs gt ⟨[], [], false, false, [], false, []⟩ f_is_mix.N 60 (defScope (topS 95)) (defScope (topS 95)) (defBody (topS 95)) = f_is_mix.body := by kernel_rfl
theorem sc_within : FnScope f_within.N f_within.ps (defScope (topS 96)) := ⟨rfl, rfl, rfl, by decide +kernel, rfl, by decide +kernel, by decide +kernel⟩
theorem tr_within : trSs gt ⟨[], [], false, false, [], false, []⟩ f_within.N 60 (defScope (topS 96)) (defScope (topS 96)) (defBody (topS 96)) = f_within.body := by kernel_rfl
theorem sc_parts_of : FnScope f_parts_of.N f_parts_of.ps (defScope (topS 97)) := ⟨rfl, rfl, rfl, by decide +kernel, rfl, by decide +kernel, by decide +kernel⟩
theorem tr_parts_of : trSs gt ⟨[1], [(389, [1])], false, false, [], false, []⟩ f_parts_of.N 60 (defScope (topS 97)) (defScope (topS 97)) (defBody (topS 97)) = f_parts_of.body := by kernel_rfl
theorem sc_factor_of : FnScope f_factor_of.N f_factor_of.ps (defScope (topS 98)) := ⟨rfl, rfl, rfl, by decide +kernel, rfl, by decide +kernel, by decide +kernel⟩
theorem tr_factor_of : trSs gt ⟨[], [], false, false, [], false, []⟩ f_factor_of.N 60 (defScope (topS 98)) (defScope (topS 98)) (defBody (topS 98)) = f_factor_of.body := by kernel_rfl
theorem sc_step_pair : FnScope f_step_pair.N f_step_pair.ps (defScope (topS 99)) := ⟨rfl, rfl, rfl, by decide +kernel, rfl, by decide +kernel, by decide +kernel⟩
theorem tr_step_pair : trSs gt ⟨[], [], false, false, [], false, []⟩ f_step_pair.N 60 (defScope (topS 99)) (defScope (topS 99)) (defBody (topS 99)) = f_step_pair.body := by kernel_rfl
theorem sc_frame_pairs : FnScope f_frame_pairs.N f_frame_pairs.ps (defScope (topS 101)) := ⟨rfl, rfl, rfl, by decide +kernel, rfl, by decide +kernel, by decide +kernel⟩
theorem tr_frame_pairs : trSs gt ⟨[], [], false, false, [], false, []⟩ f_frame_pairs.N 60 (defScope (topS 101)) (defScope (topS 101)) (defBody (topS 101)) = f_frame_pairs.body := by kernel_rfl
theorem sc_find_ladder : FnScope f_find_ladder.N f_find_ladder.ps (defScope (topS 102)) := ⟨rfl, rfl, rfl, by decide +kernel, rfl, by decide +kernel, by decide +kernel⟩
theorem tr_find_ladder : trSs gt ⟨[], [], false, false, [], false, []⟩ f_find_ladder.N 60 (defScope (topS 102)) (defScope (topS 102)) (defBody (topS 102)) = f_find_ladder.body := by kernel_rfl
theorem sc_number_of : FnScope f_number_of.N f_number_of.ps (defScope (topS 103)) := ⟨rfl, rfl, rfl, by decide +kernel, rfl, by decide +kernel, by decide +kernel⟩
theorem tr_number_of : trSs gt ⟨[], [], false, false, [], false, []⟩ f_number_of.N 60 (defScope (topS 103)) (defScope (topS 103)) (defBody (topS 103)) = f_number_of.body := by kernel_rfl
theorem sc_need_term : FnScope f_need_term.N f_need_term.ps (defScope (topS 104)) := ⟨rfl, rfl, rfl, by decide +kernel, rfl, by decide +kernel, by decide +kernel⟩
theorem tr_need_term : trSs gt ⟨[], [], false, false, [], false, []⟩ f_need_term.N 60 (defScope (topS 104)) (defScope (topS 104)) (defBody (topS 104)) = f_need_term.body := by kernel_rfl
theorem sc_ladder_of : FnScope f_ladder_of.N f_ladder_of.ps (defScope (topS 105)) := ⟨rfl, rfl, rfl, by decide +kernel, rfl, by decide +kernel, by decide +kernel⟩
theorem tr_ladder_of : trSs gt ⟨[], [], false, false, [], false, []⟩ f_ladder_of.N 60 (defScope (topS 105)) (defScope (topS 105)) (defBody (topS 105)) = f_ladder_of.body := by kernel_rfl
theorem sc_numbers : FnScope f_numbers.N f_numbers.ps (defScope (topS 106)) := ⟨rfl, rfl, rfl, by decide +kernel, rfl, by decide +kernel, by decide +kernel⟩
theorem tr_numbers : trSs gt ⟨[], [], false, false, [], false, []⟩ f_numbers.N 60 (defScope (topS 106)) (defScope (topS 106)) (defBody (topS 106)) = f_numbers.body := by kernel_rfl
theorem sc_mix_ladder : FnScope f_mix_ladder.N f_mix_ladder.ps (defScope (topS 107)) := ⟨rfl, rfl, rfl, by decide +kernel, rfl, by decide +kernel, by decide +kernel⟩
theorem tr_mix_ladder : trSs gt ⟨[], [], false, false, [], false, []⟩ f_mix_ladder.N 60 (defScope (topS 107)) (defScope (topS 107)) (defBody (topS 107)) = f_mix_ladder.body := by kernel_rfl
theorem sc_beneath : FnScope f_beneath.N f_beneath.ps (defScope (topS 109)) := ⟨rfl, rfl, rfl, by decide +kernel, rfl, by decide +kernel, by decide +kernel⟩
theorem tr_beneath : trSs gt ⟨[], [], false, false, [], false, []⟩ f_beneath.N 60 (defScope (topS 109)) (defScope (topS 109)) (defBody (topS 109)) = f_beneath.body := by kernel_rfl
theorem sc_follows : FnScope f_follows.N f_follows.ps (defScope (topS 110)) := ⟨rfl, rfl, rfl, by decide +kernel, rfl, by decide +kernel, by decide +kernel⟩
theorem tr_follows : trSs gt ⟨[], [], false, false, [], false, []⟩ f_follows.N 60 (defScope (topS 110)) (defScope (topS 110)) (defBody (topS 110)) = f_follows.body := by kernel_rfl
theorem sc_paper : FnScope f_paper.N f_paper.ps (defScope (topS 111)) := ⟨rfl, rfl, rfl, by decide +kernel, rfl, by decide +kernel, by decide +kernel⟩
theorem tr_paper : trSs gt ⟨[], [], false, false, [], false, []⟩ f_paper.N 60 (defScope (topS 111)) (defScope (topS 111)) (defBody (topS 111)) = f_paper.body := by kernel_rfl
theorem sc_is_right : FnScope f_is_right.N f_is_right.ps (defScope (topS 112)) := ⟨rfl, rfl, rfl, by decide +kernel, rfl, by decide +kernel, by decide +kernel⟩
theorem tr_is_right : trSs gt ⟨[2], [(447, [2])], false, false, [], false, []⟩ f_is_right.N 60 (defScope (topS 112)) (defScope (topS 112)) (defBody (topS 112)) = f_is_right.body := by kernel_rfl
theorem sc_is_paper : FnScope f_is_paper.N f_is_paper.ps (defScope (topS 113)) := ⟨rfl, rfl, rfl, by decide +kernel, rfl, by decide +kernel, by decide +kernel⟩
theorem tr_is_paper : trSs gt ⟨[], [], false, false, [], false, []⟩ f_is_paper.N 60 (defScope (topS 113)) (defScope (topS 113)) (defBody (topS 113)) = f_is_paper.body := by kernel_rfl
theorem sc_law : FnScope f_law.N f_law.ps (defScope (topS 115)) := ⟨rfl, rfl, rfl, by decide +kernel, rfl, by decide +kernel, by decide +kernel⟩
theorem tr_law : trSs gt ⟨[], [], false, false, [], false, []⟩ f_law.N 60 (defScope (topS 115)) (defScope (topS 115)) (defBody (topS 115)) = f_law.body := by kernel_rfl
end L_onenumber_k08_arguments_by_names

set_option Elab.async false
set_option linter.all false
set_option maxRecDepth 100000
set_option maxHeartbeats 4000000
namespace PD
theorem run_step {cl : Nat → List D → Hh → R D} {a b : Sx} {en en2 : En} {h h2 : Hh} (e : exec cl a en h = .nx en2 h2) : exec cl (.seq a b) en h = exec cl b en2 h2 := by
  rw [exec_seq]
  show thenS (exec cl a en h) (exec cl b) = _
  rw [e]
  rfl
theorem run_end {cl : Nat → List D → Hh → R D} {a b : Sx} {en : En} {h h2 : Hh} {d : D} (e : exec cl a en h = .rt d h2) : exec cl (.seq a b) en h = .rt d h2 := by
  rw [exec_seq]
  show thenS (exec cl a en h) (exec cl b) = _
  rw [e]
  rfl
end PD
namespace L_onenumber_k08_arguments_by_names
open PD PySem
def S_0 : Sx := (.asg (.tup (.cons (.name 1) (.cons (.name 2) (.cons (.name 3) .nil)))) (.tup (.cons (.tup (.cons (.tup (.cons (.con (.int 4)) (.cons (.con (.int 1)) .nil))) (.cons (.tup (.cons (.con (.int 1)) (.cons (.con (.int 2)) .nil))) .nil))) (.cons (.tup (.cons (.tup (.cons (.con (.int 1)) (.cons (.con (.int 1)) .nil))) (.cons (.tup (.cons (.con (.int 1)) (.cons (.con (.int 2)) .nil))) .nil))) (.cons (.tup (.cons (.con (.str "step")) (.cons (.tup (.cons (.con (.int 4)) (.cons (.con (.int 1)) .nil))) (.cons (.tup (.cons (.tup (.cons (.tup (.cons (.con (.int 1)) (.cons (.con (.int 2)) .nil))) (.cons (.tup (.cons (.con (.str "end")) .nil)) .nil))) .nil)) .nil)))) .nil)))))
def S_1 : Sx := (.ife (.cmp .NotEq (.lst (.cons (.callK 12 [1, 0] .nil (.cons (.tup (.cons (.con (.int 1)) (.cons (.con (.int 3)) .nil))) (.cons (.tup (.cons (.con (.int 1)) (.cons (.con (.int 2)) .nil))) .nil))) (.cons (.callK 13 [1, 0] .nil (.cons (.tup (.cons (.con (.int 1)) (.cons (.con (.int 3)) .nil))) (.cons (.tup (.cons (.con (.int 1)) (.cons (.con (.int 2)) .nil))) .nil))) .nil))) (.lst (.cons (.tup (.cons (.con (.int 5)) (.cons (.con (.int 6)) .nil))) (.cons (.tup (.cons (.con (.int 1)) (.cons (.con (.int 6)) .nil))) .nil)))) (.seq (.ret (.con (.bl false))) .skip) .skip)
def S_2 : Sx := (.ife (.cmp .NotEq (.lst (.cons (.callK 14 [1, 0] .nil (.cons (.tup (.cons (.con (.int 4)) (.cons (.con (.int 3)) .nil))) (.cons (.tup (.cons (.con (.int 1)) (.cons (.con (.int 2)) .nil))) .nil))) (.cons (.callK 15 [1, 0] .nil (.cons (.tup (.cons (.neg (.con (.int 3))) (.cons (.con (.int 4)) .nil))) (.cons (.tup (.cons (.con (.int 1)) (.cons (.con (.int 2)) .nil))) .nil))) .nil))) (.lst (.cons (.tup (.cons (.con (.int 2)) (.cons (.con (.int 3)) .nil))) (.cons (.tup (.cons (.neg (.con (.int 2))) (.cons (.con (.int 3)) .nil))) .nil)))) (.seq (.ret (.con (.bl false))) .skip) .skip)
def S_3 : Sx := (.ife (.cmp .NotEq (.lst (.cons (.callK 16 [1, 0] .nil (.cons (.tup (.cons (.con (.int 1)) (.cons (.con (.int 3)) .nil))) (.cons (.tup (.cons (.con (.int 1)) (.cons (.con (.int 2)) .nil))) .nil))) (.cons (.callK 11 [1, 0] .nil (.cons (.neg (.con (.int 4))) (.cons (.con (.int 2)) .nil))) .nil))) (.lst (.cons (.con (.int 1)) (.cons (.tup (.cons (.neg (.con (.int 1))) (.cons (.con (.int 2)) .nil))) .nil)))) (.seq (.ret (.con (.bl false))) .skip) .skip)
def S_4 : Sx := (.ife (.callK 3 [0] .nil (.cons (.tup (.cons (.con (.int 2)) (.cons (.con (.int 4)) .nil))) .nil)) (.seq (.ret (.con (.bl false))) .skip) .skip)
def S_5 : Sx := (.ife (.or (.not (.callK 22 [1, 0] .nil (.cons (.var 2) (.cons (.var 1) .nil)))) (.or (.callK 23 [1, 0] .nil (.cons (.var 2) (.cons (.var 1) .nil))) (.not (.callK 17 [0] .nil (.cons (.var 1) .nil))))) (.seq (.ret (.con (.bl false))) .skip) .skip)
def S_6 : Sx := (.ife (.or (.cmp .NotEq (.callK 24 [0] .nil (.cons (.lst (.cons (.var 1) (.cons (.var 2) .nil))) .nil)) (.tup (.cons (.tup (.cons (.con (.int 5)) (.cons (.con (.int 1)) .nil))) (.cons (.tup (.cons (.con (.int 1)) (.cons (.con (.int 1)) .nil))) .nil)))) (.cmp .NotEq (.callK 25 [1, 0] .nil (.cons (.tup (.cons (.con (.int 2)) (.cons (.con (.int 1)) .nil))) (.cons (.var 2) .nil))) (.tup (.cons (.tup (.cons (.con (.int 2)) (.cons (.con (.int 1)) .nil))) (.cons (.tup (.cons (.con (.int 1)) (.cons (.con (.int 1)) .nil))) .nil))))) (.seq (.ret (.con (.bl false))) .skip) .skip)
def S_7 : Sx := (.ife (.or (.not (.callK 37 [1, 0] .nil (.cons (.callK 36 [0] .nil (.cons (.lst (.cons (.var 1) .nil)) .nil)) (.cons (.lst (.cons (.var 1) .nil)) .nil)))) (.cmp .IsNot (.callK 38 [0] .nil (.cons (.lst (.cons (.var 1) .nil)) .nil)) (.con .non))) (.seq (.ret (.con (.bl false))) .skip) .skip)
def S_8 : Sx := (.ife (.or (.callK 40 [1, 0] .nil (.cons (.tup (.cons (.tup (.cons (.con (.int 0)) (.cons (.tup (.cons (.con (.int 1)) (.cons (.con (.int 1)) .nil))) .nil))) .nil)) (.cons (.lst (.cons (.var 1) .nil)) .nil))) (.not (.callK 43 [0] .nil (.cons (.tup (.cons (.var 1) (.cons (.var 2) .nil))) .nil)))) (.seq (.ret (.con (.bl false))) .skip) .skip)
def S_9 : Sx := (.ife (.or (.cmp .NotEq (.callK 47 [0] .nil (.cons (.tup (.cons (.var 1) .nil)) .nil)) (.tup (.cons (.con (.int 4)) (.cons (.con (.int 1)) .nil)))) (.or (.cmp .NotEq (.callK 48 [0] .nil (.cons (.tup (.cons (.var 1) .nil)) .nil)) (.lst (.cons (.tup (.cons (.con (.int 1)) (.cons (.con (.int 2)) .nil))) .nil))) (.cmp .NotEq (.callK 49 [0] .nil (.cons (.tup (.cons (.var 1) .nil)) .nil)) (.var 3)))) (.seq (.ret (.con (.bl false))) .skip) .skip)
def S_10 : Sx := (.ife (.or (.not (.callK 50 [0] .nil (.cons (.lst (.cons (.tup (.cons (.var 1) .nil)) (.cons (.tup (.cons (.var 2) .nil)) .nil))) .nil))) (.cmp .NotEq (.callK 57 [0] .nil (.cons (.lst (.cons (.var 2) (.cons (.var 1) .nil))) .nil)) (.tup (.cons (.var 1) (.cons (.var 2) .nil))))) (.seq (.ret (.con (.bl false))) .skip) .skip)
def S_11 : Sx := (.ife (.or (.cmp .NotEq (.callK 58 [1, 0] .nil (.cons (.lst (.cons (.var 1) .nil)) (.cons (.var 2) .nil))) (.tup (.cons (.tup (.cons (.tup (.cons (.con (.int 5)) (.cons (.con (.int 1)) .nil))) (.cons (.tup (.cons (.con (.int 1)) (.cons (.con (.int 1)) .nil))) .nil))) .nil))) (.cmp .NotEq (.callK 59 [0] .nil (.cons (.lst (.cons (.tup (.cons (.var 1) .nil)) .nil)) .nil)) (.tup (.cons (.var 1) .nil)))) (.seq (.ret (.con (.bl false))) .skip) .skip)
def S_12 : Sx := (.ife (.or (.cmp .NotEq (.callK 61 [0] .nil (.cons (.lst (.cons (.tup (.cons (.tup (.cons (.con (.int 1)) (.cons (.con (.int 1)) .nil))) (.cons (.tup (.cons (.var 1) .nil)) .nil))) .nil)) .nil)) (.tup (.cons (.var 1) .nil))) (.cmp .NotEq (.callK 75 [0] .nil (.cons (.var 3) .nil)) (.tup (.cons (.var 1) .nil)))) (.seq (.ret (.con (.bl false))) .skip) .skip)
def S_13 : Sx := (.ife (.or (.cmp .NotEq (.callK 76 [0] .nil (.cons (.var 3) .nil)) (.lst (.cons (.var 1) .nil))) (.cmp .NotEq (.callK 77 [0] .nil (.cons (.tup (.cons (.var 3) .nil)) .nil)) (.tup (.cons (.var 1) .nil)))) (.seq (.ret (.con (.bl false))) .skip) .skip)
def S_14 : Sx := (.ret (.and (.cmp .Eq (.callK 80 [0] .nil (.cons (.var 3) .nil)) (.lst (.cons (.tup (.cons (.var 1) .nil)) (.cons (.tup .nil) .nil)))) (.cmp .Is (.callK 82 [1, 0] .nil (.cons (.lst (.cons (.tup (.cons (.var 1) .nil)) (.cons (.tup .nil) .nil))) (.cons (.var 3) .nil))) (.con (.bl true)))))
def B_15 : Sx := .skip
def B_14 : Sx := .seq S_14 B_15
def B_13 : Sx := .seq S_13 B_14
def B_12 : Sx := .seq S_12 B_13
def B_11 : Sx := .seq S_11 B_12
def B_10 : Sx := .seq S_10 B_11
def B_9 : Sx := .seq S_9 B_10
def B_8 : Sx := .seq S_8 B_9
def B_7 : Sx := .seq S_7 B_8
def B_6 : Sx := .seq S_6 B_7
def B_5 : Sx := .seq S_5 B_6
def B_4 : Sx := .seq S_4 B_5
def B_3 : Sx := .seq S_3 B_4
def B_2 : Sx := .seq S_2 B_3
def B_1 : Sx := .seq S_1 B_2
def B_0 : Sx := .seq S_0 B_1
def H_0 : Hh := []
abbrev E_0 (ns : List Int) : En := [some (.scr ns), none, none, none]
def C_0 : Hh := []
def H_1 : Hh := C_0
abbrev E_1 (ns : List Int) : En := [some (.scr ns), some (.tup [(.tup [(.int 4), (.int 1)]), (.tup [(.int 1), (.int 2)])]), some (.tup [(.tup [(.int 1), (.int 1)]), (.tup [(.int 1), (.int 2)])]), some (.tup [(.str "step"), (.tup [(.int 4), (.int 1)]), (.tup [(.tup [(.tup [(.int 1), (.int 2)]), (.tup [(.str "end")])])])])]
theorem s_0 (ns : List Int) : PD.exec (callF fs 39) S_0 (E_0 ns) H_0 = .nx (E_1 ns) H_1 := by kernel_rfl
def C_1 : Hh := []
def H_2 : Hh := C_0 ++ (C_1)
abbrev E_2 (ns : List Int) : En := [some (.scr ns), some (.tup [(.tup [(.int 4), (.int 1)]), (.tup [(.int 1), (.int 2)])]), some (.tup [(.tup [(.int 1), (.int 1)]), (.tup [(.int 1), (.int 2)])]), some (.tup [(.str "step"), (.tup [(.int 4), (.int 1)]), (.tup [(.tup [(.tup [(.int 1), (.int 2)]), (.tup [(.str "end")])])])])]
theorem s_1 (ns : List Int) : PD.exec (callF fs 39) S_1 (E_1 ns) H_1 = .nx (E_2 ns) H_2 := by kernel_rfl
def C_2 : Hh := []
def H_3 : Hh := C_0 ++ (C_1 ++ (C_2))
abbrev E_3 (ns : List Int) : En := [some (.scr ns), some (.tup [(.tup [(.int 4), (.int 1)]), (.tup [(.int 1), (.int 2)])]), some (.tup [(.tup [(.int 1), (.int 1)]), (.tup [(.int 1), (.int 2)])]), some (.tup [(.str "step"), (.tup [(.int 4), (.int 1)]), (.tup [(.tup [(.tup [(.int 1), (.int 2)]), (.tup [(.str "end")])])])])]
theorem s_2 (ns : List Int) : PD.exec (callF fs 39) S_2 (E_2 ns) H_2 = .nx (E_3 ns) H_3 := by kernel_rfl
def C_3 : Hh := []
def H_4 : Hh := C_0 ++ (C_1 ++ (C_2 ++ (C_3)))
abbrev E_4 (ns : List Int) : En := [some (.scr ns), some (.tup [(.tup [(.int 4), (.int 1)]), (.tup [(.int 1), (.int 2)])]), some (.tup [(.tup [(.int 1), (.int 1)]), (.tup [(.int 1), (.int 2)])]), some (.tup [(.str "step"), (.tup [(.int 4), (.int 1)]), (.tup [(.tup [(.tup [(.int 1), (.int 2)]), (.tup [(.str "end")])])])])]
theorem s_3 (ns : List Int) : PD.exec (callF fs 39) S_3 (E_3 ns) H_3 = .nx (E_4 ns) H_4 := by kernel_rfl
def C_4 : Hh := []
def H_5 : Hh := C_0 ++ (C_1 ++ (C_2 ++ (C_3 ++ (C_4))))
abbrev E_5 (ns : List Int) : En := [some (.scr ns), some (.tup [(.tup [(.int 4), (.int 1)]), (.tup [(.int 1), (.int 2)])]), some (.tup [(.tup [(.int 1), (.int 1)]), (.tup [(.int 1), (.int 2)])]), some (.tup [(.str "step"), (.tup [(.int 4), (.int 1)]), (.tup [(.tup [(.tup [(.int 1), (.int 2)]), (.tup [(.str "end")])])])])]
theorem s_4 (ns : List Int) : PD.exec (callF fs 39) S_4 (E_4 ns) H_4 = .nx (E_5 ns) H_5 := by kernel_rfl
def C_5 : Hh := []
def H_6 : Hh := C_0 ++ (C_1 ++ (C_2 ++ (C_3 ++ (C_4 ++ (C_5)))))
abbrev E_6 (ns : List Int) : En := [some (.scr ns), some (.tup [(.tup [(.int 4), (.int 1)]), (.tup [(.int 1), (.int 2)])]), some (.tup [(.tup [(.int 1), (.int 1)]), (.tup [(.int 1), (.int 2)])]), some (.tup [(.str "step"), (.tup [(.int 4), (.int 1)]), (.tup [(.tup [(.tup [(.int 1), (.int 2)]), (.tup [(.str "end")])])])])]
theorem s_5 (ns : List Int) : PD.exec (callF fs 39) S_5 (E_5 ns) H_5 = .nx (E_6 ns) H_6 := by kernel_rfl
def C_6 : Hh := []
def H_7 : Hh := C_0 ++ (C_1 ++ (C_2 ++ (C_3 ++ (C_4 ++ (C_5 ++ (C_6))))))
abbrev E_7 (ns : List Int) : En := [some (.scr ns), some (.tup [(.tup [(.int 4), (.int 1)]), (.tup [(.int 1), (.int 2)])]), some (.tup [(.tup [(.int 1), (.int 1)]), (.tup [(.int 1), (.int 2)])]), some (.tup [(.str "step"), (.tup [(.int 4), (.int 1)]), (.tup [(.tup [(.tup [(.int 1), (.int 2)]), (.tup [(.str "end")])])])])]
theorem s_6 (ns : List Int) : PD.exec (callF fs 39) S_6 (E_6 ns) H_6 = .nx (E_7 ns) H_7 := by kernel_rfl
def C_7 : Hh := []
def H_8 : Hh := C_0 ++ (C_1 ++ (C_2 ++ (C_3 ++ (C_4 ++ (C_5 ++ (C_6 ++ (C_7)))))))
abbrev E_8 (ns : List Int) : En := [some (.scr ns), some (.tup [(.tup [(.int 4), (.int 1)]), (.tup [(.int 1), (.int 2)])]), some (.tup [(.tup [(.int 1), (.int 1)]), (.tup [(.int 1), (.int 2)])]), some (.tup [(.str "step"), (.tup [(.int 4), (.int 1)]), (.tup [(.tup [(.tup [(.int 1), (.int 2)]), (.tup [(.str "end")])])])])]
theorem s_7 (ns : List Int) : PD.exec (callF fs 39) S_7 (E_7 ns) H_7 = .nx (E_8 ns) H_8 := by kernel_rfl
def C_8 : Hh := []
def H_9 : Hh := C_0 ++ (C_1 ++ (C_2 ++ (C_3 ++ (C_4 ++ (C_5 ++ (C_6 ++ (C_7 ++ (C_8))))))))
abbrev E_9 (ns : List Int) : En := [some (.scr ns), some (.tup [(.tup [(.int 4), (.int 1)]), (.tup [(.int 1), (.int 2)])]), some (.tup [(.tup [(.int 1), (.int 1)]), (.tup [(.int 1), (.int 2)])]), some (.tup [(.str "step"), (.tup [(.int 4), (.int 1)]), (.tup [(.tup [(.tup [(.int 1), (.int 2)]), (.tup [(.str "end")])])])])]
theorem s_8 (ns : List Int) : PD.exec (callF fs 39) S_8 (E_8 ns) H_8 = .nx (E_9 ns) H_9 := by kernel_rfl
def C_9 : Hh := []
def H_10 : Hh := C_0 ++ (C_1 ++ (C_2 ++ (C_3 ++ (C_4 ++ (C_5 ++ (C_6 ++ (C_7 ++ (C_8 ++ (C_9)))))))))
abbrev E_10 (ns : List Int) : En := [some (.scr ns), some (.tup [(.tup [(.int 4), (.int 1)]), (.tup [(.int 1), (.int 2)])]), some (.tup [(.tup [(.int 1), (.int 1)]), (.tup [(.int 1), (.int 2)])]), some (.tup [(.str "step"), (.tup [(.int 4), (.int 1)]), (.tup [(.tup [(.tup [(.int 1), (.int 2)]), (.tup [(.str "end")])])])])]
theorem s_9 (ns : List Int) : PD.exec (callF fs 39) S_9 (E_9 ns) H_9 = .nx (E_10 ns) H_10 := by kernel_rfl
def C_10 : Hh := []
def H_11 : Hh := C_0 ++ (C_1 ++ (C_2 ++ (C_3 ++ (C_4 ++ (C_5 ++ (C_6 ++ (C_7 ++ (C_8 ++ (C_9 ++ (C_10))))))))))
abbrev E_11 (ns : List Int) : En := [some (.scr ns), some (.tup [(.tup [(.int 4), (.int 1)]), (.tup [(.int 1), (.int 2)])]), some (.tup [(.tup [(.int 1), (.int 1)]), (.tup [(.int 1), (.int 2)])]), some (.tup [(.str "step"), (.tup [(.int 4), (.int 1)]), (.tup [(.tup [(.tup [(.int 1), (.int 2)]), (.tup [(.str "end")])])])])]
theorem s_10 (ns : List Int) : PD.exec (callF fs 39) S_10 (E_10 ns) H_10 = .nx (E_11 ns) H_11 := by kernel_rfl
def C_11 : Hh := [.lst [], .lst [], .lst [(.tup [(.int 1), (.int 2)])]]
def H_12 : Hh := C_0 ++ (C_1 ++ (C_2 ++ (C_3 ++ (C_4 ++ (C_5 ++ (C_6 ++ (C_7 ++ (C_8 ++ (C_9 ++ (C_10 ++ (C_11)))))))))))
abbrev E_12 (ns : List Int) : En := [some (.scr ns), some (.tup [(.tup [(.int 4), (.int 1)]), (.tup [(.int 1), (.int 2)])]), some (.tup [(.tup [(.int 1), (.int 1)]), (.tup [(.int 1), (.int 2)])]), some (.tup [(.str "step"), (.tup [(.int 4), (.int 1)]), (.tup [(.tup [(.tup [(.int 1), (.int 2)]), (.tup [(.str "end")])])])])]
theorem s_11 (ns : List Int) : PD.exec (callF fs 39) S_11 (E_11 ns) H_11 = .nx (E_12 ns) H_12 := by kernel_rfl
def C_12 : Hh := [.lst []]
def H_13 : Hh := C_0 ++ (C_1 ++ (C_2 ++ (C_3 ++ (C_4 ++ (C_5 ++ (C_6 ++ (C_7 ++ (C_8 ++ (C_9 ++ (C_10 ++ (C_11 ++ (C_12))))))))))))
abbrev E_13 (ns : List Int) : En := [some (.scr ns), some (.tup [(.tup [(.int 4), (.int 1)]), (.tup [(.int 1), (.int 2)])]), some (.tup [(.tup [(.int 1), (.int 1)]), (.tup [(.int 1), (.int 2)])]), some (.tup [(.str "step"), (.tup [(.int 4), (.int 1)]), (.tup [(.tup [(.tup [(.int 1), (.int 2)]), (.tup [(.str "end")])])])])]
theorem s_12 (ns : List Int) : PD.exec (callF fs 39) S_12 (E_12 ns) H_12 = .nx (E_13 ns) H_13 := by kernel_rfl
def C_13 : Hh := [.lst [], .lst [], .lst [], .lst [(.tup [(.int 1), (.int 2)])]]
def H_14 : Hh := C_0 ++ (C_1 ++ (C_2 ++ (C_3 ++ (C_4 ++ (C_5 ++ (C_6 ++ (C_7 ++ (C_8 ++ (C_9 ++ (C_10 ++ (C_11 ++ (C_12 ++ (C_13)))))))))))))
abbrev E_14 (ns : List Int) : En := [some (.scr ns), some (.tup [(.tup [(.int 4), (.int 1)]), (.tup [(.int 1), (.int 2)])]), some (.tup [(.tup [(.int 1), (.int 1)]), (.tup [(.int 1), (.int 2)])]), some (.tup [(.str "step"), (.tup [(.int 4), (.int 1)]), (.tup [(.tup [(.tup [(.int 1), (.int 2)]), (.tup [(.str "end")])])])])]
theorem s_13 (ns : List Int) : PD.exec (callF fs 39) S_13 (E_13 ns) H_13 = .nx (E_14 ns) H_14 := by kernel_rfl
def C_14 : Hh := [.lst [], .lst []]
def H_15 : Hh := C_0 ++ (C_1 ++ (C_2 ++ (C_3 ++ (C_4 ++ (C_5 ++ (C_6 ++ (C_7 ++ (C_8 ++ (C_9 ++ (C_10 ++ (C_11 ++ (C_12 ++ (C_13 ++ (C_14))))))))))))))
theorem s_14 (ns : List Int) : PD.exec (callF fs 39) S_14 (E_14 ns) H_14 = .rt (.bl true) H_15 := by kernel_rfl
theorem law_ok (ns : List Int) {P Q : Prop} (h : P) (h2 : Q) : ∃ h', callF fs 40 83 [.scr ns] [] = .ok (.bl true) h' := by
  refine ⟨H_15, ?_⟩
  have e0 : callF fs 40 83 [.scr ns] [] = endOf false (PD.exec (callF fs 39) B_0 (E_0 ns) H_0) := by kernel_rfl
  have e1 : PD.exec (callF fs 39) B_0 (E_0 ns) H_0 = .rt (.bl true) H_15 := (run_step (s_0 ns)).trans ((run_step (s_1 ns)).trans ((run_step (s_2 ns)).trans ((run_step (s_3 ns)).trans ((run_step (s_4 ns)).trans ((run_step (s_5 ns)).trans ((run_step (s_6 ns)).trans ((run_step (s_7 ns)).trans ((run_step (s_8 ns)).trans ((run_step (s_9 ns)).trans ((run_step (s_10 ns)).trans ((run_step (s_11 ns)).trans ((run_step (s_12 ns)).trans ((run_step (s_13 ns)).trans (run_end (s_14 ns)))))))))))))))
  rw [e0, e1]
  rfl
end L_onenumber_k08_arguments_by_names

namespace L_onenumber_k08_arguments_by_names
open PD PySem PySem.Spec PyProof.Rows L2
set_option maxHeartbeats 8000000 in
theorem all_mk {P : Program} {w : World} {K : PySem.W.Frag} {h : Heap} {mg : Str → Option Value} {fa : Addr} (X : K.In h) (G : h.Ns mainGlobals mg) (hfa : mg "law" = some (.ref fa))
    {f0 : Addr} {od0 an0 : Option Addr} {sl0 : Array (Option Value)} {oc0 kV0 dc0 pm0 cd0 ct0 : Value}
    {f1 : Addr} {od1 an1 : Option Addr} {sl1 : Array (Option Value)} {oc1 kV1 dc1 pm1 cd1 ct1 : Value}
    {f2 : Addr} {od2 an2 : Option Addr} {sl2 : Array (Option Value)} {oc2 kV2 dc2 pm2 cd2 ct2 : Value}
    {f3 : Addr} {od3 an3 : Option Addr} {sl3 : Array (Option Value)} {oc3 kV3 dc3 pm3 cd3 ct3 : Value}
    {f4 : Addr} {od4 an4 : Option Addr} {sl4 : Array (Option Value)} {oc4 kV4 dc4 pm4 cd4 ct4 : Value}
    {f5 : Addr} {od5 an5 : Option Addr} {sl5 : Array (Option Value)} {oc5 kV5 dc5 pm5 cd5 ct5 : Value}
    {f6 : Addr} {od6 an6 : Option Addr} {sl6 : Array (Option Value)} {oc6 kV6 dc6 pm6 cd6 ct6 : Value}
    {f7 : Addr} {od7 an7 : Option Addr} {sl7 : Array (Option Value)} {oc7 kV7 dc7 pm7 cd7 ct7 : Value}
    {f8 : Addr} {od8 an8 : Option Addr} {sl8 : Array (Option Value)} {oc8 kV8 dc8 pm8 cd8 ct8 : Value}
    {f9 : Addr} {od9 an9 : Option Addr} {sl9 : Array (Option Value)} {oc9 kV9 dc9 pm9 cd9 ct9 : Value}
    {f10 : Addr} {od10 an10 : Option Addr} {sl10 : Array (Option Value)} {oc10 kV10 dc10 pm10 cd10 ct10 : Value}
    {f11 : Addr} {od11 an11 : Option Addr} {sl11 : Array (Option Value)} {oc11 kV11 dc11 pm11 cd11 ct11 : Value}
    {f12 : Addr} {od12 an12 : Option Addr} {sl12 : Array (Option Value)} {oc12 kV12 dc12 pm12 cd12 ct12 : Value}
    {f13 : Addr} {od13 an13 : Option Addr} {sl13 : Array (Option Value)} {oc13 kV13 dc13 pm13 cd13 ct13 : Value}
    {f14 : Addr} {od14 an14 : Option Addr} {sl14 : Array (Option Value)} {oc14 kV14 dc14 pm14 cd14 ct14 : Value}
    {f15 : Addr} {od15 an15 : Option Addr} {sl15 : Array (Option Value)} {oc15 kV15 dc15 pm15 cd15 ct15 : Value}
    {f16 : Addr} {od16 an16 : Option Addr} {sl16 : Array (Option Value)} {oc16 kV16 dc16 pm16 cd16 ct16 : Value}
    {f17 : Addr} {od17 an17 : Option Addr} {sl17 : Array (Option Value)} {oc17 kV17 dc17 pm17 cd17 ct17 : Value}
    {f18 : Addr} {od18 an18 : Option Addr} {sl18 : Array (Option Value)} {oc18 kV18 dc18 pm18 cd18 ct18 : Value}
    {f19 : Addr} {od19 an19 : Option Addr} {sl19 : Array (Option Value)} {oc19 kV19 dc19 pm19 cd19 ct19 : Value}
    {f20 : Addr} {od20 an20 : Option Addr} {sl20 : Array (Option Value)} {oc20 kV20 dc20 pm20 cd20 ct20 : Value}
    {f21 : Addr} {od21 an21 : Option Addr} {sl21 : Array (Option Value)} {oc21 kV21 dc21 pm21 cd21 ct21 : Value}
    {f22 : Addr} {od22 an22 : Option Addr} {sl22 : Array (Option Value)} {oc22 kV22 dc22 pm22 cd22 ct22 : Value}
    {f23 : Addr} {od23 an23 : Option Addr} {sl23 : Array (Option Value)} {oc23 kV23 dc23 pm23 cd23 ct23 : Value}
    {f24 : Addr} {od24 an24 : Option Addr} {sl24 : Array (Option Value)} {oc24 kV24 dc24 pm24 cd24 ct24 : Value}
    {f25 : Addr} {od25 an25 : Option Addr} {sl25 : Array (Option Value)} {oc25 kV25 dc25 pm25 cd25 ct25 : Value}
    {f26 : Addr} {od26 an26 : Option Addr} {sl26 : Array (Option Value)} {oc26 kV26 dc26 pm26 cd26 ct26 : Value}
    {f27 : Addr} {od27 an27 : Option Addr} {sl27 : Array (Option Value)} {oc27 kV27 dc27 pm27 cd27 ct27 : Value}
    {f28 : Addr} {od28 an28 : Option Addr} {sl28 : Array (Option Value)} {oc28 kV28 dc28 pm28 cd28 ct28 : Value}
    {f29 : Addr} {od29 an29 : Option Addr} {sl29 : Array (Option Value)} {oc29 kV29 dc29 pm29 cd29 ct29 : Value}
    {f30 : Addr} {od30 an30 : Option Addr} {sl30 : Array (Option Value)} {oc30 kV30 dc30 pm30 cd30 ct30 : Value}
    {f31 : Addr} {od31 an31 : Option Addr} {sl31 : Array (Option Value)} {oc31 kV31 dc31 pm31 cd31 ct31 : Value}
    {f32 : Addr} {od32 an32 : Option Addr} {sl32 : Array (Option Value)} {oc32 kV32 dc32 pm32 cd32 ct32 : Value}
    {f33 : Addr} {od33 an33 : Option Addr} {sl33 : Array (Option Value)} {oc33 kV33 dc33 pm33 cd33 ct33 : Value}
    {f34 : Addr} {od34 an34 : Option Addr} {sl34 : Array (Option Value)} {oc34 kV34 dc34 pm34 cd34 ct34 : Value}
    {f35 : Addr} {od35 an35 : Option Addr} {sl35 : Array (Option Value)} {oc35 kV35 dc35 pm35 cd35 ct35 : Value}
    {f36 : Addr} {od36 an36 : Option Addr} {sl36 : Array (Option Value)} {oc36 kV36 dc36 pm36 cd36 ct36 : Value}
    {f37 : Addr} {od37 an37 : Option Addr} {sl37 : Array (Option Value)} {oc37 kV37 dc37 pm37 cd37 ct37 : Value}
    {f38 : Addr} {od38 an38 : Option Addr} {sl38 : Array (Option Value)} {oc38 kV38 dc38 pm38 cd38 ct38 : Value}
    {f39 : Addr} {od39 an39 : Option Addr} {sl39 : Array (Option Value)} {oc39 kV39 dc39 pm39 cd39 ct39 : Value}
    {f40 : Addr} {od40 an40 : Option Addr} {sl40 : Array (Option Value)} {oc40 kV40 dc40 pm40 cd40 ct40 : Value}
    {f41 : Addr} {od41 an41 : Option Addr} {sl41 : Array (Option Value)} {oc41 kV41 dc41 pm41 cd41 ct41 : Value}
    {f42 : Addr} {od42 an42 : Option Addr} {sl42 : Array (Option Value)} {oc42 kV42 dc42 pm42 cd42 ct42 : Value}
    {f43 : Addr} {od43 an43 : Option Addr} {sl43 : Array (Option Value)} {oc43 kV43 dc43 pm43 cd43 ct43 : Value}
    {f44 : Addr} {od44 an44 : Option Addr} {sl44 : Array (Option Value)} {oc44 kV44 dc44 pm44 cd44 ct44 : Value}
    {f45 : Addr} {od45 an45 : Option Addr} {sl45 : Array (Option Value)} {oc45 kV45 dc45 pm45 cd45 ct45 : Value}
    {f46 : Addr} {od46 an46 : Option Addr} {sl46 : Array (Option Value)} {oc46 kV46 dc46 pm46 cd46 ct46 : Value}
    {f47 : Addr} {od47 an47 : Option Addr} {sl47 : Array (Option Value)} {oc47 kV47 dc47 pm47 cd47 ct47 : Value}
    {f48 : Addr} {od48 an48 : Option Addr} {sl48 : Array (Option Value)} {oc48 kV48 dc48 pm48 cd48 ct48 : Value}
    {f49 : Addr} {od49 an49 : Option Addr} {sl49 : Array (Option Value)} {oc49 kV49 dc49 pm49 cd49 ct49 : Value}
    {f50 : Addr} {od50 an50 : Option Addr} {sl50 : Array (Option Value)} {oc50 kV50 dc50 pm50 cd50 ct50 : Value}
    {f51 : Addr} {od51 an51 : Option Addr} {sl51 : Array (Option Value)} {oc51 kV51 dc51 pm51 cd51 ct51 : Value}
    {f52 : Addr} {od52 an52 : Option Addr} {sl52 : Array (Option Value)} {oc52 kV52 dc52 pm52 cd52 ct52 : Value}
    {f53 : Addr} {od53 an53 : Option Addr} {sl53 : Array (Option Value)} {oc53 kV53 dc53 pm53 cd53 ct53 : Value}
    {f54 : Addr} {od54 an54 : Option Addr} {sl54 : Array (Option Value)} {oc54 kV54 dc54 pm54 cd54 ct54 : Value}
    {f55 : Addr} {od55 an55 : Option Addr} {sl55 : Array (Option Value)} {oc55 kV55 dc55 pm55 cd55 ct55 : Value}
    {f56 : Addr} {od56 an56 : Option Addr} {sl56 : Array (Option Value)} {oc56 kV56 dc56 pm56 cd56 ct56 : Value}
    {f57 : Addr} {od57 an57 : Option Addr} {sl57 : Array (Option Value)} {oc57 kV57 dc57 pm57 cd57 ct57 : Value}
    {f58 : Addr} {od58 an58 : Option Addr} {sl58 : Array (Option Value)} {oc58 kV58 dc58 pm58 cd58 ct58 : Value}
    {f59 : Addr} {od59 an59 : Option Addr} {sl59 : Array (Option Value)} {oc59 kV59 dc59 pm59 cd59 ct59 : Value}
    {f60 : Addr} {od60 an60 : Option Addr} {sl60 : Array (Option Value)} {oc60 kV60 dc60 pm60 cd60 ct60 : Value}
    {f61 : Addr} {od61 an61 : Option Addr} {sl61 : Array (Option Value)} {oc61 kV61 dc61 pm61 cd61 ct61 : Value}
    {f62 : Addr} {od62 an62 : Option Addr} {sl62 : Array (Option Value)} {oc62 kV62 dc62 pm62 cd62 ct62 : Value}
    {f63 : Addr} {od63 an63 : Option Addr} {sl63 : Array (Option Value)} {oc63 kV63 dc63 pm63 cd63 ct63 : Value}
    {f64 : Addr} {od64 an64 : Option Addr} {sl64 : Array (Option Value)} {oc64 kV64 dc64 pm64 cd64 ct64 : Value}
    {f65 : Addr} {od65 an65 : Option Addr} {sl65 : Array (Option Value)} {oc65 kV65 dc65 pm65 cd65 ct65 : Value}
    {f66 : Addr} {od66 an66 : Option Addr} {sl66 : Array (Option Value)} {oc66 kV66 dc66 pm66 cd66 ct66 : Value}
    {f67 : Addr} {od67 an67 : Option Addr} {sl67 : Array (Option Value)} {oc67 kV67 dc67 pm67 cd67 ct67 : Value}
    {f68 : Addr} {od68 an68 : Option Addr} {sl68 : Array (Option Value)} {oc68 kV68 dc68 pm68 cd68 ct68 : Value}
    {f69 : Addr} {od69 an69 : Option Addr} {sl69 : Array (Option Value)} {oc69 kV69 dc69 pm69 cd69 ct69 : Value}
    {f70 : Addr} {od70 an70 : Option Addr} {sl70 : Array (Option Value)} {oc70 kV70 dc70 pm70 cd70 ct70 : Value}
    {f71 : Addr} {od71 an71 : Option Addr} {sl71 : Array (Option Value)} {oc71 kV71 dc71 pm71 cd71 ct71 : Value}
    {f72 : Addr} {od72 an72 : Option Addr} {sl72 : Array (Option Value)} {oc72 kV72 dc72 pm72 cd72 ct72 : Value}
    {f73 : Addr} {od73 an73 : Option Addr} {sl73 : Array (Option Value)} {oc73 kV73 dc73 pm73 cd73 ct73 : Value}
    {f74 : Addr} {od74 an74 : Option Addr} {sl74 : Array (Option Value)} {oc74 kV74 dc74 pm74 cd74 ct74 : Value}
    {f75 : Addr} {od75 an75 : Option Addr} {sl75 : Array (Option Value)} {oc75 kV75 dc75 pm75 cd75 ct75 : Value}
    {f76 : Addr} {od76 an76 : Option Addr} {sl76 : Array (Option Value)} {oc76 kV76 dc76 pm76 cd76 ct76 : Value}
    {f77 : Addr} {od77 an77 : Option Addr} {sl77 : Array (Option Value)} {oc77 kV77 dc77 pm77 cd77 ct77 : Value}
    {f78 : Addr} {od78 an78 : Option Addr} {sl78 : Array (Option Value)} {oc78 kV78 dc78 pm78 cd78 ct78 : Value}
    {f79 : Addr} {od79 an79 : Option Addr} {sl79 : Array (Option Value)} {oc79 kV79 dc79 pm79 cd79 ct79 : Value}
    {f80 : Addr} {od80 an80 : Option Addr} {sl80 : Array (Option Value)} {oc80 kV80 dc80 pm80 cd80 ct80 : Value}
    {f81 : Addr} {od81 an81 : Option Addr} {sl81 : Array (Option Value)} {oc81 kV81 dc81 pm81 cd81 ct81 : Value}
    {f82 : Addr} {od82 an82 : Option Addr} {sl82 : Array (Option Value)} {oc82 kV82 dc82 pm82 cd82 ct82 : Value}
    {g0 : Addr}
    {t_g0_0 : Tok}
    {t_g0_1 : Tok}
    {dd_g0 : Option Addr} {nn_g0 : Nat} {ss_g0 : Array (Option Value)}
    {g1 : Addr}
    {t_g1_0 : Tok}
    {t_g1_1 : Tok}
    {dd_g1 : Option Addr} {nn_g1 : Nat} {ss_g1 : Array (Option Value)}
    {g2 : Addr}
    {g2_0 : Addr}
    {g2_1 : Addr}
    {dd_g2 : Option Addr} {nn_g2 : Nat} {ss_g2 : Array (Option Value)}
    {t_g2_0_0 : Tok}
    {t_g2_0_1 : Tok}
    {dd_g2_0 : Option Addr} {nn_g2_0 : Nat} {ss_g2_0 : Array (Option Value)}
    {t_g2_1_0 : Tok}
    {t_g2_1_1 : Tok}
    {dd_g2_1 : Option Addr} {nn_g2_1 : Nat} {ss_g2_1 : Array (Option Value)}
    {t_x3 : Tok}
    {t_x4 : Tok}
    {t_x5 : Tok}
    {t_x6 : Tok}
    {t_x7 : Tok}
    {t_x8 : Tok}
    {t_x9 : Tok}
    {t_x10 : Tok}
    {t_x11 : Tok}
    {E_MixError : Addr}
    {E_BadFraction : Addr}
    {E_BadPair : Addr}
    {E_BadPairs : Addr}
    {E_BadTerm : Addr}
    {E_BadMix : Addr}
    {E_BadLadder : Addr}
    {E_NoFrame : Addr}
    {E_TooMany : Addr}
    {FI_BadFraction eN_BadFraction : Addr} {en_BadFraction eq_BadFraction : Str} {ebs_BadFraction esub_BadFraction : List Value} {esn_BadFraction : List Str} {eab_BadFraction : Bool} {ecol_BadFraction : Option Bool} {edd_BadFraction eod_BadFraction ean_BadFraction : Option Addr} {em0_BadFraction em1_BadFraction em2_BadFraction em3_BadFraction em5_BadFraction : Option Value} {eoc_BadFraction edc_BadFraction epm_BadFraction ecd_BadFraction ect_BadFraction : Value} {eos_BadFraction : Array (Option Value)} {ep1_BadFraction ep2_BadFraction eq1_BadFraction eq2_BadFraction eq3_BadFraction eq4_BadFraction : Pos}
    {FI_BadPair eN_BadPair : Addr} {en_BadPair eq_BadPair : Str} {ebs_BadPair esub_BadPair : List Value} {esn_BadPair : List Str} {eab_BadPair : Bool} {ecol_BadPair : Option Bool} {edd_BadPair eod_BadPair ean_BadPair : Option Addr} {em0_BadPair em1_BadPair em2_BadPair em3_BadPair em5_BadPair : Option Value} {eoc_BadPair edc_BadPair epm_BadPair ecd_BadPair ect_BadPair : Value} {eos_BadPair : Array (Option Value)} {ep1_BadPair ep2_BadPair eq1_BadPair eq2_BadPair eq3_BadPair eq4_BadPair : Pos}
    {FI_BadPairs eN_BadPairs : Addr} {en_BadPairs eq_BadPairs : Str} {ebs_BadPairs esub_BadPairs : List Value} {esn_BadPairs : List Str} {eab_BadPairs : Bool} {ecol_BadPairs : Option Bool} {edd_BadPairs eod_BadPairs ean_BadPairs : Option Addr} {em0_BadPairs em1_BadPairs em2_BadPairs em3_BadPairs em5_BadPairs : Option Value} {eoc_BadPairs edc_BadPairs epm_BadPairs ecd_BadPairs ect_BadPairs : Value} {eos_BadPairs : Array (Option Value)} {ep1_BadPairs ep2_BadPairs eq1_BadPairs eq2_BadPairs eq3_BadPairs eq4_BadPairs : Pos}
    {FI_BadTerm eN_BadTerm : Addr} {en_BadTerm eq_BadTerm : Str} {ebs_BadTerm esub_BadTerm : List Value} {esn_BadTerm : List Str} {eab_BadTerm : Bool} {ecol_BadTerm : Option Bool} {edd_BadTerm eod_BadTerm ean_BadTerm : Option Addr} {em0_BadTerm em1_BadTerm em2_BadTerm em3_BadTerm em5_BadTerm : Option Value} {eoc_BadTerm edc_BadTerm epm_BadTerm ecd_BadTerm ect_BadTerm : Value} {eos_BadTerm : Array (Option Value)} {ep1_BadTerm ep2_BadTerm eq1_BadTerm eq2_BadTerm eq3_BadTerm eq4_BadTerm : Pos}
    {FI_BadMix eN_BadMix : Addr} {en_BadMix eq_BadMix : Str} {ebs_BadMix esub_BadMix : List Value} {esn_BadMix : List Str} {eab_BadMix : Bool} {ecol_BadMix : Option Bool} {edd_BadMix eod_BadMix ean_BadMix : Option Addr} {em0_BadMix em1_BadMix em2_BadMix em3_BadMix em5_BadMix : Option Value} {eoc_BadMix edc_BadMix epm_BadMix ecd_BadMix ect_BadMix : Value} {eos_BadMix : Array (Option Value)} {ep1_BadMix ep2_BadMix eq1_BadMix eq2_BadMix eq3_BadMix eq4_BadMix : Pos}
    {FI_BadLadder eN_BadLadder : Addr} {en_BadLadder eq_BadLadder : Str} {ebs_BadLadder esub_BadLadder : List Value} {esn_BadLadder : List Str} {eab_BadLadder : Bool} {ecol_BadLadder : Option Bool} {edd_BadLadder eod_BadLadder ean_BadLadder : Option Addr} {em0_BadLadder em1_BadLadder em2_BadLadder em3_BadLadder em5_BadLadder : Option Value} {eoc_BadLadder edc_BadLadder epm_BadLadder ecd_BadLadder ect_BadLadder : Value} {eos_BadLadder : Array (Option Value)} {ep1_BadLadder ep2_BadLadder eq1_BadLadder eq2_BadLadder eq3_BadLadder eq4_BadLadder : Pos}
    {FI_NoFrame eN_NoFrame : Addr} {en_NoFrame eq_NoFrame : Str} {ebs_NoFrame esub_NoFrame : List Value} {esn_NoFrame : List Str} {eab_NoFrame : Bool} {ecol_NoFrame : Option Bool} {edd_NoFrame eod_NoFrame ean_NoFrame : Option Addr} {em0_NoFrame em1_NoFrame em2_NoFrame em3_NoFrame em5_NoFrame : Option Value} {eoc_NoFrame edc_NoFrame epm_NoFrame ecd_NoFrame ect_NoFrame : Value} {eos_NoFrame : Array (Option Value)} {ep1_NoFrame ep2_NoFrame eq1_NoFrame eq2_NoFrame eq3_NoFrame eq4_NoFrame : Pos}
    {FI_TooMany eN_TooMany : Addr} {en_TooMany eq_TooMany : Str} {ebs_TooMany esub_TooMany : List Value} {esn_TooMany : List Str} {eab_TooMany : Bool} {ecol_TooMany : Option Bool} {edd_TooMany eod_TooMany ean_TooMany : Option Addr} {em0_TooMany em1_TooMany em2_TooMany em3_TooMany em5_TooMany : Option Value} {eoc_TooMany edc_TooMany epm_TooMany ecd_TooMany ect_TooMany : Value} {eos_TooMany : Array (Option Value)} {ep1_TooMany ep2_TooMany eq1_TooMany eq2_TooMany eq3_TooMany eq4_TooMany : Pos}
    (a0 : PySem.W.nsIn K mainGlobals "is_integer" = some (some (.ref f0))) (l0 : K.lookup f0 = some ⟨oc0, od0, .func (PySem.W.fnOf "is_integer" "is_integer" (defArgs (topS 13)) (defBody (topS 13)) (defScope (topS 13)) .none kV0 dc0 pm0 an0 cd0 ct0), sl0⟩) (c0 : PySem.W.codeIn K cd0 "is_integer" = true) (k0 : PySem.W.keepIn K (.ref f0) = true)
    (a1 : PySem.W.nsIn K mainGlobals "divisor_of" = some (some (.ref f1))) (l1 : K.lookup f1 = some ⟨oc1, od1, .func (PySem.W.fnOf "divisor_of" "divisor_of" (defArgs (topS 14)) (defBody (topS 14)) (defScope (topS 14)) .none kV1 dc1 pm1 an1 cd1 ct1), sl1⟩) (c1 : PySem.W.codeIn K cd1 "divisor_of" = true) (k1 : PySem.W.keepIn K (.ref f1) = true)
    (a2 : PySem.W.nsIn K mainGlobals "is_fraction" = some (some (.ref f2))) (l2 : K.lookup f2 = some ⟨oc2, od2, .func (PySem.W.fnOf "is_fraction" "is_fraction" (defArgs (topS 15)) (defBody (topS 15)) (defScope (topS 15)) .none kV2 dc2 pm2 an2 cd2 ct2), sl2⟩) (c2 : PySem.W.codeIn K cd2 "is_fraction" = true) (k2 : PySem.W.keepIn K (.ref f2) = true)
    (a3 : PySem.W.nsIn K mainGlobals "lowest" = some (some (.ref f3))) (l3 : K.lookup f3 = some ⟨oc3, od3, .func (PySem.W.fnOf "lowest" "lowest" (defArgs (topS 16)) (defBody (topS 16)) (defScope (topS 16)) .none kV3 dc3 pm3 an3 cd3 ct3), sl3⟩) (c3 : PySem.W.codeIn K cd3 "lowest" = true) (k3 : PySem.W.keepIn K (.ref f3) = true)
    (a4 : PySem.W.nsIn K mainGlobals "add" = some (some (.ref f4))) (l4 : K.lookup f4 = some ⟨oc4, od4, .func (PySem.W.fnOf "add" "add" (defArgs (topS 17)) (defBody (topS 17)) (defScope (topS 17)) .none kV4 dc4 pm4 an4 cd4 ct4), sl4⟩) (c4 : PySem.W.codeIn K cd4 "add" = true) (k4 : PySem.W.keepIn K (.ref f4) = true)
    (a5 : PySem.W.nsIn K mainGlobals "less" = some (some (.ref f5))) (l5 : K.lookup f5 = some ⟨oc5, od5, .func (PySem.W.fnOf "less" "less" (defArgs (topS 18)) (defBody (topS 18)) (defScope (topS 18)) .none kV5 dc5 pm5 an5 cd5 ct5), sl5⟩) (c5 : PySem.W.codeIn K cd5 "less" = true) (k5 : PySem.W.keepIn K (.ref f5) = true)
    (a6 : PySem.W.nsIn K mainGlobals "mul" = some (some (.ref f6))) (l6 : K.lookup f6 = some ⟨oc6, od6, .func (PySem.W.fnOf "mul" "mul" (defArgs (topS 19)) (defBody (topS 19)) (defScope (topS 19)) .none kV6 dc6 pm6 an6 cd6 ct6), sl6⟩) (c6 : PySem.W.codeIn K cd6 "mul" = true) (k6 : PySem.W.keepIn K (.ref f6) = true)
    (a7 : PySem.W.nsIn K mainGlobals "div" = some (some (.ref f7))) (l7 : K.lookup f7 = some ⟨oc7, od7, .func (PySem.W.fnOf "div" "div" (defArgs (topS 20)) (defBody (topS 20)) (defScope (topS 20)) .none kV7 dc7 pm7 an7 cd7 ct7), sl7⟩) (c7 : PySem.W.codeIn K cd7 "div" = true) (k7 : PySem.W.keepIn K (.ref f7) = true)
    (a8 : PySem.W.nsIn K mainGlobals "order_of" = some (some (.ref f8))) (l8 : K.lookup f8 = some ⟨oc8, od8, .func (PySem.W.fnOf "order_of" "order_of" (defArgs (topS 21)) (defBody (topS 21)) (defScope (topS 21)) .none kV8 dc8 pm8 an8 cd8 ct8), sl8⟩) (c8 : PySem.W.codeIn K cd8 "order_of" = true) (k8 : PySem.W.keepIn K (.ref f8) = true)
    (a9 : PySem.W.nsIn K mainGlobals "need_fractions" = some (some (.ref f9))) (l9 : K.lookup f9 = some ⟨oc9, od9, .func (PySem.W.fnOf "need_fractions" "need_fractions" (defArgs (topS 22)) (defBody (topS 22)) (defScope (topS 22)) .none kV9 dc9 pm9 an9 cd9 ct9), sl9⟩) (c9 : PySem.W.codeIn K cd9 "need_fractions" = true) (k9 : PySem.W.keepIn K (.ref f9) = true)
    (a10 : PySem.W.nsIn K mainGlobals "fraction" = some (some (.ref f10))) (l10 : K.lookup f10 = some ⟨oc10, od10, .func (PySem.W.fnOf "fraction" "fraction" (defArgs (topS 23)) (defBody (topS 23)) (defScope (topS 23)) .none kV10 dc10 pm10 an10 cd10 ct10), sl10⟩) (c10 : PySem.W.codeIn K cd10 "fraction" = true) (k10 : PySem.W.keepIn K (.ref f10) = true)
    (a11 : PySem.W.nsIn K mainGlobals "plus" = some (some (.ref f11))) (l11 : K.lookup f11 = some ⟨oc11, od11, .func (PySem.W.fnOf "plus" "plus" (defArgs (topS 24)) (defBody (topS 24)) (defScope (topS 24)) .none kV11 dc11 pm11 an11 cd11 ct11), sl11⟩) (c11 : PySem.W.codeIn K cd11 "plus" = true) (k11 : PySem.W.keepIn K (.ref f11) = true)
    (a12 : PySem.W.nsIn K mainGlobals "minus" = some (some (.ref f12))) (l12 : K.lookup f12 = some ⟨oc12, od12, .func (PySem.W.fnOf "minus" "minus" (defArgs (topS 25)) (defBody (topS 25)) (defScope (topS 25)) .none kV12 dc12 pm12 an12 cd12 ct12), sl12⟩) (c12 : PySem.W.codeIn K cd12 "minus" = true) (k12 : PySem.W.keepIn K (.ref f12) = true)
    (a13 : PySem.W.nsIn K mainGlobals "times" = some (some (.ref f13))) (l13 : K.lookup f13 = some ⟨oc13, od13, .func (PySem.W.fnOf "times" "times" (defArgs (topS 26)) (defBody (topS 26)) (defScope (topS 26)) .none kV13 dc13 pm13 an13 cd13 ct13), sl13⟩) (c13 : PySem.W.codeIn K cd13 "times" = true) (k13 : PySem.W.keepIn K (.ref f13) = true)
    (a14 : PySem.W.nsIn K mainGlobals "over" = some (some (.ref f14))) (l14 : K.lookup f14 = some ⟨oc14, od14, .func (PySem.W.fnOf "over" "over" (defArgs (topS 27)) (defBody (topS 27)) (defScope (topS 27)) .none kV14 dc14 pm14 an14 cd14 ct14), sl14⟩) (c14 : PySem.W.codeIn K cd14 "over" = true) (k14 : PySem.W.keepIn K (.ref f14) = true)
    (a15 : PySem.W.nsIn K mainGlobals "compare" = some (some (.ref f15))) (l15 : K.lookup f15 = some ⟨oc15, od15, .func (PySem.W.fnOf "compare" "compare" (defArgs (topS 28)) (defBody (topS 28)) (defScope (topS 28)) .none kV15 dc15 pm15 an15 cd15 ct15), sl15⟩) (c15 : PySem.W.codeIn K cd15 "compare" = true) (k15 : PySem.W.keepIn K (.ref f15) = true)
    (a16 : PySem.W.nsIn K mainGlobals "is_pair" = some (some (.ref f16))) (l16 : K.lookup f16 = some ⟨oc16, od16, .func (PySem.W.fnOf "is_pair" "is_pair" (defArgs (topS 31)) (defBody (topS 31)) (defScope (topS 31)) .none kV16 dc16 pm16 an16 cd16 ct16), sl16⟩) (c16 : PySem.W.codeIn K cd16 "is_pair" = true) (k16 : PySem.W.keepIn K (.ref f16) = true)
    (a17 : PySem.W.nsIn K mainGlobals "turn_of" = some (some (.ref f17))) (l17 : K.lookup f17 = some ⟨oc17, od17, .func (PySem.W.fnOf "turn_of" "turn_of" (defArgs (topS 32)) (defBody (topS 32)) (defScope (topS 32)) .none kV17 dc17 pm17 an17 cd17 ct17), sl17⟩) (c17 : PySem.W.codeIn K cd17 "turn_of" = true) (k17 : PySem.W.keepIn K (.ref f17) = true)
    (a18 : PySem.W.nsIn K mainGlobals "joined" = some (some (.ref f18))) (l18 : K.lookup f18 = some ⟨oc18, od18, .func (PySem.W.fnOf "joined" "joined" (defArgs (topS 33)) (defBody (topS 33)) (defScope (topS 33)) .none kV18 dc18 pm18 an18 cd18 ct18), sl18⟩) (c18 : PySem.W.codeIn K cd18 "joined" = true) (k18 : PySem.W.keepIn K (.ref f18) = true)
    (a19 : PySem.W.nsIn K mainGlobals "spread_by" = some (some (.ref f19))) (l19 : K.lookup f19 = some ⟨oc19, od19, .func (PySem.W.fnOf "spread_by" "spread_by" (defArgs (topS 34)) (defBody (topS 34)) (defScope (topS 34)) .none kV19 dc19 pm19 an19 cd19 ct19), sl19⟩) (c19 : PySem.W.codeIn K cd19 "spread_by" = true) (k19 : PySem.W.keepIn K (.ref f19) = true)
    (a20 : PySem.W.nsIn K mainGlobals "need_pairs" = some (some (.ref f20))) (l20 : K.lookup f20 = some ⟨oc20, od20, .func (PySem.W.fnOf "need_pairs" "need_pairs" (defArgs (topS 35)) (defBody (topS 35)) (defScope (topS 35)) .none kV20 dc20 pm20 an20 cd20 ct20), sl20⟩) (c20 : PySem.W.codeIn K cd20 "need_pairs" = true) (k20 : PySem.W.keepIn K (.ref f20) = true)
    (a21 : PySem.W.nsIn K mainGlobals "is_ahead" = some (some (.ref f21))) (l21 : K.lookup f21 = some ⟨oc21, od21, .func (PySem.W.fnOf "is_ahead" "is_ahead" (defArgs (topS 36)) (defBody (topS 36)) (defScope (topS 36)) .none kV21 dc21 pm21 an21 cd21 ct21), sl21⟩) (c21 : PySem.W.codeIn K cd21 "is_ahead" = true) (k21 : PySem.W.keepIn K (.ref f21) = true)
    (a22 : PySem.W.nsIn K mainGlobals "are_level" = some (some (.ref f22))) (l22 : K.lookup f22 = some ⟨oc22, od22, .func (PySem.W.fnOf "are_level" "are_level" (defArgs (topS 37)) (defBody (topS 37)) (defScope (topS 37)) .none kV22 dc22 pm22 an22 cd22 ct22), sl22⟩) (c22 : PySem.W.codeIn K cd22 "are_level" = true) (k22 : PySem.W.keepIn K (.ref f22) = true)
    (a23 : PySem.W.nsIn K mainGlobals "total" = some (some (.ref f23))) (l23 : K.lookup f23 = some ⟨oc23, od23, .func (PySem.W.fnOf "total" "total" (defArgs (topS 38)) (defBody (topS 38)) (defScope (topS 38)) .none kV23 dc23 pm23 an23 cd23 ct23), sl23⟩) (c23 : PySem.W.codeIn K cd23 "total" = true) (k23 : PySem.W.keepIn K (.ref f23) = true)
    (a24 : PySem.W.nsIn K mainGlobals "spread" = some (some (.ref f24))) (l24 : K.lookup f24 = some ⟨oc24, od24, .func (PySem.W.fnOf "spread" "spread" (defArgs (topS 39)) (defBody (topS 39)) (defScope (topS 39)) .none kV24 dc24 pm24 an24 cd24 ct24), sl24⟩) (c24 : PySem.W.codeIn K cd24 "spread" = true) (k24 : PySem.W.keepIn K (.ref f24) = true)
    (a25 : PySem.W.nsIn K mainGlobals "need_list" = some (some (.ref f25))) (l25 : K.lookup f25 = some ⟨oc25, od25, .func (PySem.W.fnOf "need_list" "need_list" (defArgs (topS 42)) (defBody (topS 42)) (defScope (topS 42)) .none kV25 dc25 pm25 an25 cd25 ct25), sl25⟩) (c25 : PySem.W.codeIn K cd25 "need_list" = true) (k25 : PySem.W.keepIn K (.ref f25) = true)
    (a26 : PySem.W.nsIn K mainGlobals "measure" = some (some (.ref f26))) (l26 : K.lookup f26 = some ⟨oc26, od26, .func (PySem.W.fnOf "measure" "measure" (defArgs (topS 43)) (defBody (topS 43)) (defScope (topS 43)) .none kV26 dc26 pm26 an26 cd26 ct26), sl26⟩) (c26 : PySem.W.codeIn K cd26 "measure" = true) (k26 : PySem.W.keepIn K (.ref f26) = true)
    (a27 : PySem.W.nsIn K mainGlobals "is_along" = some (some (.ref f27))) (l27 : K.lookup f27 = some ⟨oc27, od27, .func (PySem.W.fnOf "is_along" "is_along" (defArgs (topS 44)) (defBody (topS 44)) (defScope (topS 44)) .none kV27 dc27 pm27 an27 cd27 ct27), sl27⟩) (c27 : PySem.W.codeIn K cd27 "is_along" = true) (k27 : PySem.W.keepIn K (.ref f27) = true)
    (a28 : PySem.W.nsIn K mainGlobals "find_ends" = some (some (.ref f28))) (l28 : K.lookup f28 = some ⟨oc28, od28, .func (PySem.W.fnOf "find_ends" "find_ends" (defArgs (topS 45)) (defBody (topS 45)) (defScope (topS 45)) .none kV28 dc28 pm28 an28 cd28 ct28), sl28⟩) (c28 : PySem.W.codeIn K cd28 "find_ends" = true) (k28 : PySem.W.keepIn K (.ref f28) = true)
    (a29 : PySem.W.nsIn K mainGlobals "find_witness" = some (some (.ref f29))) (l29 : K.lookup f29 = some ⟨oc29, od29, .func (PySem.W.fnOf "find_witness" "find_witness" (defArgs (topS 46)) (defBody (topS 46)) (defScope (topS 46)) .none kV29 dc29 pm29 an29 cd29 ct29), sl29⟩) (c29 : PySem.W.codeIn K cd29 "find_witness" = true) (k29 : PySem.W.keepIn K (.ref f29) = true)
    (a30 : PySem.W.nsIn K mainGlobals "are_positive" = some (some (.ref f30))) (l30 : K.lookup f30 = some ⟨oc30, od30, .func (PySem.W.fnOf "are_positive" "are_positive" (defArgs (topS 47)) (defBody (topS 47)) (defScope (topS 47)) .none kV30 dc30 pm30 an30 cd30 ct30), sl30⟩) (c30 : PySem.W.codeIn K cd30 "are_positive" = true) (k30 : PySem.W.keepIn K (.ref f30) = true)
    (a31 : PySem.W.nsIn K mainGlobals "cross" = some (some (.ref f31))) (l31 : K.lookup f31 = some ⟨oc31, od31, .func (PySem.W.fnOf "cross" "cross" (defArgs (topS 48)) (defBody (topS 48)) (defScope (topS 48)) .none kV31 dc31 pm31 an31 cd31 ct31), sl31⟩) (c31 : PySem.W.codeIn K cd31 "cross" = true) (k31 : PySem.W.keepIn K (.ref f31) = true)
    (a32 : PySem.W.nsIn K mainGlobals "opposite_of" = some (some (.ref f32))) (l32 : K.lookup f32 = some ⟨oc32, od32, .func (PySem.W.fnOf "opposite_of" "opposite_of" (defArgs (topS 49)) (defBody (topS 49)) (defScope (topS 49)) .none kV32 dc32 pm32 an32 cd32 ct32), sl32⟩) (c32 : PySem.W.codeIn K cd32 "opposite_of" = true) (k32 : PySem.W.keepIn K (.ref f32) = true)
    (a33 : PySem.W.nsIn K mainGlobals "round_of" = some (some (.ref f33))) (l33 : K.lookup f33 = some ⟨oc33, od33, .func (PySem.W.fnOf "round_of" "round_of" (defArgs (topS 50)) (defBody (topS 50)) (defScope (topS 50)) .none kV33 dc33 pm33 an33 cd33 ct33), sl33⟩) (c33 : PySem.W.codeIn K cd33 "round_of" = true) (k33 : PySem.W.keepIn K (.ref f33) = true)
    (a34 : PySem.W.nsIn K mainGlobals "find_ring" = some (some (.ref f34))) (l34 : K.lookup f34 = some ⟨oc34, od34, .func (PySem.W.fnOf "find_ring" "find_ring" (defArgs (topS 51)) (defBody (topS 51)) (defScope (topS 51)) .none kV34 dc34 pm34 an34 cd34 ct34), sl34⟩) (c34 : PySem.W.codeIn K cd34 "find_ring" = true) (k34 : PySem.W.keepIn K (.ref f34) = true)
    (a35 : PySem.W.nsIn K mainGlobals "witness" = some (some (.ref f35))) (l35 : K.lookup f35 = some ⟨oc35, od35, .func (PySem.W.fnOf "witness" "witness" (defArgs (topS 52)) (defBody (topS 52)) (defScope (topS 52)) .none kV35 dc35 pm35 an35 cd35 ct35), sl35⟩) (c35 : PySem.W.codeIn K cd35 "witness" = true) (k35 : PySem.W.keepIn K (.ref f35) = true)
    (a36 : PySem.W.nsIn K mainGlobals "is_witness" = some (some (.ref f36))) (l36 : K.lookup f36 = some ⟨oc36, od36, .func (PySem.W.fnOf "is_witness" "is_witness" (defArgs (topS 53)) (defBody (topS 53)) (defScope (topS 53)) .none kV36 dc36 pm36 an36 cd36 ct36), sl36⟩) (c36 : PySem.W.codeIn K cd36 "is_witness" = true) (k36 : PySem.W.keepIn K (.ref f36) = true)
    (a37 : PySem.W.nsIn K mainGlobals "ring" = some (some (.ref f37))) (l37 : K.lookup f37 = some ⟨oc37, od37, .func (PySem.W.fnOf "ring" "ring" (defArgs (topS 54)) (defBody (topS 54)) (defScope (topS 54)) .none kV37 dc37 pm37 an37 cd37 ct37), sl37⟩) (c37 : PySem.W.codeIn K cd37 "ring" = true) (k37 : PySem.W.keepIn K (.ref f37) = true)
    (a38 : PySem.W.nsIn K mainGlobals "is_share_frames" = some (some (.ref f38))) (l38 : K.lookup f38 = some ⟨oc38, od38, .func (PySem.W.fnOf "is_share" "is_share" (defArgs (topS 55)) (defBody (topS 55)) (defScope (topS 55)) .none kV38 dc38 pm38 an38 cd38 ct38), sl38⟩) (c38 : PySem.W.codeIn K cd38 "is_share" = true) (k38 : PySem.W.keepIn K (.ref f38) = true)
    (a39 : PySem.W.nsIn K mainGlobals "is_ring" = some (some (.ref f39))) (l39 : K.lookup f39 = some ⟨oc39, od39, .func (PySem.W.fnOf "is_ring" "is_ring" (defArgs (topS 57)) (defBody (topS 57)) (defScope (topS 57)) .none kV39 dc39 pm39 an39 cd39 ct39), sl39⟩) (c39 : PySem.W.codeIn K cd39 "is_ring" = true) (k39 : PySem.W.keepIn K (.ref f39) = true)
    (a40 : PySem.W.nsIn K mainGlobals "weights_left" = some (some (.ref f40))) (l40 : K.lookup f40 = some ⟨oc40, od40, .func (PySem.W.fnOf "weights_left" "weights_left" (defArgs (topS 61)) (defBody (topS 61)) (defScope (topS 61)) .none kV40 dc40 pm40 an40 cd40 ct40), sl40⟩) (c40 : PySem.W.codeIn K cd40 "weights_left" = true) (k40 : PySem.W.keepIn K (.ref f40) = true)
    (a41 : PySem.W.nsIn K mainGlobals "are_rungs" = some (some (.ref f41))) (l41 : K.lookup f41 = some ⟨oc41, od41, .func (PySem.W.fnOf "are_rungs" "are_rungs" (defArgs (topS 62)) (defBody (topS 62)) (defScope (topS 62)) .none kV41 dc41 pm41 an41 cd41 ct41), sl41⟩) (c41 : PySem.W.codeIn K cd41 "are_rungs" = true) (k41 : PySem.W.keepIn K (.ref f41) = true)
    (a42 : PySem.W.nsIn K mainGlobals "is_ladder" = some (some (.ref f42))) (l42 : K.lookup f42 = some ⟨oc42, od42, .func (PySem.W.fnOf "is_ladder" "is_ladder" (defArgs (topS 63)) (defBody (topS 63)) (defScope (topS 63)) .none kV42 dc42 pm42 an42 cd42 ct42), sl42⟩) (c42 : PySem.W.codeIn K cd42 "is_ladder" = true) (k42 : PySem.W.keepIn K (.ref f42) = true)
    (a43 : PySem.W.nsIn K mainGlobals "need_ladder" = some (some (.ref f43))) (l43 : K.lookup f43 = some ⟨oc43, od43, .func (PySem.W.fnOf "need_ladder" "need_ladder" (defArgs (topS 64)) (defBody (topS 64)) (defScope (topS 64)) .none kV43 dc43 pm43 an43 cd43 ct43), sl43⟩) (c43 : PySem.W.codeIn K cd43 "need_ladder" = true) (k43 : PySem.W.keepIn K (.ref f43) = true)
    (a44 : PySem.W.nsIn K mainGlobals "need_ladders" = some (some (.ref f44))) (l44 : K.lookup f44 = some ⟨oc44, od44, .func (PySem.W.fnOf "need_ladders" "need_ladders" (defArgs (topS 65)) (defBody (topS 65)) (defScope (topS 65)) .none kV44 dc44 pm44 an44 cd44 ct44), sl44⟩) (c44 : PySem.W.codeIn K cd44 "need_ladders" = true) (k44 : PySem.W.keepIn K (.ref f44) = true)
    (a45 : PySem.W.nsIn K mainGlobals "sum_of_pays" = some (some (.ref f45))) (l45 : K.lookup f45 = some ⟨oc45, od45, .func (PySem.W.fnOf "sum_of_pays" "sum_of_pays" (defArgs (topS 66)) (defBody (topS 66)) (defScope (topS 66)) .none kV45 dc45 pm45 an45 cd45 ct45), sl45⟩) (c45 : PySem.W.codeIn K cd45 "sum_of_pays" = true) (k45 : PySem.W.keepIn K (.ref f45) = true)
    (a46 : PySem.W.nsIn K mainGlobals "pays" = some (some (.ref f46))) (l46 : K.lookup f46 = some ⟨oc46, od46, .func (PySem.W.fnOf "pays" "pays" (defArgs (topS 67)) (defBody (topS 67)) (defScope (topS 67)) .none kV46 dc46 pm46 an46 cd46 ct46), sl46⟩) (c46 : PySem.W.codeIn K cd46 "pays" = true) (k46 : PySem.W.keepIn K (.ref f46) = true)
    (a47 : PySem.W.nsIn K mainGlobals "left" = some (some (.ref f47))) (l47 : K.lookup f47 = some ⟨oc47, od47, .func (PySem.W.fnOf "left" "left" (defArgs (topS 68)) (defBody (topS 68)) (defScope (topS 68)) .none kV47 dc47 pm47 an47 cd47 ct47), sl47⟩) (c47 : PySem.W.codeIn K cd47 "left" = true) (k47 : PySem.W.keepIn K (.ref f47) = true)
    (a48 : PySem.W.nsIn K mainGlobals "chain" = some (some (.ref f48))) (l48 : K.lookup f48 = some ⟨oc48, od48, .func (PySem.W.fnOf "chain" "chain" (defArgs (topS 69)) (defBody (topS 69)) (defScope (topS 69)) .none kV48 dc48 pm48 an48 cd48 ct48), sl48⟩) (c48 : PySem.W.codeIn K cd48 "chain" = true) (k48 : PySem.W.keepIn K (.ref f48) = true)
    (a49 : PySem.W.nsIn K mainGlobals "is_same_frame" = some (some (.ref f49))) (l49 : K.lookup f49 = some ⟨oc49, od49, .func (PySem.W.fnOf "is_same_frame" "is_same_frame" (defArgs (topS 70)) (defBody (topS 70)) (defScope (topS 70)) .none kV49 dc49 pm49 an49 cd49 ct49), sl49⟩) (c49 : PySem.W.codeIn K cd49 "is_same_frame" = true) (k49 : PySem.W.keepIn K (.ref f49) = true)
    (a50 : PySem.W.nsIn K mainGlobals "need_frame" = some (some (.ref f50))) (l50 : K.lookup f50 = some ⟨oc50, od50, .func (PySem.W.fnOf "need_frame" "need_frame" (defArgs (topS 72)) (defBody (topS 72)) (defScope (topS 72)) .none kV50 dc50 pm50 an50 cd50 ct50), sl50⟩) (c50 : PySem.W.codeIn K cd50 "need_frame" = true) (k50 : PySem.W.keepIn K (.ref f50) = true)
    (a51 : PySem.W.nsIn K mainGlobals "merge" = some (some (.ref f51))) (l51 : K.lookup f51 = some ⟨oc51, od51, .func (PySem.W.fnOf "merge" "merge" (defArgs (topS 73)) (defBody (topS 73)) (defScope (topS 73)) .none kV51 dc51 pm51 an51 cd51 ct51), sl51⟩) (c51 : PySem.W.codeIn K cd51 "merge" = true) (k51 : PySem.W.keepIn K (.ref f51) = true)
    (a52 : PySem.W.nsIn K mainGlobals "glued" = some (some (.ref f52))) (l52 : K.lookup f52 = some ⟨oc52, od52, .func (PySem.W.fnOf "glued" "glued" (defArgs (topS 74)) (defBody (topS 74)) (defScope (topS 74)) .none kV52 dc52 pm52 an52 cd52 ct52), sl52⟩) (c52 : PySem.W.codeIn K cd52 "glued" = true) (k52 : PySem.W.keepIn K (.ref f52) = true)
    (a53 : PySem.W.nsIn K mainGlobals "foremost_of" = some (some (.ref f53))) (l53 : K.lookup f53 = some ⟨oc53, od53, .func (PySem.W.fnOf "foremost_of" "foremost_of" (defArgs (topS 75)) (defBody (topS 75)) (defScope (topS 75)) .none kV53 dc53 pm53 an53 cd53 ct53), sl53⟩) (c53 : PySem.W.codeIn K cd53 "foremost_of" = true) (k53 : PySem.W.keepIn K (.ref f53) = true)
    (a54 : PySem.W.nsIn K mainGlobals "beside_one_another" = some (some (.ref f54))) (l54 : K.lookup f54 = some ⟨oc54, od54, .func (PySem.W.fnOf "beside_one_another" "beside_one_another" (defArgs (topS 76)) (defBody (topS 76)) (defScope (topS 76)) .none kV54 dc54 pm54 an54 cd54 ct54), sl54⟩) (c54 : PySem.W.codeIn K cd54 "beside_one_another" = true) (k54 : PySem.W.keepIn K (.ref f54) = true)
    (a55 : PySem.W.nsIn K mainGlobals "shared" = some (some (.ref f55))) (l55 : K.lookup f55 = some ⟨oc55, od55, .func (PySem.W.fnOf "shared" "shared" (defArgs (topS 77)) (defBody (topS 77)) (defScope (topS 77)) .none kV55 dc55 pm55 an55 cd55 ct55), sl55⟩) (c55 : PySem.W.codeIn K cd55 "shared" = true) (k55 : PySem.W.keepIn K (.ref f55) = true)
    (a56 : PySem.W.nsIn K mainGlobals "put_together" = some (some (.ref f56))) (l56 : K.lookup f56 = some ⟨oc56, od56, .func (PySem.W.fnOf "put_together" "put_together" (defArgs (topS 78)) (defBody (topS 78)) (defScope (topS 78)) .none kV56 dc56 pm56 an56 cd56 ct56), sl56⟩) (c56 : PySem.W.codeIn K cd56 "put_together" = true) (k56 : PySem.W.keepIn K (.ref f56) = true)
    (a57 : PySem.W.nsIn K mainGlobals "glue" = some (some (.ref f57))) (l57 : K.lookup f57 = some ⟨oc57, od57, .func (PySem.W.fnOf "glue" "glue" (defArgs (topS 79)) (defBody (topS 79)) (defScope (topS 79)) .none kV57 dc57 pm57 an57 cd57 ct57), sl57⟩) (c57 : PySem.W.codeIn K cd57 "glue" = true) (k57 : PySem.W.keepIn K (.ref f57) = true)
    (a58 : PySem.W.nsIn K mainGlobals "side_by_side" = some (some (.ref f58))) (l58 : K.lookup f58 = some ⟨oc58, od58, .func (PySem.W.fnOf "side_by_side" "side_by_side" (defArgs (topS 80)) (defBody (topS 80)) (defScope (topS 80)) .none kV58 dc58 pm58 an58 cd58 ct58), sl58⟩) (c58 : PySem.W.codeIn K cd58 "side_by_side" = true) (k58 : PySem.W.keepIn K (.ref f58) = true)
    (a59 : PySem.W.nsIn K mainGlobals "is_share_algebra" = some (some (.ref f59))) (l59 : K.lookup f59 = some ⟨oc59, od59, .func (PySem.W.fnOf "is_share" "is_share" (defArgs (topS 81)) (defBody (topS 81)) (defScope (topS 81)) .none kV59 dc59 pm59 an59 cd59 ct59), sl59⟩) (c59 : PySem.W.codeIn K cd59 "is_share" = true) (k59 : PySem.W.keepIn K (.ref f59) = true)
    (a60 : PySem.W.nsIn K mainGlobals "blend" = some (some (.ref f60))) (l60 : K.lookup f60 = some ⟨oc60, od60, .func (PySem.W.fnOf "blend" "blend" (defArgs (topS 83)) (defBody (topS 83)) (defScope (topS 83)) .none kV60 dc60 pm60 an60 cd60 ct60), sl60⟩) (c60 : PySem.W.codeIn K cd60 "blend" = true) (k60 : PySem.W.keepIn K (.ref f60) = true)
    (a61 : PySem.W.nsIn K mainGlobals "counts_together" = some (some (.ref f61))) (l61 : K.lookup f61 = some ⟨oc61, od61, .func (PySem.W.fnOf "counts_together" "counts_together" (defArgs (topS 91)) (defBody (topS 91)) (defScope (topS 91)) .none kV61 dc61 pm61 an61 cd61 ct61), sl61⟩) (c61 : PySem.W.codeIn K cd61 "counts_together" = true) (k61 : PySem.W.keepIn K (.ref f61) = true)
    (a62 : PySem.W.nsIn K mainGlobals "is_outcome" = some (some (.ref f62))) (l62 : K.lookup f62 = some ⟨oc62, od62, .func (PySem.W.fnOf "is_outcome" "is_outcome" (defArgs (topS 92)) (defBody (topS 92)) (defScope (topS 92)) .none kV62 dc62 pm62 an62 cd62 ct62), sl62⟩) (c62 : PySem.W.codeIn K cd62 "is_outcome" = true) (k62 : PySem.W.keepIn K (.ref f62) = true)
    (a63 : PySem.W.nsIn K mainGlobals "counts_of" = some (some (.ref f63))) (l63 : K.lookup f63 = some ⟨oc63, od63, .func (PySem.W.fnOf "counts_of" "counts_of" (defArgs (topS 93)) (defBody (topS 93)) (defScope (topS 93)) .none kV63 dc63 pm63 an63 cd63 ct63), sl63⟩) (c63 : PySem.W.codeIn K cd63 "counts_of" = true) (k63 : PySem.W.keepIn K (.ref f63) = true)
    (a64 : PySem.W.nsIn K mainGlobals "is_term" = some (some (.ref f64))) (l64 : K.lookup f64 = some ⟨oc64, od64, .func (PySem.W.fnOf "is_term" "is_term" (defArgs (topS 94)) (defBody (topS 94)) (defScope (topS 94)) .none kV64 dc64 pm64 an64 cd64 ct64), sl64⟩) (c64 : PySem.W.codeIn K cd64 "is_term" = true) (k64 : PySem.W.keepIn K (.ref f64) = true)
    (a65 : PySem.W.nsIn K mainGlobals "is_mix" = some (some (.ref f65))) (l65 : K.lookup f65 = some ⟨oc65, od65, .func (PySem.W.fnOf "is_mix" "is_mix" (defArgs (topS 95)) (defBody (topS 95)) (defScope (topS 95)) .none kV65 dc65 pm65 an65 cd65 ct65), sl65⟩) (c65 : PySem.W.codeIn K cd65 "is_mix" = true) (k65 : PySem.W.keepIn K (.ref f65) = true)
    (a66 : PySem.W.nsIn K mainGlobals "within" = some (some (.ref f66))) (l66 : K.lookup f66 = some ⟨oc66, od66, .func (PySem.W.fnOf "within" "within" (defArgs (topS 96)) (defBody (topS 96)) (defScope (topS 96)) .none kV66 dc66 pm66 an66 cd66 ct66), sl66⟩) (c66 : PySem.W.codeIn K cd66 "within" = true) (k66 : PySem.W.keepIn K (.ref f66) = true)
    (a67 : PySem.W.nsIn K mainGlobals "parts_of" = some (some (.ref f67))) (l67 : K.lookup f67 = some ⟨oc67, od67, .func (PySem.W.fnOf "parts_of" "parts_of" (defArgs (topS 97)) (defBody (topS 97)) (defScope (topS 97)) .none kV67 dc67 pm67 an67 cd67 ct67), sl67⟩) (c67 : PySem.W.codeIn K cd67 "parts_of" = true) (k67 : PySem.W.keepIn K (.ref f67) = true)
    (a68 : PySem.W.nsIn K mainGlobals "factor_of" = some (some (.ref f68))) (l68 : K.lookup f68 = some ⟨oc68, od68, .func (PySem.W.fnOf "factor_of" "factor_of" (defArgs (topS 98)) (defBody (topS 98)) (defScope (topS 98)) .none kV68 dc68 pm68 an68 cd68 ct68), sl68⟩) (c68 : PySem.W.codeIn K cd68 "factor_of" = true) (k68 : PySem.W.keepIn K (.ref f68) = true)
    (a69 : PySem.W.nsIn K mainGlobals "step_pair" = some (some (.ref f69))) (l69 : K.lookup f69 = some ⟨oc69, od69, .func (PySem.W.fnOf "step_pair" "step_pair" (defArgs (topS 99)) (defBody (topS 99)) (defScope (topS 99)) .none kV69 dc69 pm69 an69 cd69 ct69), sl69⟩) (c69 : PySem.W.codeIn K cd69 "step_pair" = true) (k69 : PySem.W.keepIn K (.ref f69) = true)
    (a70 : PySem.W.nsIn K mainGlobals "frame_pairs" = some (some (.ref f70))) (l70 : K.lookup f70 = some ⟨oc70, od70, .func (PySem.W.fnOf "frame_pairs" "frame_pairs" (defArgs (topS 101)) (defBody (topS 101)) (defScope (topS 101)) .none kV70 dc70 pm70 an70 cd70 ct70), sl70⟩) (c70 : PySem.W.codeIn K cd70 "frame_pairs" = true) (k70 : PySem.W.keepIn K (.ref f70) = true)
    (a71 : PySem.W.nsIn K mainGlobals "find_ladder" = some (some (.ref f71))) (l71 : K.lookup f71 = some ⟨oc71, od71, .func (PySem.W.fnOf "find_ladder" "find_ladder" (defArgs (topS 102)) (defBody (topS 102)) (defScope (topS 102)) .none kV71 dc71 pm71 an71 cd71 ct71), sl71⟩) (c71 : PySem.W.codeIn K cd71 "find_ladder" = true) (k71 : PySem.W.keepIn K (.ref f71) = true)
    (a72 : PySem.W.nsIn K mainGlobals "number_of" = some (some (.ref f72))) (l72 : K.lookup f72 = some ⟨oc72, od72, .func (PySem.W.fnOf "number_of" "number_of" (defArgs (topS 103)) (defBody (topS 103)) (defScope (topS 103)) .none kV72 dc72 pm72 an72 cd72 ct72), sl72⟩) (c72 : PySem.W.codeIn K cd72 "number_of" = true) (k72 : PySem.W.keepIn K (.ref f72) = true)
    (a73 : PySem.W.nsIn K mainGlobals "need_term" = some (some (.ref f73))) (l73 : K.lookup f73 = some ⟨oc73, od73, .func (PySem.W.fnOf "need_term" "need_term" (defArgs (topS 104)) (defBody (topS 104)) (defScope (topS 104)) .none kV73 dc73 pm73 an73 cd73 ct73), sl73⟩) (c73 : PySem.W.codeIn K cd73 "need_term" = true) (k73 : PySem.W.keepIn K (.ref f73) = true)
    (a74 : PySem.W.nsIn K mainGlobals "ladder_of" = some (some (.ref f74))) (l74 : K.lookup f74 = some ⟨oc74, od74, .func (PySem.W.fnOf "ladder_of" "ladder_of" (defArgs (topS 105)) (defBody (topS 105)) (defScope (topS 105)) .none kV74 dc74 pm74 an74 cd74 ct74), sl74⟩) (c74 : PySem.W.codeIn K cd74 "ladder_of" = true) (k74 : PySem.W.keepIn K (.ref f74) = true)
    (a75 : PySem.W.nsIn K mainGlobals "numbers" = some (some (.ref f75))) (l75 : K.lookup f75 = some ⟨oc75, od75, .func (PySem.W.fnOf "numbers" "numbers" (defArgs (topS 106)) (defBody (topS 106)) (defScope (topS 106)) .none kV75 dc75 pm75 an75 cd75 ct75), sl75⟩) (c75 : PySem.W.codeIn K cd75 "numbers" = true) (k75 : PySem.W.keepIn K (.ref f75) = true)
    (a76 : PySem.W.nsIn K mainGlobals "mix_ladder" = some (some (.ref f76))) (l76 : K.lookup f76 = some ⟨oc76, od76, .func (PySem.W.fnOf "mix_ladder" "mix_ladder" (defArgs (topS 107)) (defBody (topS 107)) (defScope (topS 107)) .none kV76 dc76 pm76 an76 cd76 ct76), sl76⟩) (c76 : PySem.W.codeIn K cd76 "mix_ladder" = true) (k76 : PySem.W.keepIn K (.ref f76) = true)
    (a77 : PySem.W.nsIn K mainGlobals "beneath" = some (some (.ref f77))) (l77 : K.lookup f77 = some ⟨oc77, od77, .func (PySem.W.fnOf "beneath" "beneath" (defArgs (topS 109)) (defBody (topS 109)) (defScope (topS 109)) .none kV77 dc77 pm77 an77 cd77 ct77), sl77⟩) (c77 : PySem.W.codeIn K cd77 "beneath" = true) (k77 : PySem.W.keepIn K (.ref f77) = true)
    (a78 : PySem.W.nsIn K mainGlobals "follows" = some (some (.ref f78))) (l78 : K.lookup f78 = some ⟨oc78, od78, .func (PySem.W.fnOf "follows" "follows" (defArgs (topS 110)) (defBody (topS 110)) (defScope (topS 110)) .none kV78 dc78 pm78 an78 cd78 ct78), sl78⟩) (c78 : PySem.W.codeIn K cd78 "follows" = true) (k78 : PySem.W.keepIn K (.ref f78) = true)
    (a79 : PySem.W.nsIn K mainGlobals "paper" = some (some (.ref f79))) (l79 : K.lookup f79 = some ⟨oc79, od79, .func (PySem.W.fnOf "paper" "paper" (defArgs (topS 111)) (defBody (topS 111)) (defScope (topS 111)) .none kV79 dc79 pm79 an79 cd79 ct79), sl79⟩) (c79 : PySem.W.codeIn K cd79 "paper" = true) (k79 : PySem.W.keepIn K (.ref f79) = true)
    (a80 : PySem.W.nsIn K mainGlobals "is_right" = some (some (.ref f80))) (l80 : K.lookup f80 = some ⟨oc80, od80, .func (PySem.W.fnOf "is_right" "is_right" (defArgs (topS 112)) (defBody (topS 112)) (defScope (topS 112)) .none kV80 dc80 pm80 an80 cd80 ct80), sl80⟩) (c80 : PySem.W.codeIn K cd80 "is_right" = true) (k80 : PySem.W.keepIn K (.ref f80) = true)
    (a81 : PySem.W.nsIn K mainGlobals "is_paper" = some (some (.ref f81))) (l81 : K.lookup f81 = some ⟨oc81, od81, .func (PySem.W.fnOf "is_paper" "is_paper" (defArgs (topS 113)) (defBody (topS 113)) (defScope (topS 113)) .none kV81 dc81 pm81 an81 cd81 ct81), sl81⟩) (c81 : PySem.W.codeIn K cd81 "is_paper" = true) (k81 : PySem.W.keepIn K (.ref f81) = true)
    (a82 : PySem.W.nsIn K mainGlobals "law" = some (some (.ref f82))) (l82 : K.lookup f82 = some ⟨oc82, od82, .func (PySem.W.fnOf "law" "law" (defArgs (topS 115)) (defBody (topS 115)) (defScope (topS 115)) .none kV82 dc82 pm82 an82 cd82 ct82), sl82⟩) (c82 : PySem.W.codeIn K cd82 "law" = true) (k82 : PySem.W.keepIn K (.ref f82) = true)
    (z0 : PySem.W.nsIn K mainGlobals "len" = some none)
    (z1 : PySem.W.nsIn K mainGlobals "abs" = some none)
    (z2 : PySem.W.nsIn K mainGlobals "int" = some none)
    (z3 : PySem.W.nsIn K mainGlobals "list" = some none)
    (z4 : PySem.W.nsIn K mainGlobals "tuple" = some none)
    (z5 : PySem.W.nsIn K mainGlobals "all" = some none)
    (z6 : PySem.W.nsIn K mainGlobals "any" = some none)
    (z7 : PySem.W.nsIn K mainGlobals "sum" = some none)
    (z8 : PySem.W.nsIn K mainGlobals "isinstance" = some none)
    (z9 : PySem.W.nsIn K mainGlobals "bool" = some none)
    (z10 : PySem.W.nsIn K mainGlobals "str" = some none)
    (z11 : PySem.W.nsIn K mainGlobals "dict" = some none)
    (z12 : PySem.W.nsIn K mainGlobals "range" = some none)
    (z13 : PySem.W.nsIn K mainGlobals "enumerate" = some none)
    (z14 : PySem.W.nsIn K mainGlobals "zip" = some none)
    (z15 : PySem.W.nsIn K mainGlobals "repr" = some none)
    (z16 : PySem.W.nsIn K mainGlobals "reversed" = some none)
    (z17 : PySem.W.nsIn K mainGlobals "max" = some none)
    (z18 : PySem.W.nsIn K mainGlobals "min" = some none)
    (z19 : PySem.W.nsIn K mainGlobals "sorted" = some none)
    (z20 : PySem.W.nsIn K mainGlobals "set" = some none)
    (x0 : PySem.W.nsIn K mainGlobals "NOUGHT" = some (some (.ref g0)))
    (y_g0 : K.lookup g0 = some ⟨.type "tuple", dd_g0, .seq [.int 0 t_g0_0, .int 1 t_g0_1].toArray nn_g0, ss_g0⟩)
    (x1 : PySem.W.nsIn K mainGlobals "WHOLE" = some (some (.ref g1)))
    (y_g1 : K.lookup g1 = some ⟨.type "tuple", dd_g1, .seq [.int 1 t_g1_0, .int 1 t_g1_1].toArray nn_g1, ss_g1⟩)
    (x2 : PySem.W.nsIn K mainGlobals "NONE" = some (some (.ref g2)))
    (y_g2 : K.lookup g2 = some ⟨.type "tuple", dd_g2, .seq [.ref g2_0, .ref g2_1].toArray nn_g2, ss_g2⟩)
    (y_g2_0 : K.lookup g2_0 = some ⟨.type "tuple", dd_g2_0, .seq [.int 0 t_g2_0_0, .int 1 t_g2_0_1].toArray nn_g2_0, ss_g2_0⟩)
    (y_g2_1 : K.lookup g2_1 = some ⟨.type "tuple", dd_g2_1, .seq [.int 0 t_g2_1_0, .int 1 t_g2_1_1].toArray nn_g2_1, ss_g2_1⟩)
    (x3 : PySem.W.nsIn K mainGlobals "MOST_PAIRS" = some (some (.int 80 t_x3)))
    (x4 : PySem.W.nsIn K mainGlobals "MOST_RUNGS" = some (some (.int 64 t_x4)))
    (x5 : PySem.W.nsIn K mainGlobals "MOST_CHAINED" = some (some (.int 16 t_x5)))
    (x6 : PySem.W.nsIn K mainGlobals "MOST_OUTCOMES" = some (some (.int 3 t_x6)))
    (x7 : PySem.W.nsIn K mainGlobals "MOST_MEMBERS" = some (some (.int 3 t_x7)))
    (x8 : PySem.W.nsIn K mainGlobals "MOST_STEPS" = some (some (.int 16 t_x8)))
    (x9 : PySem.W.nsIn K mainGlobals "MOST_PARTS" = some (some (.int 48 t_x9)))
    (x10 : PySem.W.nsIn K mainGlobals "MOST_TERMS" = some (some (.int 4 t_x10)))
    (x11 : PySem.W.nsIn K mainGlobals "MOST_MIX_PARTS" = some (some (.int 96 t_x11)))
    (ea_BadFraction : PySem.W.nsIn K mainGlobals "BadFraction" = some (some (.ref E_BadFraction)))
    (eb_BadFraction : PySem.W.subIn K (.ref E_BadFraction) (.type "BaseException") = some true)
    (ed_BadFraction : PySem.W.hasDictIn K E_BadFraction = true)
    (et_BadFraction : PySem.W.typeIn K (.ref E_BadFraction) = some (.type "type"))
    (ea_BadPair : PySem.W.nsIn K mainGlobals "BadPair" = some (some (.ref E_BadPair)))
    (eb_BadPair : PySem.W.subIn K (.ref E_BadPair) (.type "BaseException") = some true)
    (ed_BadPair : PySem.W.hasDictIn K E_BadPair = true)
    (et_BadPair : PySem.W.typeIn K (.ref E_BadPair) = some (.type "type"))
    (ea_BadPairs : PySem.W.nsIn K mainGlobals "BadPairs" = some (some (.ref E_BadPairs)))
    (eb_BadPairs : PySem.W.subIn K (.ref E_BadPairs) (.type "BaseException") = some true)
    (ed_BadPairs : PySem.W.hasDictIn K E_BadPairs = true)
    (et_BadPairs : PySem.W.typeIn K (.ref E_BadPairs) = some (.type "type"))
    (ea_BadTerm : PySem.W.nsIn K mainGlobals "BadTerm" = some (some (.ref E_BadTerm)))
    (eb_BadTerm : PySem.W.subIn K (.ref E_BadTerm) (.type "BaseException") = some true)
    (ed_BadTerm : PySem.W.hasDictIn K E_BadTerm = true)
    (et_BadTerm : PySem.W.typeIn K (.ref E_BadTerm) = some (.type "type"))
    (ea_BadMix : PySem.W.nsIn K mainGlobals "BadMix" = some (some (.ref E_BadMix)))
    (eb_BadMix : PySem.W.subIn K (.ref E_BadMix) (.type "BaseException") = some true)
    (ed_BadMix : PySem.W.hasDictIn K E_BadMix = true)
    (et_BadMix : PySem.W.typeIn K (.ref E_BadMix) = some (.type "type"))
    (ea_BadLadder : PySem.W.nsIn K mainGlobals "BadLadder" = some (some (.ref E_BadLadder)))
    (eb_BadLadder : PySem.W.subIn K (.ref E_BadLadder) (.type "BaseException") = some true)
    (ed_BadLadder : PySem.W.hasDictIn K E_BadLadder = true)
    (et_BadLadder : PySem.W.typeIn K (.ref E_BadLadder) = some (.type "type"))
    (ea_NoFrame : PySem.W.nsIn K mainGlobals "NoFrame" = some (some (.ref E_NoFrame)))
    (eb_NoFrame : PySem.W.subIn K (.ref E_NoFrame) (.type "BaseException") = some true)
    (ed_NoFrame : PySem.W.hasDictIn K E_NoFrame = true)
    (et_NoFrame : PySem.W.typeIn K (.ref E_NoFrame) = some (.type "type"))
    (ea_TooMany : PySem.W.nsIn K mainGlobals "TooMany" = some (some (.ref E_TooMany)))
    (eb_TooMany : PySem.W.subIn K (.ref E_TooMany) (.type "BaseException") = some true)
    (ed_TooMany : PySem.W.hasDictIn K E_TooMany = true)
    (et_TooMany : PySem.W.typeIn K (.ref E_TooMany) = some (.type "type"))
    (e_hn : PySem.W.specialIn K (.builtin "object.__class__") "__get__" = some (some (.builtin "getset_descriptor.__get__")))
    (e_tk : PySem.W.takesIn K (.builtin "object.__class__") = some true)
    (xl_BadFraction : K.lookup E_BadFraction = some (excClassObj en_BadFraction eq_BadFraction E_BadFraction eN_BadFraction ebs_BadFraction [.ref E_MixError, .type "ValueError", .type "Exception", .type "BaseException", .type "object"] true esn_BadFraction esub_BadFraction eab_BadFraction ecol_BadFraction edd_BadFraction em0_BadFraction em1_BadFraction em2_BadFraction em3_BadFraction em5_BadFraction "ValueError.__new__"))
    (sa_BadFraction : PySem.W.findIn K (.ref E_BadFraction) "__setattr__" = some (some (.builtin "object.__setattr__")))
    (ga_BadFraction : PySem.W.findIn K (.ref E_BadFraction) "__getattribute__" = some (some (.builtin "BaseException.__getattribute__")))
    (gg_BadFraction : PySem.W.findIn K (.ref E_BadFraction) "__getattr__" = some none)
    (nv_BadFraction : PySem.W.findIn K (.ref E_BadFraction) "value" = some none)
    (ei_BadFraction : PySem.W.findIn K (.ref E_BadFraction) "__init__" = some (some (.ref FI_BadFraction)))
    (ti_BadFraction : PySem.W.typeIn K (.ref FI_BadFraction) = some (.type "function"))
    (li_BadFraction : K.lookup FI_BadFraction = some ⟨eoc_BadFraction, eod_BadFraction, .func (PySem.W.fnOf "__init__" "BadFraction.__init__" (PySem.OwnX.iA ep1_BadFraction ep2_BadFraction) (PySem.OwnX.iB eq1_BadFraction eq2_BadFraction eq3_BadFraction eq4_BadFraction) PySem.OwnX.iS .none .none edc_BadFraction epm_BadFraction ean_BadFraction ecd_BadFraction ect_BadFraction), eos_BadFraction⟩)
    (ci_BadFraction : PySem.W.codeIn K ecd_BadFraction "BadFraction.__init__" = true)
    (ke_BadFraction : PySem.W.keepIn K (.ref E_BadFraction) = true)
    (cl_BadFraction : PySem.W.isClsIn K E_BadFraction = true)
    (ec_BadFraction : PySem.W.findIn K (.ref E_BadFraction) "__class__" = some (some (.builtin "object.__class__")))
    (em_BadFraction : PySem.W.mroIn K E_BadFraction (.type "object") = some true)
    (xl_BadPair : K.lookup E_BadPair = some (excClassObj en_BadPair eq_BadPair E_BadPair eN_BadPair ebs_BadPair [.ref E_MixError, .type "ValueError", .type "Exception", .type "BaseException", .type "object"] true esn_BadPair esub_BadPair eab_BadPair ecol_BadPair edd_BadPair em0_BadPair em1_BadPair em2_BadPair em3_BadPair em5_BadPair "ValueError.__new__"))
    (sa_BadPair : PySem.W.findIn K (.ref E_BadPair) "__setattr__" = some (some (.builtin "object.__setattr__")))
    (ga_BadPair : PySem.W.findIn K (.ref E_BadPair) "__getattribute__" = some (some (.builtin "BaseException.__getattribute__")))
    (gg_BadPair : PySem.W.findIn K (.ref E_BadPair) "__getattr__" = some none)
    (nv_BadPair : PySem.W.findIn K (.ref E_BadPair) "value" = some none)
    (ei_BadPair : PySem.W.findIn K (.ref E_BadPair) "__init__" = some (some (.ref FI_BadPair)))
    (ti_BadPair : PySem.W.typeIn K (.ref FI_BadPair) = some (.type "function"))
    (li_BadPair : K.lookup FI_BadPair = some ⟨eoc_BadPair, eod_BadPair, .func (PySem.W.fnOf "__init__" "BadPair.__init__" (PySem.OwnX.iA ep1_BadPair ep2_BadPair) (PySem.OwnX.iB eq1_BadPair eq2_BadPair eq3_BadPair eq4_BadPair) PySem.OwnX.iS .none .none edc_BadPair epm_BadPair ean_BadPair ecd_BadPair ect_BadPair), eos_BadPair⟩)
    (ci_BadPair : PySem.W.codeIn K ecd_BadPair "BadPair.__init__" = true)
    (ke_BadPair : PySem.W.keepIn K (.ref E_BadPair) = true)
    (cl_BadPair : PySem.W.isClsIn K E_BadPair = true)
    (ec_BadPair : PySem.W.findIn K (.ref E_BadPair) "__class__" = some (some (.builtin "object.__class__")))
    (em_BadPair : PySem.W.mroIn K E_BadPair (.type "object") = some true)
    (xl_BadPairs : K.lookup E_BadPairs = some (excClassObj en_BadPairs eq_BadPairs E_BadPairs eN_BadPairs ebs_BadPairs [.ref E_MixError, .type "ValueError", .type "Exception", .type "BaseException", .type "object"] true esn_BadPairs esub_BadPairs eab_BadPairs ecol_BadPairs edd_BadPairs em0_BadPairs em1_BadPairs em2_BadPairs em3_BadPairs em5_BadPairs "ValueError.__new__"))
    (sa_BadPairs : PySem.W.findIn K (.ref E_BadPairs) "__setattr__" = some (some (.builtin "object.__setattr__")))
    (ga_BadPairs : PySem.W.findIn K (.ref E_BadPairs) "__getattribute__" = some (some (.builtin "BaseException.__getattribute__")))
    (gg_BadPairs : PySem.W.findIn K (.ref E_BadPairs) "__getattr__" = some none)
    (nv_BadPairs : PySem.W.findIn K (.ref E_BadPairs) "value" = some none)
    (ei_BadPairs : PySem.W.findIn K (.ref E_BadPairs) "__init__" = some (some (.ref FI_BadPairs)))
    (ti_BadPairs : PySem.W.typeIn K (.ref FI_BadPairs) = some (.type "function"))
    (li_BadPairs : K.lookup FI_BadPairs = some ⟨eoc_BadPairs, eod_BadPairs, .func (PySem.W.fnOf "__init__" "BadPairs.__init__" (PySem.OwnX.iA ep1_BadPairs ep2_BadPairs) (PySem.OwnX.iB eq1_BadPairs eq2_BadPairs eq3_BadPairs eq4_BadPairs) PySem.OwnX.iS .none .none edc_BadPairs epm_BadPairs ean_BadPairs ecd_BadPairs ect_BadPairs), eos_BadPairs⟩)
    (ci_BadPairs : PySem.W.codeIn K ecd_BadPairs "BadPairs.__init__" = true)
    (ke_BadPairs : PySem.W.keepIn K (.ref E_BadPairs) = true)
    (cl_BadPairs : PySem.W.isClsIn K E_BadPairs = true)
    (ec_BadPairs : PySem.W.findIn K (.ref E_BadPairs) "__class__" = some (some (.builtin "object.__class__")))
    (em_BadPairs : PySem.W.mroIn K E_BadPairs (.type "object") = some true)
    (xl_BadTerm : K.lookup E_BadTerm = some (excClassObj en_BadTerm eq_BadTerm E_BadTerm eN_BadTerm ebs_BadTerm [.ref E_MixError, .type "ValueError", .type "Exception", .type "BaseException", .type "object"] true esn_BadTerm esub_BadTerm eab_BadTerm ecol_BadTerm edd_BadTerm em0_BadTerm em1_BadTerm em2_BadTerm em3_BadTerm em5_BadTerm "ValueError.__new__"))
    (sa_BadTerm : PySem.W.findIn K (.ref E_BadTerm) "__setattr__" = some (some (.builtin "object.__setattr__")))
    (ga_BadTerm : PySem.W.findIn K (.ref E_BadTerm) "__getattribute__" = some (some (.builtin "BaseException.__getattribute__")))
    (gg_BadTerm : PySem.W.findIn K (.ref E_BadTerm) "__getattr__" = some none)
    (nv_BadTerm : PySem.W.findIn K (.ref E_BadTerm) "value" = some none)
    (ei_BadTerm : PySem.W.findIn K (.ref E_BadTerm) "__init__" = some (some (.ref FI_BadTerm)))
    (ti_BadTerm : PySem.W.typeIn K (.ref FI_BadTerm) = some (.type "function"))
    (li_BadTerm : K.lookup FI_BadTerm = some ⟨eoc_BadTerm, eod_BadTerm, .func (PySem.W.fnOf "__init__" "BadTerm.__init__" (PySem.OwnX.iA ep1_BadTerm ep2_BadTerm) (PySem.OwnX.iB eq1_BadTerm eq2_BadTerm eq3_BadTerm eq4_BadTerm) PySem.OwnX.iS .none .none edc_BadTerm epm_BadTerm ean_BadTerm ecd_BadTerm ect_BadTerm), eos_BadTerm⟩)
    (ci_BadTerm : PySem.W.codeIn K ecd_BadTerm "BadTerm.__init__" = true)
    (ke_BadTerm : PySem.W.keepIn K (.ref E_BadTerm) = true)
    (cl_BadTerm : PySem.W.isClsIn K E_BadTerm = true)
    (ec_BadTerm : PySem.W.findIn K (.ref E_BadTerm) "__class__" = some (some (.builtin "object.__class__")))
    (em_BadTerm : PySem.W.mroIn K E_BadTerm (.type "object") = some true)
    (xl_BadMix : K.lookup E_BadMix = some (excClassObj en_BadMix eq_BadMix E_BadMix eN_BadMix ebs_BadMix [.ref E_MixError, .type "ValueError", .type "Exception", .type "BaseException", .type "object"] true esn_BadMix esub_BadMix eab_BadMix ecol_BadMix edd_BadMix em0_BadMix em1_BadMix em2_BadMix em3_BadMix em5_BadMix "ValueError.__new__"))
    (sa_BadMix : PySem.W.findIn K (.ref E_BadMix) "__setattr__" = some (some (.builtin "object.__setattr__")))
    (ga_BadMix : PySem.W.findIn K (.ref E_BadMix) "__getattribute__" = some (some (.builtin "BaseException.__getattribute__")))
    (gg_BadMix : PySem.W.findIn K (.ref E_BadMix) "__getattr__" = some none)
    (nv_BadMix : PySem.W.findIn K (.ref E_BadMix) "value" = some none)
    (ei_BadMix : PySem.W.findIn K (.ref E_BadMix) "__init__" = some (some (.ref FI_BadMix)))
    (ti_BadMix : PySem.W.typeIn K (.ref FI_BadMix) = some (.type "function"))
    (li_BadMix : K.lookup FI_BadMix = some ⟨eoc_BadMix, eod_BadMix, .func (PySem.W.fnOf "__init__" "BadMix.__init__" (PySem.OwnX.iA ep1_BadMix ep2_BadMix) (PySem.OwnX.iB eq1_BadMix eq2_BadMix eq3_BadMix eq4_BadMix) PySem.OwnX.iS .none .none edc_BadMix epm_BadMix ean_BadMix ecd_BadMix ect_BadMix), eos_BadMix⟩)
    (ci_BadMix : PySem.W.codeIn K ecd_BadMix "BadMix.__init__" = true)
    (ke_BadMix : PySem.W.keepIn K (.ref E_BadMix) = true)
    (cl_BadMix : PySem.W.isClsIn K E_BadMix = true)
    (ec_BadMix : PySem.W.findIn K (.ref E_BadMix) "__class__" = some (some (.builtin "object.__class__")))
    (em_BadMix : PySem.W.mroIn K E_BadMix (.type "object") = some true)
    (xl_BadLadder : K.lookup E_BadLadder = some (excClassObj en_BadLadder eq_BadLadder E_BadLadder eN_BadLadder ebs_BadLadder [.ref E_MixError, .type "ValueError", .type "Exception", .type "BaseException", .type "object"] true esn_BadLadder esub_BadLadder eab_BadLadder ecol_BadLadder edd_BadLadder em0_BadLadder em1_BadLadder em2_BadLadder em3_BadLadder em5_BadLadder "ValueError.__new__"))
    (sa_BadLadder : PySem.W.findIn K (.ref E_BadLadder) "__setattr__" = some (some (.builtin "object.__setattr__")))
    (ga_BadLadder : PySem.W.findIn K (.ref E_BadLadder) "__getattribute__" = some (some (.builtin "BaseException.__getattribute__")))
    (gg_BadLadder : PySem.W.findIn K (.ref E_BadLadder) "__getattr__" = some none)
    (nv_BadLadder : PySem.W.findIn K (.ref E_BadLadder) "value" = some none)
    (ei_BadLadder : PySem.W.findIn K (.ref E_BadLadder) "__init__" = some (some (.ref FI_BadLadder)))
    (ti_BadLadder : PySem.W.typeIn K (.ref FI_BadLadder) = some (.type "function"))
    (li_BadLadder : K.lookup FI_BadLadder = some ⟨eoc_BadLadder, eod_BadLadder, .func (PySem.W.fnOf "__init__" "BadLadder.__init__" (PySem.OwnX.iA ep1_BadLadder ep2_BadLadder) (PySem.OwnX.iB eq1_BadLadder eq2_BadLadder eq3_BadLadder eq4_BadLadder) PySem.OwnX.iS .none .none edc_BadLadder epm_BadLadder ean_BadLadder ecd_BadLadder ect_BadLadder), eos_BadLadder⟩)
    (ci_BadLadder : PySem.W.codeIn K ecd_BadLadder "BadLadder.__init__" = true)
    (ke_BadLadder : PySem.W.keepIn K (.ref E_BadLadder) = true)
    (cl_BadLadder : PySem.W.isClsIn K E_BadLadder = true)
    (ec_BadLadder : PySem.W.findIn K (.ref E_BadLadder) "__class__" = some (some (.builtin "object.__class__")))
    (em_BadLadder : PySem.W.mroIn K E_BadLadder (.type "object") = some true)
    (xl_NoFrame : K.lookup E_NoFrame = some (excClassObj en_NoFrame eq_NoFrame E_NoFrame eN_NoFrame ebs_NoFrame [.ref E_MixError, .type "ValueError", .type "Exception", .type "BaseException", .type "object"] true esn_NoFrame esub_NoFrame eab_NoFrame ecol_NoFrame edd_NoFrame em0_NoFrame em1_NoFrame em2_NoFrame em3_NoFrame em5_NoFrame "ValueError.__new__"))
    (sa_NoFrame : PySem.W.findIn K (.ref E_NoFrame) "__setattr__" = some (some (.builtin "object.__setattr__")))
    (ga_NoFrame : PySem.W.findIn K (.ref E_NoFrame) "__getattribute__" = some (some (.builtin "BaseException.__getattribute__")))
    (gg_NoFrame : PySem.W.findIn K (.ref E_NoFrame) "__getattr__" = some none)
    (nv_NoFrame : PySem.W.findIn K (.ref E_NoFrame) "value" = some none)
    (ei_NoFrame : PySem.W.findIn K (.ref E_NoFrame) "__init__" = some (some (.ref FI_NoFrame)))
    (ti_NoFrame : PySem.W.typeIn K (.ref FI_NoFrame) = some (.type "function"))
    (li_NoFrame : K.lookup FI_NoFrame = some ⟨eoc_NoFrame, eod_NoFrame, .func (PySem.W.fnOf "__init__" "NoFrame.__init__" (PySem.OwnX.iA ep1_NoFrame ep2_NoFrame) (PySem.OwnX.iB eq1_NoFrame eq2_NoFrame eq3_NoFrame eq4_NoFrame) PySem.OwnX.iS .none .none edc_NoFrame epm_NoFrame ean_NoFrame ecd_NoFrame ect_NoFrame), eos_NoFrame⟩)
    (ci_NoFrame : PySem.W.codeIn K ecd_NoFrame "NoFrame.__init__" = true)
    (ke_NoFrame : PySem.W.keepIn K (.ref E_NoFrame) = true)
    (cl_NoFrame : PySem.W.isClsIn K E_NoFrame = true)
    (ec_NoFrame : PySem.W.findIn K (.ref E_NoFrame) "__class__" = some (some (.builtin "object.__class__")))
    (em_NoFrame : PySem.W.mroIn K E_NoFrame (.type "object") = some true)
    (xl_TooMany : K.lookup E_TooMany = some (excClassObj en_TooMany eq_TooMany E_TooMany eN_TooMany ebs_TooMany [.ref E_MixError, .type "ValueError", .type "Exception", .type "BaseException", .type "object"] true esn_TooMany esub_TooMany eab_TooMany ecol_TooMany edd_TooMany em0_TooMany em1_TooMany em2_TooMany em3_TooMany em5_TooMany "ValueError.__new__"))
    (sa_TooMany : PySem.W.findIn K (.ref E_TooMany) "__setattr__" = some (some (.builtin "object.__setattr__")))
    (ga_TooMany : PySem.W.findIn K (.ref E_TooMany) "__getattribute__" = some (some (.builtin "BaseException.__getattribute__")))
    (gg_TooMany : PySem.W.findIn K (.ref E_TooMany) "__getattr__" = some none)
    (nv_TooMany : PySem.W.findIn K (.ref E_TooMany) "value" = some none)
    (ei_TooMany : PySem.W.findIn K (.ref E_TooMany) "__init__" = some (some (.ref FI_TooMany)))
    (ti_TooMany : PySem.W.typeIn K (.ref FI_TooMany) = some (.type "function"))
    (li_TooMany : K.lookup FI_TooMany = some ⟨eoc_TooMany, eod_TooMany, .func (PySem.W.fnOf "__init__" "TooMany.__init__" (PySem.OwnX.iA ep1_TooMany ep2_TooMany) (PySem.OwnX.iB eq1_TooMany eq2_TooMany eq3_TooMany eq4_TooMany) PySem.OwnX.iS .none .none edc_TooMany epm_TooMany ean_TooMany ecd_TooMany ect_TooMany), eos_TooMany⟩)
    (ci_TooMany : PySem.W.codeIn K ecd_TooMany "TooMany.__init__" = true)
    (ke_TooMany : PySem.W.keepIn K (.ref E_TooMany) = true)
    (cl_TooMany : PySem.W.isClsIn K E_TooMany = true)
    (ec_TooMany : PySem.W.findIn K (.ref E_TooMany) "__class__" = some (some (.builtin "object.__class__")))
    (em_TooMany : PySem.W.mroIn K E_TooMany (.type "object") = some true)
    : ∃ fd : FuncData, (∀ (s : Shared) (v : Value), BindsTo s fd ⟨[v], []⟩ [("_law_script", v)]) ∧ ∀ base : Heap, K.In base → base.Ns mainGlobals mg → FnG P w K mg base (L2.CX P w) 40 fa fd ["_law_script"] (spF ⟨K, (fun c => ([E_BadFraction, E_BadPair, E_BadPairs, E_BadTerm, E_BadMix, E_BadLadder, E_NoFrame, E_TooMany] : List Addr).getD c 0), none⟩ fs 40 83 1 false) := by
  have e : fa = f82 := by
    have z := hfa.symm.trans (PySem.W.mg_of X G a82)
    cases z
    rfl
  rw [e]
  have A0 : ∃ nm st a fd, FnAt K mg gt 60 f_is_integer nm st a fd := ⟨_, topS 13, f0, _, fun_mk (st := topS 13) l0 c0 k0, PySem.W.mg_of X G a0, (fun_mk (st := topS 13) l0 c0 k0).binds (ps := f_is_integer.ps) (fun _ _ _ _ _ _ us hl => match us, hl with | [_], _ => rfl), sc_is_integer, ⟨_, tr_is_integer⟩, fun l h => kw_none rfl h⟩
  have A1 : ∃ nm st a fd, FnAt K mg gt 60 f_divisor_of nm st a fd := ⟨_, topS 14, f1, _, fun_mk (st := topS 14) l1 c1 k1, PySem.W.mg_of X G a1, (fun_mk (st := topS 14) l1 c1 k1).binds (ps := f_divisor_of.ps) (fun _ _ _ _ _ _ us hl => match us, hl with | [_, _], _ => rfl), sc_divisor_of, ⟨_, tr_divisor_of⟩, fun l h => kw_none rfl h⟩
  have A2 : ∃ nm st a fd, FnAt K mg gt 60 f_is_fraction nm st a fd := ⟨_, topS 15, f2, _, fun_mk (st := topS 15) l2 c2 k2, PySem.W.mg_of X G a2, (fun_mk (st := topS 15) l2 c2 k2).binds (ps := f_is_fraction.ps) (fun _ _ _ _ _ _ us hl => match us, hl with | [_], _ => rfl), sc_is_fraction, ⟨_, tr_is_fraction⟩, fun l h => kw_some (l0 := [(((0 : Nat), (["value"] : List Str)), ([0] : List Nat))]) rfl (kwc (fun_kb (fun_mk (st := topS 15) l2 c2 k2) rfl (fun _ _ _ _ _ _ us ws h1 h2 => match us, h1, ws, h2 with | [], _, [_], _ => rfl)) kwn) h⟩
  have A3 : ∃ nm st a fd, FnAt K mg gt 60 f_lowest nm st a fd := ⟨_, topS 16, f3, _, fun_mk (st := topS 16) l3 c3 k3, PySem.W.mg_of X G a3, (fun_mk (st := topS 16) l3 c3 k3).binds (ps := f_lowest.ps) (fun _ _ _ _ _ _ us hl => match us, hl with | [_, _], _ => rfl), sc_lowest, ⟨_, tr_lowest⟩, fun l h => kw_none rfl h⟩
  have A4 : ∃ nm st a fd, FnAt K mg gt 60 f_add nm st a fd := ⟨_, topS 17, f4, _, fun_mk (st := topS 17) l4 c4 k4, PySem.W.mg_of X G a4, (fun_mk (st := topS 17) l4 c4 k4).binds (ps := f_add.ps) (fun _ _ _ _ _ _ us hl => match us, hl with | [_, _], _ => rfl), sc_add, ⟨_, tr_add⟩, fun l h => kw_none rfl h⟩
  have A5 : ∃ nm st a fd, FnAt K mg gt 60 f_less nm st a fd := ⟨_, topS 18, f5, _, fun_mk (st := topS 18) l5 c5 k5, PySem.W.mg_of X G a5, (fun_mk (st := topS 18) l5 c5 k5).binds (ps := f_less.ps) (fun _ _ _ _ _ _ us hl => match us, hl with | [_, _], _ => rfl), sc_less, ⟨_, tr_less⟩, fun l h => kw_none rfl h⟩
  have A6 : ∃ nm st a fd, FnAt K mg gt 60 f_mul nm st a fd := ⟨_, topS 19, f6, _, fun_mk (st := topS 19) l6 c6 k6, PySem.W.mg_of X G a6, (fun_mk (st := topS 19) l6 c6 k6).binds (ps := f_mul.ps) (fun _ _ _ _ _ _ us hl => match us, hl with | [_, _], _ => rfl), sc_mul, ⟨_, tr_mul⟩, fun l h => kw_none rfl h⟩
  have A7 : ∃ nm st a fd, FnAt K mg gt 60 f_div nm st a fd := ⟨_, topS 20, f7, _, fun_mk (st := topS 20) l7 c7 k7, PySem.W.mg_of X G a7, (fun_mk (st := topS 20) l7 c7 k7).binds (ps := f_div.ps) (fun _ _ _ _ _ _ us hl => match us, hl with | [_, _], _ => rfl), sc_div, ⟨_, tr_div⟩, fun l h => kw_none rfl h⟩
  have A8 : ∃ nm st a fd, FnAt K mg gt 60 f_order_of nm st a fd := ⟨_, topS 21, f8, _, fun_mk (st := topS 21) l8 c8 k8, PySem.W.mg_of X G a8, (fun_mk (st := topS 21) l8 c8 k8).binds (ps := f_order_of.ps) (fun _ _ _ _ _ _ us hl => match us, hl with | [_, _], _ => rfl), sc_order_of, ⟨_, tr_order_of⟩, fun l h => kw_none rfl h⟩
  have A9 : ∃ nm st a fd, FnAt K mg gt 60 f_need_fractions nm st a fd := ⟨_, topS 22, f9, _, fun_mk (st := topS 22) l9 c9 k9, PySem.W.mg_of X G a9, (fun_mk (st := topS 22) l9 c9 k9).binds (ps := f_need_fractions.ps) (fun _ _ _ _ _ _ us hl => match us, hl with | [_], _ => rfl), sc_need_fractions, ⟨_, tr_need_fractions⟩, fun l h => kw_none rfl h⟩
  have A10 : ∃ nm st a fd, FnAt K mg gt 60 f_fraction nm st a fd := ⟨_, topS 23, f10, _, fun_mk (st := topS 23) l10 c10 k10, PySem.W.mg_of X G a10, (fun_mk (st := topS 23) l10 c10 k10).binds (ps := f_fraction.ps) (fun _ _ _ _ _ _ us hl => match us, hl with | [_, _], _ => rfl), sc_fraction, ⟨_, tr_fraction⟩, fun l h => kw_some (l0 := [(((0 : Nat), (["bottom", "top"] : List Str)), ([1, 0] : List Nat))]) rfl (kwc (fun_kb (fun_mk (st := topS 23) l10 c10 k10) rfl (fun _ _ _ _ _ _ us ws h1 h2 => match us, h1, ws, h2 with | [], _, [_, _], _ => rfl)) kwn) h⟩
  have A11 : ∃ nm st a fd, FnAt K mg gt 60 f_plus nm st a fd := ⟨_, topS 24, f11, _, fun_mk (st := topS 24) l11 c11 k11, PySem.W.mg_of X G a11, (fun_mk (st := topS 24) l11 c11 k11).binds (ps := f_plus.ps) (fun _ _ _ _ _ _ us hl => match us, hl with | [_, _], _ => rfl), sc_plus, ⟨_, tr_plus⟩, fun l h => kw_some (l0 := [(((0 : Nat), (["other", "one"] : List Str)), ([1, 0] : List Nat))]) rfl (kwc (fun_kb (fun_mk (st := topS 24) l11 c11 k11) rfl (fun _ _ _ _ _ _ us ws h1 h2 => match us, h1, ws, h2 with | [], _, [_, _], _ => rfl)) kwn) h⟩
  have A12 : ∃ nm st a fd, FnAt K mg gt 60 f_minus nm st a fd := ⟨_, topS 25, f12, _, fun_mk (st := topS 25) l12 c12 k12, PySem.W.mg_of X G a12, (fun_mk (st := topS 25) l12 c12 k12).binds (ps := f_minus.ps) (fun _ _ _ _ _ _ us hl => match us, hl with | [_, _], _ => rfl), sc_minus, ⟨_, tr_minus⟩, fun l h => kw_some (l0 := [(((0 : Nat), (["other", "one"] : List Str)), ([1, 0] : List Nat))]) rfl (kwc (fun_kb (fun_mk (st := topS 25) l12 c12 k12) rfl (fun _ _ _ _ _ _ us ws h1 h2 => match us, h1, ws, h2 with | [], _, [_, _], _ => rfl)) kwn) h⟩
  have A13 : ∃ nm st a fd, FnAt K mg gt 60 f_times nm st a fd := ⟨_, topS 26, f13, _, fun_mk (st := topS 26) l13 c13 k13, PySem.W.mg_of X G a13, (fun_mk (st := topS 26) l13 c13 k13).binds (ps := f_times.ps) (fun _ _ _ _ _ _ us hl => match us, hl with | [_, _], _ => rfl), sc_times, ⟨_, tr_times⟩, fun l h => kw_some (l0 := [(((0 : Nat), (["other", "one"] : List Str)), ([1, 0] : List Nat))]) rfl (kwc (fun_kb (fun_mk (st := topS 26) l13 c13 k13) rfl (fun _ _ _ _ _ _ us ws h1 h2 => match us, h1, ws, h2 with | [], _, [_, _], _ => rfl)) kwn) h⟩
  have A14 : ∃ nm st a fd, FnAt K mg gt 60 f_over nm st a fd := ⟨_, topS 27, f14, _, fun_mk (st := topS 27) l14 c14 k14, PySem.W.mg_of X G a14, (fun_mk (st := topS 27) l14 c14 k14).binds (ps := f_over.ps) (fun _ _ _ _ _ _ us hl => match us, hl with | [_, _], _ => rfl), sc_over, ⟨_, tr_over⟩, fun l h => kw_some (l0 := [(((0 : Nat), (["other", "one"] : List Str)), ([1, 0] : List Nat))]) rfl (kwc (fun_kb (fun_mk (st := topS 27) l14 c14 k14) rfl (fun _ _ _ _ _ _ us ws h1 h2 => match us, h1, ws, h2 with | [], _, [_, _], _ => rfl)) kwn) h⟩
  have A15 : ∃ nm st a fd, FnAt K mg gt 60 f_compare nm st a fd := ⟨_, topS 28, f15, _, fun_mk (st := topS 28) l15 c15 k15, PySem.W.mg_of X G a15, (fun_mk (st := topS 28) l15 c15 k15).binds (ps := f_compare.ps) (fun _ _ _ _ _ _ us hl => match us, hl with | [_, _], _ => rfl), sc_compare, ⟨_, tr_compare⟩, fun l h => kw_some (l0 := [(((0 : Nat), (["other", "one"] : List Str)), ([1, 0] : List Nat))]) rfl (kwc (fun_kb (fun_mk (st := topS 28) l15 c15 k15) rfl (fun _ _ _ _ _ _ us ws h1 h2 => match us, h1, ws, h2 with | [], _, [_, _], _ => rfl)) kwn) h⟩
  have A16 : ∃ nm st a fd, FnAt K mg gt 60 f_is_pair nm st a fd := ⟨_, topS 31, f16, _, fun_mk (st := topS 31) l16 c16 k16, PySem.W.mg_of X G a16, (fun_mk (st := topS 31) l16 c16 k16).binds (ps := f_is_pair.ps) (fun _ _ _ _ _ _ us hl => match us, hl with | [_], _ => rfl), sc_is_pair, ⟨_, tr_is_pair⟩, fun l h => kw_some (l0 := [(((0 : Nat), (["value"] : List Str)), ([0] : List Nat))]) rfl (kwc (fun_kb (fun_mk (st := topS 31) l16 c16 k16) rfl (fun _ _ _ _ _ _ us ws h1 h2 => match us, h1, ws, h2 with | [], _, [_], _ => rfl)) kwn) h⟩
  have A17 : ∃ nm st a fd, FnAt K mg gt 60 f_turn_of nm st a fd := ⟨_, topS 32, f17, _, fun_mk (st := topS 32) l17 c17 k17, PySem.W.mg_of X G a17, (fun_mk (st := topS 32) l17 c17 k17).binds (ps := f_turn_of.ps) (fun _ _ _ _ _ _ us hl => match us, hl with | [_, _], _ => rfl), sc_turn_of, ⟨_, tr_turn_of⟩, fun l h => kw_none rfl h⟩
  have A18 : ∃ nm st a fd, FnAt K mg gt 60 f_joined nm st a fd := ⟨_, topS 33, f18, _, fun_mk (st := topS 33) l18 c18 k18, PySem.W.mg_of X G a18, (fun_mk (st := topS 33) l18 c18 k18).binds (ps := f_joined.ps) (fun _ _ _ _ _ _ us hl => match us, hl with | [_, _], _ => rfl), sc_joined, ⟨_, tr_joined⟩, fun l h => kw_none rfl h⟩
  have A19 : ∃ nm st a fd, FnAt K mg gt 60 f_spread_by nm st a fd := ⟨_, topS 34, f19, _, fun_mk (st := topS 34) l19 c19 k19, PySem.W.mg_of X G a19, (fun_mk (st := topS 34) l19 c19 k19).binds (ps := f_spread_by.ps) (fun _ _ _ _ _ _ us hl => match us, hl with | [_, _], _ => rfl), sc_spread_by, ⟨_, tr_spread_by⟩, fun l h => kw_none rfl h⟩
  have A20 : ∃ nm st a fd, FnAt K mg gt 60 f_need_pairs nm st a fd := ⟨_, topS 35, f20, _, fun_mk (st := topS 35) l20 c20 k20, PySem.W.mg_of X G a20, (fun_mk (st := topS 35) l20 c20 k20).binds (ps := f_need_pairs.ps) (fun _ _ _ _ _ _ us hl => match us, hl with | [_], _ => rfl), sc_need_pairs, ⟨_, tr_need_pairs⟩, fun l h => kw_none rfl h⟩
  have A21 : ∃ nm st a fd, FnAt K mg gt 60 f_is_ahead nm st a fd := ⟨_, topS 36, f21, _, fun_mk (st := topS 36) l21 c21 k21, PySem.W.mg_of X G a21, (fun_mk (st := topS 36) l21 c21 k21).binds (ps := f_is_ahead.ps) (fun _ _ _ _ _ _ us hl => match us, hl with | [_, _], _ => rfl), sc_is_ahead, ⟨_, tr_is_ahead⟩, fun l h => kw_some (l0 := [(((0 : Nat), (["other", "one"] : List Str)), ([1, 0] : List Nat))]) rfl (kwc (fun_kb (fun_mk (st := topS 36) l21 c21 k21) rfl (fun _ _ _ _ _ _ us ws h1 h2 => match us, h1, ws, h2 with | [], _, [_, _], _ => rfl)) kwn) h⟩
  have A22 : ∃ nm st a fd, FnAt K mg gt 60 f_are_level nm st a fd := ⟨_, topS 37, f22, _, fun_mk (st := topS 37) l22 c22 k22, PySem.W.mg_of X G a22, (fun_mk (st := topS 37) l22 c22 k22).binds (ps := f_are_level.ps) (fun _ _ _ _ _ _ us hl => match us, hl with | [_, _], _ => rfl), sc_are_level, ⟨_, tr_are_level⟩, fun l h => kw_some (l0 := [(((0 : Nat), (["other", "one"] : List Str)), ([1, 0] : List Nat))]) rfl (kwc (fun_kb (fun_mk (st := topS 37) l22 c22 k22) rfl (fun _ _ _ _ _ _ us ws h1 h2 => match us, h1, ws, h2 with | [], _, [_, _], _ => rfl)) kwn) h⟩
  have A23 : ∃ nm st a fd, FnAt K mg gt 60 f_total nm st a fd := ⟨_, topS 38, f23, _, fun_mk (st := topS 38) l23 c23 k23, PySem.W.mg_of X G a23, (fun_mk (st := topS 38) l23 c23 k23).binds (ps := f_total.ps) (fun _ _ _ _ _ _ us hl => match us, hl with | [_], _ => rfl), sc_total, ⟨_, tr_total⟩, fun l h => kw_some (l0 := [(((0 : Nat), (["pairs"] : List Str)), ([0] : List Nat))]) rfl (kwc (fun_kb (fun_mk (st := topS 38) l23 c23 k23) rfl (fun _ _ _ _ _ _ us ws h1 h2 => match us, h1, ws, h2 with | [], _, [_], _ => rfl)) kwn) h⟩
  have A24 : ∃ nm st a fd, FnAt K mg gt 60 f_spread nm st a fd := ⟨_, topS 39, f24, _, fun_mk (st := topS 39) l24 c24 k24, PySem.W.mg_of X G a24, (fun_mk (st := topS 39) l24 c24 k24).binds (ps := f_spread.ps) (fun _ _ _ _ _ _ us hl => match us, hl with | [_, _], _ => rfl), sc_spread, ⟨_, tr_spread⟩, fun l h => kw_some (l0 := [(((0 : Nat), (["share", "pair"] : List Str)), ([1, 0] : List Nat))]) rfl (kwc (fun_kb (fun_mk (st := topS 39) l24 c24 k24) rfl (fun _ _ _ _ _ _ us ws h1 h2 => match us, h1, ws, h2 with | [], _, [_, _], _ => rfl)) kwn) h⟩
  have A25 : ∃ nm st a fd, FnAt K mg gt 60 f_need_list nm st a fd := ⟨_, topS 42, f25, _, fun_mk (st := topS 42) l25 c25 k25, PySem.W.mg_of X G a25, (fun_mk (st := topS 42) l25 c25 k25).binds (ps := f_need_list.ps) (fun _ _ _ _ _ _ us hl => match us, hl with | [_], _ => rfl), sc_need_list, ⟨_, tr_need_list⟩, fun l h => kw_none rfl h⟩
  have A26 : ∃ nm st a fd, FnAt K mg gt 60 f_measure nm st a fd := ⟨_, topS 43, f26, _, fun_mk (st := topS 43) l26 c26 k26, PySem.W.mg_of X G a26, (fun_mk (st := topS 43) l26 c26 k26).binds (ps := f_measure.ps) (fun _ _ _ _ _ _ us hl => match us, hl with | [_, _], _ => rfl), sc_measure, ⟨_, tr_measure⟩, fun l h => kw_none rfl h⟩
  have A27 : ∃ nm st a fd, FnAt K mg gt 60 f_is_along nm st a fd := ⟨_, topS 44, f27, _, fun_mk (st := topS 44) l27 c27 k27, PySem.W.mg_of X G a27, (fun_mk (st := topS 44) l27 c27 k27).binds (ps := f_is_along.ps) (fun _ _ _ _ _ _ us hl => match us, hl with | [_, _], _ => rfl), sc_is_along, ⟨_, tr_is_along⟩, fun l h => kw_none rfl h⟩
  have A28 : ∃ nm st a fd, FnAt K mg gt 60 f_find_ends nm st a fd := ⟨_, topS 45, f28, _, fun_mk (st := topS 45) l28 c28 k28, PySem.W.mg_of X G a28, (fun_mk (st := topS 45) l28 c28 k28).binds (ps := f_find_ends.ps) (fun _ _ _ _ _ _ us hl => match us, hl with | [_], _ => rfl), sc_find_ends, ⟨_, tr_find_ends⟩, fun l h => kw_none rfl h⟩
  have A29 : ∃ nm st a fd, FnAt K mg gt 60 f_find_witness nm st a fd := ⟨_, topS 46, f29, _, fun_mk (st := topS 46) l29 c29 k29, PySem.W.mg_of X G a29, (fun_mk (st := topS 46) l29 c29 k29).binds (ps := f_find_witness.ps) (fun _ _ _ _ _ _ us hl => match us, hl with | [_], _ => rfl), sc_find_witness, ⟨_, tr_find_witness⟩, fun l h => kw_none rfl h⟩
  have A30 : ∃ nm st a fd, FnAt K mg gt 60 f_are_positive nm st a fd := ⟨_, topS 47, f30, _, fun_mk (st := topS 47) l30 c30 k30, PySem.W.mg_of X G a30, (fun_mk (st := topS 47) l30 c30 k30).binds (ps := f_are_positive.ps) (fun _ _ _ _ _ _ us hl => match us, hl with | [_, _], _ => rfl), sc_are_positive, ⟨_, tr_are_positive⟩, fun l h => kw_none rfl h⟩
  have A31 : ∃ nm st a fd, FnAt K mg gt 60 f_cross nm st a fd := ⟨_, topS 48, f31, _, fun_mk (st := topS 48) l31 c31 k31, PySem.W.mg_of X G a31, (fun_mk (st := topS 48) l31 c31 k31).binds (ps := f_cross.ps) (fun _ _ _ _ _ _ us hl => match us, hl with | [_, _], _ => rfl), sc_cross, ⟨_, tr_cross⟩, fun l h => kw_none rfl h⟩
  have A32 : ∃ nm st a fd, FnAt K mg gt 60 f_opposite_of nm st a fd := ⟨_, topS 49, f32, _, fun_mk (st := topS 49) l32 c32 k32, PySem.W.mg_of X G a32, (fun_mk (st := topS 49) l32 c32 k32).binds (ps := f_opposite_of.ps) (fun _ _ _ _ _ _ us hl => match us, hl with | [_, _, _], _ => rfl), sc_opposite_of, ⟨_, tr_opposite_of⟩, fun l h => kw_none rfl h⟩
  have A33 : ∃ nm st a fd, FnAt K mg gt 60 f_round_of nm st a fd := ⟨_, topS 50, f33, _, fun_mk (st := topS 50) l33 c33 k33, PySem.W.mg_of X G a33, (fun_mk (st := topS 50) l33 c33 k33).binds (ps := f_round_of.ps) (fun _ _ _ _ _ _ us hl => match us, hl with | [_, _], _ => rfl), sc_round_of, ⟨_, tr_round_of⟩, fun l h => kw_none rfl h⟩
  have A34 : ∃ nm st a fd, FnAt K mg gt 60 f_find_ring nm st a fd := ⟨_, topS 51, f34, _, fun_mk (st := topS 51) l34 c34 k34, PySem.W.mg_of X G a34, (fun_mk (st := topS 51) l34 c34 k34).binds (ps := f_find_ring.ps) (fun _ _ _ _ _ _ us hl => match us, hl with | [_], _ => rfl), sc_find_ring, ⟨_, tr_find_ring⟩, fun l h => kw_none rfl h⟩
  have A35 : ∃ nm st a fd, FnAt K mg gt 60 f_witness nm st a fd := ⟨_, topS 52, f35, _, fun_mk (st := topS 52) l35 c35 k35, PySem.W.mg_of X G a35, (fun_mk (st := topS 52) l35 c35 k35).binds (ps := f_witness.ps) (fun _ _ _ _ _ _ us hl => match us, hl with | [_], _ => rfl), sc_witness, ⟨_, tr_witness⟩, fun l h => kw_some (l0 := [(((0 : Nat), (["pairs"] : List Str)), ([0] : List Nat))]) rfl (kwc (fun_kb (fun_mk (st := topS 52) l35 c35 k35) rfl (fun _ _ _ _ _ _ us ws h1 h2 => match us, h1, ws, h2 with | [], _, [_], _ => rfl)) kwn) h⟩
  have A36 : ∃ nm st a fd, FnAt K mg gt 60 f_is_witness nm st a fd := ⟨_, topS 53, f36, _, fun_mk (st := topS 53) l36 c36 k36, PySem.W.mg_of X G a36, (fun_mk (st := topS 53) l36 c36 k36).binds (ps := f_is_witness.ps) (fun _ _ _ _ _ _ us hl => match us, hl with | [_, _], _ => rfl), sc_is_witness, ⟨_, tr_is_witness⟩, fun l h => kw_some (l0 := [(((0 : Nat), (["value", "pairs"] : List Str)), ([1, 0] : List Nat))]) rfl (kwc (fun_kb (fun_mk (st := topS 53) l36 c36 k36) rfl (fun _ _ _ _ _ _ us ws h1 h2 => match us, h1, ws, h2 with | [], _, [_, _], _ => rfl)) kwn) h⟩
  have A37 : ∃ nm st a fd, FnAt K mg gt 60 f_ring nm st a fd := ⟨_, topS 54, f37, _, fun_mk (st := topS 54) l37 c37 k37, PySem.W.mg_of X G a37, (fun_mk (st := topS 54) l37 c37 k37).binds (ps := f_ring.ps) (fun _ _ _ _ _ _ us hl => match us, hl with | [_], _ => rfl), sc_ring, ⟨_, tr_ring⟩, fun l h => kw_some (l0 := [(((0 : Nat), (["pairs"] : List Str)), ([0] : List Nat))]) rfl (kwc (fun_kb (fun_mk (st := topS 54) l37 c37 k37) rfl (fun _ _ _ _ _ _ us ws h1 h2 => match us, h1, ws, h2 with | [], _, [_], _ => rfl)) kwn) h⟩
  have A38 : ∃ nm st a fd, FnAt K mg gt 60 f_is_share_frames nm st a fd := ⟨_, topS 55, f38, _, fun_mk (st := topS 55) l38 c38 k38, PySem.W.mg_of X G a38, (fun_mk (st := topS 55) l38 c38 k38).binds (ps := f_is_share_frames.ps) (fun _ _ _ _ _ _ us hl => match us, hl with | [_, _], _ => rfl), sc_is_share_frames, ⟨_, tr_is_share_frames⟩, fun l h => kw_none rfl h⟩
  have A39 : ∃ nm st a fd, FnAt K mg gt 60 f_is_ring nm st a fd := ⟨_, topS 57, f39, _, fun_mk (st := topS 57) l39 c39 k39, PySem.W.mg_of X G a39, (fun_mk (st := topS 57) l39 c39 k39).binds (ps := f_is_ring.ps) (fun _ _ _ _ _ _ us hl => match us, hl with | [_, _], _ => rfl), sc_is_ring, ⟨_, tr_is_ring⟩, fun l h => kw_some (l0 := [(((0 : Nat), (["value", "pairs"] : List Str)), ([1, 0] : List Nat))]) rfl (kwc (fun_kb (fun_mk (st := topS 57) l39 c39 k39) rfl (fun _ _ _ _ _ _ us ws h1 h2 => match us, h1, ws, h2 with | [], _, [_, _], _ => rfl)) kwn) h⟩
  have A40 : ∃ nm st a fd, FnAt K mg gt 60 f_weights_left nm st a fd := ⟨_, topS 61, f40, _, fun_mk (st := topS 61) l40 c40 k40, PySem.W.mg_of X G a40, (fun_mk (st := topS 61) l40 c40 k40).binds (ps := f_weights_left.ps) (fun _ _ _ _ _ _ us hl => match us, hl with | [_], _ => rfl), sc_weights_left, ⟨_, tr_weights_left⟩, fun l h => kw_none rfl h⟩
  have A41 : ∃ nm st a fd, FnAt K mg gt 60 f_are_rungs nm st a fd := ⟨_, topS 62, f41, _, fun_mk (st := topS 62) l41 c41 k41, PySem.W.mg_of X G a41, (fun_mk (st := topS 62) l41 c41 k41).binds (ps := f_are_rungs.ps) (fun _ _ _ _ _ _ us hl => match us, hl with | [_], _ => rfl), sc_are_rungs, ⟨_, tr_are_rungs⟩, fun l h => kw_none rfl h⟩
  have A42 : ∃ nm st a fd, FnAt K mg gt 60 f_is_ladder nm st a fd := ⟨_, topS 63, f42, _, fun_mk (st := topS 63) l42 c42 k42, PySem.W.mg_of X G a42, (fun_mk (st := topS 63) l42 c42 k42).binds (ps := f_is_ladder.ps) (fun _ _ _ _ _ _ us hl => match us, hl with | [_], _ => rfl), sc_is_ladder, ⟨_, tr_is_ladder⟩, fun l h => kw_some (l0 := [(((0 : Nat), (["value"] : List Str)), ([0] : List Nat))]) rfl (kwc (fun_kb (fun_mk (st := topS 63) l42 c42 k42) rfl (fun _ _ _ _ _ _ us ws h1 h2 => match us, h1, ws, h2 with | [], _, [_], _ => rfl)) kwn) h⟩
  have A43 : ∃ nm st a fd, FnAt K mg gt 60 f_need_ladder nm st a fd := ⟨_, topS 64, f43, _, fun_mk (st := topS 64) l43 c43 k43, PySem.W.mg_of X G a43, (fun_mk (st := topS 64) l43 c43 k43).binds (ps := f_need_ladder.ps) (fun _ _ _ _ _ _ us hl => match us, hl with | [_], _ => rfl), sc_need_ladder, ⟨_, tr_need_ladder⟩, fun l h => kw_none rfl h⟩
  have A44 : ∃ nm st a fd, FnAt K mg gt 60 f_need_ladders nm st a fd := ⟨_, topS 65, f44, _, fun_mk (st := topS 65) l44 c44 k44, PySem.W.mg_of X G a44, (fun_mk (st := topS 65) l44 c44 k44).binds (ps := f_need_ladders.ps) (fun _ _ _ _ _ _ us hl => match us, hl with | [_], _ => rfl), sc_need_ladders, ⟨_, tr_need_ladders⟩, fun l h => kw_none rfl h⟩
  have A45 : ∃ nm st a fd, FnAt K mg gt 60 f_sum_of_pays nm st a fd := ⟨_, topS 66, f45, _, fun_mk (st := topS 66) l45 c45 k45, PySem.W.mg_of X G a45, (fun_mk (st := topS 66) l45 c45 k45).binds (ps := f_sum_of_pays.ps) (fun _ _ _ _ _ _ us hl => match us, hl with | [_], _ => rfl), sc_sum_of_pays, ⟨_, tr_sum_of_pays⟩, fun l h => kw_none rfl h⟩
  have A46 : ∃ nm st a fd, FnAt K mg gt 60 f_pays nm st a fd := ⟨_, topS 67, f46, _, fun_mk (st := topS 67) l46 c46 k46, PySem.W.mg_of X G a46, (fun_mk (st := topS 67) l46 c46 k46).binds (ps := f_pays.ps) (fun _ _ _ _ _ _ us hl => match us, hl with | [_], _ => rfl), sc_pays, ⟨_, tr_pays⟩, fun l h => kw_some (l0 := [(((0 : Nat), (["ladder"] : List Str)), ([0] : List Nat))]) rfl (kwc (fun_kb (fun_mk (st := topS 67) l46 c46 k46) rfl (fun _ _ _ _ _ _ us ws h1 h2 => match us, h1, ws, h2 with | [], _, [_], _ => rfl)) kwn) h⟩
  have A47 : ∃ nm st a fd, FnAt K mg gt 60 f_left nm st a fd := ⟨_, topS 68, f47, _, fun_mk (st := topS 68) l47 c47 k47, PySem.W.mg_of X G a47, (fun_mk (st := topS 68) l47 c47 k47).binds (ps := f_left.ps) (fun _ _ _ _ _ _ us hl => match us, hl with | [_], _ => rfl), sc_left, ⟨_, tr_left⟩, fun l h => kw_some (l0 := [(((0 : Nat), (["ladder"] : List Str)), ([0] : List Nat))]) rfl (kwc (fun_kb (fun_mk (st := topS 68) l47 c47 k47) rfl (fun _ _ _ _ _ _ us ws h1 h2 => match us, h1, ws, h2 with | [], _, [_], _ => rfl)) kwn) h⟩
  have A48 : ∃ nm st a fd, FnAt K mg gt 60 f_chain nm st a fd := ⟨_, topS 69, f48, _, fun_mk (st := topS 69) l48 c48 k48, PySem.W.mg_of X G a48, (fun_mk (st := topS 69) l48 c48 k48).binds (ps := f_chain.ps) (fun _ _ _ _ _ _ us hl => match us, hl with | [_], _ => rfl), sc_chain, ⟨_, tr_chain⟩, fun l h => kw_some (l0 := [(((0 : Nat), (["ladder"] : List Str)), ([0] : List Nat))]) rfl (kwc (fun_kb (fun_mk (st := topS 69) l48 c48 k48) rfl (fun _ _ _ _ _ _ us ws h1 h2 => match us, h1, ws, h2 with | [], _, [_], _ => rfl)) kwn) h⟩
  have A49 : ∃ nm st a fd, FnAt K mg gt 60 f_is_same_frame nm st a fd := ⟨_, topS 70, f49, _, fun_mk (st := topS 70) l49 c49 k49, PySem.W.mg_of X G a49, (fun_mk (st := topS 70) l49 c49 k49).binds (ps := f_is_same_frame.ps) (fun _ _ _ _ _ _ us hl => match us, hl with | [_], _ => rfl), sc_is_same_frame, ⟨_, tr_is_same_frame⟩, fun l h => kw_some (l0 := [(((0 : Nat), (["ladders"] : List Str)), ([0] : List Nat))]) rfl (kwc (fun_kb (fun_mk (st := topS 70) l49 c49 k49) rfl (fun _ _ _ _ _ _ us ws h1 h2 => match us, h1, ws, h2 with | [], _, [_], _ => rfl)) kwn) h⟩
  have A50 : ∃ nm st a fd, FnAt K mg gt 60 f_need_frame nm st a fd := ⟨_, topS 72, f50, _, fun_mk (st := topS 72) l50 c50 k50, PySem.W.mg_of X G a50, (fun_mk (st := topS 72) l50 c50 k50).binds (ps := f_need_frame.ps) (fun _ _ _ _ _ _ us hl => match us, hl with | [_], _ => rfl), sc_need_frame, ⟨_, tr_need_frame⟩, fun l h => kw_none rfl h⟩
  have A51 : ∃ nm st a fd, FnAt K mg gt 60 f_merge nm st a fd := ⟨_, topS 73, f51, _, fun_mk (st := topS 73) l51 c51 k51, PySem.W.mg_of X G a51, (fun_mk (st := topS 73) l51 c51 k51).binds (ps := f_merge.ps) (fun _ _ _ _ _ _ us hl => match us, hl with | [_], _ => rfl), sc_merge, ⟨_, tr_merge⟩, fun l h => kw_none rfl h⟩
  have A52 : ∃ nm st a fd, FnAt K mg gt 60 f_glued nm st a fd := ⟨_, topS 74, f52, _, fun_mk (st := topS 74) l52 c52 k52, PySem.W.mg_of X G a52, (fun_mk (st := topS 74) l52 c52 k52).binds (ps := f_glued.ps) (fun _ _ _ _ _ _ us hl => match us, hl with | [_, _], _ => rfl), sc_glued, ⟨_, tr_glued⟩, fun l h => kw_none rfl h⟩
  have A53 : ∃ nm st a fd, FnAt K mg gt 60 f_foremost_of nm st a fd := ⟨_, topS 75, f53, _, fun_mk (st := topS 75) l53 c53 k53, PySem.W.mg_of X G a53, (fun_mk (st := topS 75) l53 c53 k53).binds (ps := f_foremost_of.ps) (fun _ _ _ _ _ _ us hl => match us, hl with | [_], _ => rfl), sc_foremost_of, ⟨_, tr_foremost_of⟩, fun l h => kw_none rfl h⟩
  have A54 : ∃ nm st a fd, FnAt K mg gt 60 f_beside_one_another nm st a fd := ⟨_, topS 76, f54, _, fun_mk (st := topS 76) l54 c54 k54, PySem.W.mg_of X G a54, (fun_mk (st := topS 76) l54 c54 k54).binds (ps := f_beside_one_another.ps) (fun _ _ _ _ _ _ us hl => match us, hl with | [_], _ => rfl), sc_beside_one_another, ⟨_, tr_beside_one_another⟩, fun l h => kw_none rfl h⟩
  have A55 : ∃ nm st a fd, FnAt K mg gt 60 f_shared nm st a fd := ⟨_, topS 77, f55, _, fun_mk (st := topS 77) l55 c55 k55, PySem.W.mg_of X G a55, (fun_mk (st := topS 77) l55 c55 k55).binds (ps := f_shared.ps) (fun _ _ _ _ _ _ us hl => match us, hl with | [_], _ => rfl), sc_shared, ⟨_, tr_shared⟩, fun l h => kw_none rfl h⟩
  have A56 : ∃ nm st a fd, FnAt K mg gt 60 f_put_together nm st a fd := ⟨_, topS 78, f56, _, fun_mk (st := topS 78) l56 c56 k56, PySem.W.mg_of X G a56, (fun_mk (st := topS 78) l56 c56 k56).binds (ps := f_put_together.ps) (fun _ _ _ _ _ _ us hl => match us, hl with | [_], _ => rfl), sc_put_together, ⟨_, tr_put_together⟩, fun l h => kw_some (l0 := [(((0 : Nat), (["rungs"] : List Str)), ([0] : List Nat))]) rfl (kwc (fun_kb (fun_mk (st := topS 78) l56 c56 k56) rfl (fun _ _ _ _ _ _ us ws h1 h2 => match us, h1, ws, h2 with | [], _, [_], _ => rfl)) kwn) h⟩
  have A57 : ∃ nm st a fd, FnAt K mg gt 60 f_glue nm st a fd := ⟨_, topS 79, f57, _, fun_mk (st := topS 79) l57 c57 k57, PySem.W.mg_of X G a57, (fun_mk (st := topS 79) l57 c57 k57).binds (ps := f_glue.ps) (fun _ _ _ _ _ _ us hl => match us, hl with | [_, _], _ => rfl), sc_glue, ⟨_, tr_glue⟩, fun l h => kw_some (l0 := [(((0 : Nat), (["rungs", "pair"] : List Str)), ([1, 0] : List Nat))]) rfl (kwc (fun_kb (fun_mk (st := topS 79) l57 c57 k57) rfl (fun _ _ _ _ _ _ us ws h1 h2 => match us, h1, ws, h2 with | [], _, [_, _], _ => rfl)) kwn) h⟩
  have A58 : ∃ nm st a fd, FnAt K mg gt 60 f_side_by_side nm st a fd := ⟨_, topS 80, f58, _, fun_mk (st := topS 80) l58 c58 k58, PySem.W.mg_of X G a58, (fun_mk (st := topS 80) l58 c58 k58).binds (ps := f_side_by_side.ps) (fun _ _ _ _ _ _ us hl => match us, hl with | [_], _ => rfl), sc_side_by_side, ⟨_, tr_side_by_side⟩, fun l h => kw_some (l0 := [(((0 : Nat), (["ladders"] : List Str)), ([0] : List Nat))]) rfl (kwc (fun_kb (fun_mk (st := topS 80) l58 c58 k58) rfl (fun _ _ _ _ _ _ us ws h1 h2 => match us, h1, ws, h2 with | [], _, [_], _ => rfl)) kwn) h⟩
  have A59 : ∃ nm st a fd, FnAt K mg gt 60 f_is_share_algebra nm st a fd := ⟨_, topS 81, f59, _, fun_mk (st := topS 81) l59 c59 k59, PySem.W.mg_of X G a59, (fun_mk (st := topS 81) l59 c59 k59).binds (ps := f_is_share_algebra.ps) (fun _ _ _ _ _ _ us hl => match us, hl with | [_], _ => rfl), sc_is_share_algebra, ⟨_, tr_is_share_algebra⟩, fun l h => kw_none rfl h⟩
  have A60 : ∃ nm st a fd, FnAt K mg gt 60 f_blend nm st a fd := ⟨_, topS 83, f60, _, fun_mk (st := topS 83) l60 c60 k60, PySem.W.mg_of X G a60, (fun_mk (st := topS 83) l60 c60 k60).binds (ps := f_blend.ps) (fun _ _ _ _ _ _ us hl => match us, hl with | [_], _ => rfl), sc_blend, ⟨_, tr_blend⟩, fun l h => kw_some (l0 := [(((0 : Nat), (["shares"] : List Str)), ([0] : List Nat))]) rfl (kwc (fun_kb (fun_mk (st := topS 83) l60 c60 k60) rfl (fun _ _ _ _ _ _ us ws h1 h2 => match us, h1, ws, h2 with | [], _, [_], _ => rfl)) kwn) h⟩
  have A61 : ∃ nm st a fd, FnAt K mg gt 60 f_counts_together nm st a fd := ⟨_, topS 91, f61, _, fun_mk (st := topS 91) l61 c61 k61, PySem.W.mg_of X G a61, (fun_mk (st := topS 91) l61 c61 k61).binds (ps := f_counts_together.ps) (fun _ _ _ _ _ _ us hl => match us, hl with | [_], _ => rfl), sc_counts_together, ⟨_, tr_counts_together⟩, fun l h => kw_none rfl h⟩
  have A62 : ∃ nm st a fd, FnAt K mg gt 60 f_is_outcome nm st a fd := ⟨_, topS 92, f62, _, fun_mk (st := topS 92) l62 c62 k62, PySem.W.mg_of X G a62, (fun_mk (st := topS 92) l62 c62 k62).binds (ps := f_is_outcome.ps) (fun _ _ _ _ _ _ us hl => match us, hl with | [_], _ => rfl), sc_is_outcome, ⟨_, tr_is_outcome⟩, fun l h => kw_none rfl h⟩
  have A63 : ∃ nm st a fd, FnAt K mg gt 60 f_counts_of nm st a fd := ⟨_, topS 93, f63, _, fun_mk (st := topS 93) l63 c63 k63, PySem.W.mg_of X G a63, (fun_mk (st := topS 93) l63 c63 k63).binds (ps := f_counts_of.ps) (fun _ _ _ _ _ _ us hl => match us, hl with | [_], _ => rfl), sc_counts_of, ⟨_, tr_counts_of⟩, fun l h => kw_none rfl h⟩
  have A64 : ∃ nm st a fd, FnAt K mg gt 60 f_is_term nm st a fd := ⟨_, topS 94, f64, _, fun_mk (st := topS 94) l64 c64 k64, PySem.W.mg_of X G a64, (fun_mk (st := topS 94) l64 c64 k64).binds (ps := f_is_term.ps) (fun _ _ _ _ _ _ us hl => match us, hl with | [_], _ => rfl), sc_is_term, ⟨_, tr_is_term⟩, fun l h => kw_none rfl h⟩
  have A65 : ∃ nm st a fd, FnAt K mg gt 60 f_is_mix nm st a fd := ⟨_, topS 95, f65, _, fun_mk (st := topS 95) l65 c65 k65, PySem.W.mg_of X G a65, (fun_mk (st := topS 95) l65 c65 k65).binds (ps := f_is_mix.ps) (fun _ _ _ _ _ _ us hl => match us, hl with | [_], _ => rfl), sc_is_mix, ⟨_, tr_is_mix⟩, fun l h => kw_none rfl h⟩
  have A66 : ∃ nm st a fd, FnAt K mg gt 60 f_within nm st a fd := ⟨_, topS 96, f66, _, fun_mk (st := topS 96) l66 c66 k66, PySem.W.mg_of X G a66, (fun_mk (st := topS 96) l66 c66 k66).binds (ps := f_within.ps) (fun _ _ _ _ _ _ us hl => match us, hl with | [_], _ => rfl), sc_within, ⟨_, tr_within⟩, fun l h => kw_none rfl h⟩
  have A67 : ∃ nm st a fd, FnAt K mg gt 60 f_parts_of nm st a fd := ⟨_, topS 97, f67, _, fun_mk (st := topS 97) l67 c67 k67, PySem.W.mg_of X G a67, (fun_mk (st := topS 97) l67 c67 k67).binds (ps := f_parts_of.ps) (fun _ _ _ _ _ _ us hl => match us, hl with | [_], _ => rfl), sc_parts_of, ⟨_, tr_parts_of⟩, fun l h => kw_none rfl h⟩
  have A68 : ∃ nm st a fd, FnAt K mg gt 60 f_factor_of nm st a fd := ⟨_, topS 98, f68, _, fun_mk (st := topS 98) l68 c68 k68, PySem.W.mg_of X G a68, (fun_mk (st := topS 98) l68 c68 k68).binds (ps := f_factor_of.ps) (fun _ _ _ _ _ _ us hl => match us, hl with | [_], _ => rfl), sc_factor_of, ⟨_, tr_factor_of⟩, fun l h => kw_none rfl h⟩
  have A69 : ∃ nm st a fd, FnAt K mg gt 60 f_step_pair nm st a fd := ⟨_, topS 99, f69, _, fun_mk (st := topS 99) l69 c69 k69, PySem.W.mg_of X G a69, (fun_mk (st := topS 99) l69 c69 k69).binds (ps := f_step_pair.ps) (fun _ _ _ _ _ _ us hl => match us, hl with | [_], _ => rfl), sc_step_pair, ⟨_, tr_step_pair⟩, fun l h => kw_none rfl h⟩
  have A70 : ∃ nm st a fd, FnAt K mg gt 60 f_frame_pairs nm st a fd := ⟨_, topS 101, f70, _, fun_mk (st := topS 101) l70 c70 k70, PySem.W.mg_of X G a70, (fun_mk (st := topS 101) l70 c70 k70).binds (ps := f_frame_pairs.ps) (fun _ _ _ _ _ _ us hl => match us, hl with | [_], _ => rfl), sc_frame_pairs, ⟨_, tr_frame_pairs⟩, fun l h => kw_none rfl h⟩
  have A71 : ∃ nm st a fd, FnAt K mg gt 60 f_find_ladder nm st a fd := ⟨_, topS 102, f71, _, fun_mk (st := topS 102) l71 c71 k71, PySem.W.mg_of X G a71, (fun_mk (st := topS 102) l71 c71 k71).binds (ps := f_find_ladder.ps) (fun _ _ _ _ _ _ us hl => match us, hl with | [_], _ => rfl), sc_find_ladder, ⟨_, tr_find_ladder⟩, fun l h => kw_none rfl h⟩
  have A72 : ∃ nm st a fd, FnAt K mg gt 60 f_number_of nm st a fd := ⟨_, topS 103, f72, _, fun_mk (st := topS 103) l72 c72 k72, PySem.W.mg_of X G a72, (fun_mk (st := topS 103) l72 c72 k72).binds (ps := f_number_of.ps) (fun _ _ _ _ _ _ us hl => match us, hl with | [_], _ => rfl), sc_number_of, ⟨_, tr_number_of⟩, fun l h => kw_none rfl h⟩
  have A73 : ∃ nm st a fd, FnAt K mg gt 60 f_need_term nm st a fd := ⟨_, topS 104, f73, _, fun_mk (st := topS 104) l73 c73 k73, PySem.W.mg_of X G a73, (fun_mk (st := topS 104) l73 c73 k73).binds (ps := f_need_term.ps) (fun _ _ _ _ _ _ us hl => match us, hl with | [_], _ => rfl), sc_need_term, ⟨_, tr_need_term⟩, fun l h => kw_none rfl h⟩
  have A74 : ∃ nm st a fd, FnAt K mg gt 60 f_ladder_of nm st a fd := ⟨_, topS 105, f74, _, fun_mk (st := topS 105) l74 c74 k74, PySem.W.mg_of X G a74, (fun_mk (st := topS 105) l74 c74 k74).binds (ps := f_ladder_of.ps) (fun _ _ _ _ _ _ us hl => match us, hl with | [_], _ => rfl), sc_ladder_of, ⟨_, tr_ladder_of⟩, fun l h => kw_some (l0 := [(((0 : Nat), (["term"] : List Str)), ([0] : List Nat))]) rfl (kwc (fun_kb (fun_mk (st := topS 105) l74 c74 k74) rfl (fun _ _ _ _ _ _ us ws h1 h2 => match us, h1, ws, h2 with | [], _, [_], _ => rfl)) kwn) h⟩
  have A75 : ∃ nm st a fd, FnAt K mg gt 60 f_numbers nm st a fd := ⟨_, topS 106, f75, _, fun_mk (st := topS 106) l75 c75 k75, PySem.W.mg_of X G a75, (fun_mk (st := topS 106) l75 c75 k75).binds (ps := f_numbers.ps) (fun _ _ _ _ _ _ us hl => match us, hl with | [_], _ => rfl), sc_numbers, ⟨_, tr_numbers⟩, fun l h => kw_some (l0 := [(((0 : Nat), (["term"] : List Str)), ([0] : List Nat))]) rfl (kwc (fun_kb (fun_mk (st := topS 106) l75 c75 k75) rfl (fun _ _ _ _ _ _ us ws h1 h2 => match us, h1, ws, h2 with | [], _, [_], _ => rfl)) kwn) h⟩
  have A76 : ∃ nm st a fd, FnAt K mg gt 60 f_mix_ladder nm st a fd := ⟨_, topS 107, f76, _, fun_mk (st := topS 107) l76 c76 k76, PySem.W.mg_of X G a76, (fun_mk (st := topS 107) l76 c76 k76).binds (ps := f_mix_ladder.ps) (fun _ _ _ _ _ _ us hl => match us, hl with | [_], _ => rfl), sc_mix_ladder, ⟨_, tr_mix_ladder⟩, fun l h => kw_some (l0 := [(((0 : Nat), (["mix"] : List Str)), ([0] : List Nat))]) rfl (kwc (fun_kb (fun_mk (st := topS 107) l76 c76 k76) rfl (fun _ _ _ _ _ _ us ws h1 h2 => match us, h1, ws, h2 with | [], _, [_], _ => rfl)) kwn) h⟩
  have A77 : ∃ nm st a fd, FnAt K mg gt 60 f_beneath nm st a fd := ⟨_, topS 109, f77, _, fun_mk (st := topS 109) l77 c77 k77, PySem.W.mg_of X G a77, (fun_mk (st := topS 109) l77 c77 k77).binds (ps := f_beneath.ps) (fun _ _ _ _ _ _ us hl => match us, hl with | [_], _ => rfl), sc_beneath, ⟨_, tr_beneath⟩, fun l h => kw_none rfl h⟩
  have A78 : ∃ nm st a fd, FnAt K mg gt 60 f_follows nm st a fd := ⟨_, topS 110, f78, _, fun_mk (st := topS 110) l78 c78 k78, PySem.W.mg_of X G a78, (fun_mk (st := topS 110) l78 c78 k78).binds (ps := f_follows.ps) (fun _ _ _ _ _ _ us hl => match us, hl with | [_, _, _], _ => rfl), sc_follows, ⟨_, tr_follows⟩, fun l h => kw_none rfl h⟩
  have A79 : ∃ nm st a fd, FnAt K mg gt 60 f_paper nm st a fd := ⟨_, topS 111, f79, _, fun_mk (st := topS 111) l79 c79 k79, PySem.W.mg_of X G a79, (fun_mk (st := topS 111) l79 c79 k79).binds (ps := f_paper.ps) (fun _ _ _ _ _ _ us hl => match us, hl with | [_], _ => rfl), sc_paper, ⟨_, tr_paper⟩, fun l h => kw_some (l0 := [(((0 : Nat), (["term"] : List Str)), ([0] : List Nat))]) rfl (kwc (fun_kb (fun_mk (st := topS 111) l79 c79 k79) rfl (fun _ _ _ _ _ _ us ws h1 h2 => match us, h1, ws, h2 with | [], _, [_], _ => rfl)) kwn) h⟩
  have A80 : ∃ nm st a fd, FnAt K mg gt 60 f_is_right nm st a fd := ⟨_, topS 112, f80, _, fun_mk (st := topS 112) l80 c80 k80, PySem.W.mg_of X G a80, (fun_mk (st := topS 112) l80 c80 k80).binds (ps := f_is_right.ps) (fun _ _ _ _ _ _ us hl => match us, hl with | [_, _], _ => rfl), sc_is_right, ⟨_, tr_is_right⟩, fun l h => kw_none rfl h⟩
  have A81 : ∃ nm st a fd, FnAt K mg gt 60 f_is_paper nm st a fd := ⟨_, topS 113, f81, _, fun_mk (st := topS 113) l81 c81 k81, PySem.W.mg_of X G a81, (fun_mk (st := topS 113) l81 c81 k81).binds (ps := f_is_paper.ps) (fun _ _ _ _ _ _ us hl => match us, hl with | [_, _], _ => rfl), sc_is_paper, ⟨_, tr_is_paper⟩, fun l h => kw_some (l0 := [(((0 : Nat), (["value", "term"] : List Str)), ([1, 0] : List Nat))]) rfl (kwc (fun_kb (fun_mk (st := topS 113) l81 c81 k81) rfl (fun _ _ _ _ _ _ us ws h1 h2 => match us, h1, ws, h2 with | [], _, [_, _], _ => rfl)) kwn) h⟩
  have A82 : ∃ nm st a fd, FnAt K mg gt 60 f_law nm st a fd := ⟨_, topS 115, f82, _, fun_mk (st := topS 115) l82 c82 k82, PySem.W.mg_of X G a82, (fun_mk (st := topS 115) l82 c82 k82).binds (ps := f_law.ps) (fun _ _ _ _ _ _ us hl => match us, hl with | [_], _ => rfl), sc_law, ⟨_, tr_law⟩, fun l h => kw_none rfl h⟩
  have M : ModAt K mg gt fs ⟨K, (fun c => ([E_BadFraction, E_BadPair, E_BadPairs, E_BadTerm, E_BadMix, E_BadLadder, E_NoFrame, E_TooMany] : List Addr).getD c 0), none⟩ 60 := mod_at rfl (by decide) ⟨⟨_, .ref g0, PySem.W.mg_of X G x0, rfl, fun _ _ => (rep_tupK [.int 0, .int 1] y_g0 (.cons ⟨_, rfl⟩ (.cons ⟨_, rfl⟩ .nil)) (by show 2 ≤ sizeLine; decide) (.cons (.int _) (.cons (.int _) .nil)))⟩, ⟨⟨_, .ref g1, PySem.W.mg_of X G x1, rfl, fun _ _ => (rep_tupK [.int 1, .int 1] y_g1 (.cons ⟨_, rfl⟩ (.cons ⟨_, rfl⟩ .nil)) (by show 2 ≤ sizeLine; decide) (.cons (.int _) (.cons (.int _) .nil)))⟩, ⟨⟨_, .ref g2, PySem.W.mg_of X G x2, rfl, fun _ _ => (rep_tupK [.ref g2_0, .ref g2_1] y_g2 (.cons rfl (.cons rfl .nil)) (by show 2 ≤ sizeLine; decide) (.cons (rep_tupK [.int 0, .int 1] y_g2_0 (.cons ⟨_, rfl⟩ (.cons ⟨_, rfl⟩ .nil)) (by show 2 ≤ sizeLine; decide) (.cons (.int _) (.cons (.int _) .nil))) (.cons (rep_tupK [.int 0, .int 1] y_g2_1 (.cons ⟨_, rfl⟩ (.cons ⟨_, rfl⟩ .nil)) (by show 2 ≤ sizeLine; decide) (.cons (.int _) (.cons (.int _) .nil))) .nil)))⟩, ⟨⟨_, .int _, PySem.W.mg_of X G x3, ⟨_, rfl⟩, fun _ _ => .int _⟩, ⟨⟨_, .int _, PySem.W.mg_of X G x4, ⟨_, rfl⟩, fun _ _ => .int _⟩, ⟨⟨_, .int _, PySem.W.mg_of X G x5, ⟨_, rfl⟩, fun _ _ => .int _⟩, ⟨⟨_, .int _, PySem.W.mg_of X G x6, ⟨_, rfl⟩, fun _ _ => .int _⟩, ⟨⟨_, .int _, PySem.W.mg_of X G x7, ⟨_, rfl⟩, fun _ _ => .int _⟩, ⟨⟨_, .int _, PySem.W.mg_of X G x8, ⟨_, rfl⟩, fun _ _ => .int _⟩, ⟨⟨_, .int _, PySem.W.mg_of X G x9, ⟨_, rfl⟩, fun _ _ => .int _⟩, ⟨⟨_, .int _, PySem.W.mg_of X G x10, ⟨_, rfl⟩, fun _ _ => .int _⟩, ⟨⟨_, .int _, PySem.W.mg_of X G x11, ⟨_, rfl⟩, fun _ _ => .int _⟩, trivial⟩⟩⟩⟩⟩⟩⟩⟩⟩⟩⟩⟩ ⟨PySem.W.mg_none_of X G z0, ⟨PySem.W.mg_none_of X G z1, ⟨PySem.W.mg_none_of X G z2, ⟨PySem.W.mg_none_of X G z3, ⟨PySem.W.mg_none_of X G z4, ⟨PySem.W.mg_none_of X G z5, ⟨PySem.W.mg_none_of X G z6, ⟨PySem.W.mg_none_of X G z7, ⟨PySem.W.mg_none_of X G z8, ⟨PySem.W.mg_none_of X G z9, ⟨PySem.W.mg_none_of X G z10, ⟨PySem.W.mg_none_of X G z11, ⟨PySem.W.mg_none_of X G z12, ⟨PySem.W.mg_none_of X G z13, ⟨PySem.W.mg_none_of X G z14, ⟨PySem.W.mg_none_of X G z15, ⟨PySem.W.mg_none_of X G z16, ⟨PySem.W.mg_none_of X G z17, ⟨PySem.W.mg_none_of X G z18, ⟨PySem.W.mg_none_of X G z19, ⟨PySem.W.mg_none_of X G z20, trivial⟩⟩⟩⟩⟩⟩⟩⟩⟩⟩⟩⟩⟩⟩⟩⟩⟩⟩⟩⟩⟩ ⟨A0, ⟨A1, ⟨A2, ⟨A3, ⟨A4, ⟨A5, ⟨A6, ⟨A7, ⟨A8, ⟨A9, ⟨A10, ⟨A11, ⟨A12, ⟨A13, ⟨A14, ⟨A15, ⟨A16, ⟨A17, ⟨A18, ⟨A19, ⟨A20, ⟨A21, ⟨A22, ⟨A23, ⟨A24, ⟨A25, ⟨A26, ⟨A27, ⟨A28, ⟨A29, ⟨A30, ⟨A31, ⟨A32, ⟨A33, ⟨A34, ⟨A35, ⟨A36, ⟨A37, ⟨A38, ⟨A39, ⟨A40, ⟨A41, ⟨A42, ⟨A43, ⟨A44, ⟨A45, ⟨A46, ⟨A47, ⟨A48, ⟨A49, ⟨A50, ⟨A51, ⟨A52, ⟨A53, ⟨A54, ⟨A55, ⟨A56, ⟨A57, ⟨A58, ⟨A59, ⟨A60, ⟨A61, ⟨A62, ⟨A63, ⟨A64, ⟨A65, ⟨A66, ⟨A67, ⟨A68, ⟨A69, ⟨A70, ⟨A71, ⟨A72, ⟨A73, ⟨A74, ⟨A75, ⟨A76, ⟨A77, ⟨A78, ⟨A79, ⟨A80, ⟨A81, ⟨A82, trivial⟩⟩⟩⟩⟩⟩⟩⟩⟩⟩⟩⟩⟩⟩⟩⟩⟩⟩⟩⟩⟩⟩⟩⟩⟩⟩⟩⟩⟩⟩⟩⟩⟩⟩⟩⟩⟩⟩⟩⟩⟩⟩⟩⟩⟩⟩⟩⟩⟩⟩⟩⟩⟩⟩⟩⟩⟩⟩⟩⟩⟩⟩⟩⟩⟩⟩⟩⟩⟩⟩⟩⟩⟩⟩⟩⟩⟩⟩⟩⟩⟩⟩⟩ trivial ⟨⟨PySem.W.mg_of X G ea_BadFraction, ⟨FI_BadFraction, { cls := ⟨_, _, _, _, _, _, _, _, _, _, _, _, _, _, _, xl_BadFraction, rfl⟩, sa := sa_BadFraction, ga := ga_BadFraction, gg := gg_BadFraction, noN := nv_BadFraction, iC := ei_BadFraction, tC := ti_BadFraction, kC := ke_BadFraction, exC := eb_BadFraction, tyC := et_BadFraction, hdC := ed_BadFraction, fn := ⟨_, _, _, _, _, _, _, _, _, _, _, _, _, _, _, li_BadFraction, ci_BadFraction⟩ }⟩, ⟨ga_BadFraction, gg_BadFraction, eb_BadFraction, ed_BadFraction⟩, nv_BadFraction, ⟨cl_BadFraction, ga_BadFraction, gg_BadFraction, eb_BadFraction, ec_BadFraction, e_hn, e_tk, em_BadFraction⟩⟩, ⟨⟨PySem.W.mg_of X G ea_BadPair, ⟨FI_BadPair, { cls := ⟨_, _, _, _, _, _, _, _, _, _, _, _, _, _, _, xl_BadPair, rfl⟩, sa := sa_BadPair, ga := ga_BadPair, gg := gg_BadPair, noN := nv_BadPair, iC := ei_BadPair, tC := ti_BadPair, kC := ke_BadPair, exC := eb_BadPair, tyC := et_BadPair, hdC := ed_BadPair, fn := ⟨_, _, _, _, _, _, _, _, _, _, _, _, _, _, _, li_BadPair, ci_BadPair⟩ }⟩, ⟨ga_BadPair, gg_BadPair, eb_BadPair, ed_BadPair⟩, nv_BadPair, ⟨cl_BadPair, ga_BadPair, gg_BadPair, eb_BadPair, ec_BadPair, e_hn, e_tk, em_BadPair⟩⟩, ⟨⟨PySem.W.mg_of X G ea_BadPairs, ⟨FI_BadPairs, { cls := ⟨_, _, _, _, _, _, _, _, _, _, _, _, _, _, _, xl_BadPairs, rfl⟩, sa := sa_BadPairs, ga := ga_BadPairs, gg := gg_BadPairs, noN := nv_BadPairs, iC := ei_BadPairs, tC := ti_BadPairs, kC := ke_BadPairs, exC := eb_BadPairs, tyC := et_BadPairs, hdC := ed_BadPairs, fn := ⟨_, _, _, _, _, _, _, _, _, _, _, _, _, _, _, li_BadPairs, ci_BadPairs⟩ }⟩, ⟨ga_BadPairs, gg_BadPairs, eb_BadPairs, ed_BadPairs⟩, nv_BadPairs, ⟨cl_BadPairs, ga_BadPairs, gg_BadPairs, eb_BadPairs, ec_BadPairs, e_hn, e_tk, em_BadPairs⟩⟩, ⟨⟨PySem.W.mg_of X G ea_BadTerm, ⟨FI_BadTerm, { cls := ⟨_, _, _, _, _, _, _, _, _, _, _, _, _, _, _, xl_BadTerm, rfl⟩, sa := sa_BadTerm, ga := ga_BadTerm, gg := gg_BadTerm, noN := nv_BadTerm, iC := ei_BadTerm, tC := ti_BadTerm, kC := ke_BadTerm, exC := eb_BadTerm, tyC := et_BadTerm, hdC := ed_BadTerm, fn := ⟨_, _, _, _, _, _, _, _, _, _, _, _, _, _, _, li_BadTerm, ci_BadTerm⟩ }⟩, ⟨ga_BadTerm, gg_BadTerm, eb_BadTerm, ed_BadTerm⟩, nv_BadTerm, ⟨cl_BadTerm, ga_BadTerm, gg_BadTerm, eb_BadTerm, ec_BadTerm, e_hn, e_tk, em_BadTerm⟩⟩, ⟨⟨PySem.W.mg_of X G ea_BadMix, ⟨FI_BadMix, { cls := ⟨_, _, _, _, _, _, _, _, _, _, _, _, _, _, _, xl_BadMix, rfl⟩, sa := sa_BadMix, ga := ga_BadMix, gg := gg_BadMix, noN := nv_BadMix, iC := ei_BadMix, tC := ti_BadMix, kC := ke_BadMix, exC := eb_BadMix, tyC := et_BadMix, hdC := ed_BadMix, fn := ⟨_, _, _, _, _, _, _, _, _, _, _, _, _, _, _, li_BadMix, ci_BadMix⟩ }⟩, ⟨ga_BadMix, gg_BadMix, eb_BadMix, ed_BadMix⟩, nv_BadMix, ⟨cl_BadMix, ga_BadMix, gg_BadMix, eb_BadMix, ec_BadMix, e_hn, e_tk, em_BadMix⟩⟩, ⟨⟨PySem.W.mg_of X G ea_BadLadder, ⟨FI_BadLadder, { cls := ⟨_, _, _, _, _, _, _, _, _, _, _, _, _, _, _, xl_BadLadder, rfl⟩, sa := sa_BadLadder, ga := ga_BadLadder, gg := gg_BadLadder, noN := nv_BadLadder, iC := ei_BadLadder, tC := ti_BadLadder, kC := ke_BadLadder, exC := eb_BadLadder, tyC := et_BadLadder, hdC := ed_BadLadder, fn := ⟨_, _, _, _, _, _, _, _, _, _, _, _, _, _, _, li_BadLadder, ci_BadLadder⟩ }⟩, ⟨ga_BadLadder, gg_BadLadder, eb_BadLadder, ed_BadLadder⟩, nv_BadLadder, ⟨cl_BadLadder, ga_BadLadder, gg_BadLadder, eb_BadLadder, ec_BadLadder, e_hn, e_tk, em_BadLadder⟩⟩, ⟨⟨PySem.W.mg_of X G ea_NoFrame, ⟨FI_NoFrame, { cls := ⟨_, _, _, _, _, _, _, _, _, _, _, _, _, _, _, xl_NoFrame, rfl⟩, sa := sa_NoFrame, ga := ga_NoFrame, gg := gg_NoFrame, noN := nv_NoFrame, iC := ei_NoFrame, tC := ti_NoFrame, kC := ke_NoFrame, exC := eb_NoFrame, tyC := et_NoFrame, hdC := ed_NoFrame, fn := ⟨_, _, _, _, _, _, _, _, _, _, _, _, _, _, _, li_NoFrame, ci_NoFrame⟩ }⟩, ⟨ga_NoFrame, gg_NoFrame, eb_NoFrame, ed_NoFrame⟩, nv_NoFrame, ⟨cl_NoFrame, ga_NoFrame, gg_NoFrame, eb_NoFrame, ec_NoFrame, e_hn, e_tk, em_NoFrame⟩⟩, ⟨⟨PySem.W.mg_of X G ea_TooMany, ⟨FI_TooMany, { cls := ⟨_, _, _, _, _, _, _, _, _, _, _, _, _, _, _, xl_TooMany, rfl⟩, sa := sa_TooMany, ga := ga_TooMany, gg := gg_TooMany, noN := nv_TooMany, iC := ei_TooMany, tC := ti_TooMany, kC := ke_TooMany, exC := eb_TooMany, tyC := et_TooMany, hdC := ed_TooMany, fn := ⟨_, _, _, _, _, _, _, _, _, _, _, _, _, _, _, li_TooMany, ci_TooMany⟩ }⟩, ⟨ga_TooMany, gg_TooMany, eb_TooMany, ed_TooMany⟩, nv_TooMany, ⟨cl_TooMany, ga_TooMany, gg_TooMany, eb_TooMany, ec_TooMany, e_hn, e_tk, em_TooMany⟩⟩, trivial⟩⟩⟩⟩⟩⟩⟩⟩
  have FL : FnAt K mg gt 60 f_law "law" (topS 115) f82 _ := ⟨fun_mk (st := topS 115) l82 c82 k82, PySem.W.mg_of X G a82, (fun_mk (st := topS 115) l82 c82 k82).binds (ps := f_law.ps) (fun _ _ _ _ _ _ us hl => match us, hl with | [_], _ => rfl), sc_law, ⟨_, tr_law⟩, fun l h => kw_none rfl h⟩
  exact ⟨_, fun s v => .of_eq rfl, fun base _ _ => fn_all M 40 f_law (by simp [fs]) _ _ _ _ FL⟩
end L_onenumber_k08_arguments_by_names
open PySem PySem.W PyProof.Rows
set_option maxRecDepth 100000 in
set_option maxHeartbeats 0 in
theorem PySem.Challenge.cw_onenumber_k08_arguments_by_names_holds : PySem.Challenge.rw_onenumber_k08_arguments_by_names.Holds := by
  w_on; o_law; k_head; (case hw => w_witness2)
  k_fill
  refine PD.walkG (l := PySem.Challenge.rw_onenumber_k08_arguments_by_names) (n := 63) (k := 40) (x := "_law_script") (C := fun w => L2.CX PySem.Challenge.pw_onenumber_k08_arguments_by_names w) (sp := fun w => PD.spF ⟨_, (fun c => ([44, 63, 82, 101, 120, 139, 158, 177] : List Addr).getD c 0), none⟩ L_onenumber_k08_arguments_by_names.fs 40 83 1 false) rfl (by decide) rfl ⟨rfl, by decide, by decide⟩ (fun w h Y => PySem.W.kIn_of Y) ?F (fun _ _ a ns hl hb hO hS => PD.law_post hO hS (L_onenumber_k08_arguments_by_names.law_ok ns hl hb)) (fun _ _ _ _ _ h => PD.noCX h)
  case F =>
    intro w mg fa h KX G hmg
    refine' L_onenumber_k08_arguments_by_names.all_mk KX G hmg ?a0 ?l0 ?c0 ?k0 ?a1 ?l1 ?c1 ?k1 ?a2 ?l2 ?c2 ?k2 ?a3 ?l3 ?c3 ?k3 ?a4 ?l4 ?c4 ?k4 ?a5 ?l5 ?c5 ?k5 ?a6 ?l6 ?c6 ?k6 ?a7 ?l7 ?c7 ?k7 ?a8 ?l8 ?c8 ?k8 ?a9 ?l9 ?c9 ?k9 ?a10 ?l10 ?c10 ?k10 ?a11 ?l11 ?c11 ?k11 ?a12 ?l12 ?c12 ?k12 ?a13 ?l13 ?c13 ?k13 ?a14 ?l14 ?c14 ?k14 ?a15 ?l15 ?c15 ?k15 ?a16 ?l16 ?c16 ?k16 ?a17 ?l17 ?c17 ?k17 ?a18 ?l18 ?c18 ?k18 ?a19 ?l19 ?c19 ?k19 ?a20 ?l20 ?c20 ?k20 ?a21 ?l21 ?c21 ?k21 ?a22 ?l22 ?c22 ?k22 ?a23 ?l23 ?c23 ?k23 ?a24 ?l24 ?c24 ?k24 ?a25 ?l25 ?c25 ?k25 ?a26 ?l26 ?c26 ?k26 ?a27 ?l27 ?c27 ?k27 ?a28 ?l28 ?c28 ?k28 ?a29 ?l29 ?c29 ?k29 ?a30 ?l30 ?c30 ?k30 ?a31 ?l31 ?c31 ?k31 ?a32 ?l32 ?c32 ?k32 ?a33 ?l33 ?c33 ?k33 ?a34 ?l34 ?c34 ?k34 ?a35 ?l35 ?c35 ?k35 ?a36 ?l36 ?c36 ?k36 ?a37 ?l37 ?c37 ?k37 ?a38 ?l38 ?c38 ?k38 ?a39 ?l39 ?c39 ?k39 ?a40 ?l40 ?c40 ?k40 ?a41 ?l41 ?c41 ?k41 ?a42 ?l42 ?c42 ?k42 ?a43 ?l43 ?c43 ?k43 ?a44 ?l44 ?c44 ?k44 ?a45 ?l45 ?c45 ?k45 ?a46 ?l46 ?c46 ?k46 ?a47 ?l47 ?c47 ?k47 ?a48 ?l48 ?c48 ?k48 ?a49 ?l49 ?c49 ?k49 ?a50 ?l50 ?c50 ?k50 ?a51 ?l51 ?c51 ?k51 ?a52 ?l52 ?c52 ?k52 ?a53 ?l53 ?c53 ?k53 ?a54 ?l54 ?c54 ?k54 ?a55 ?l55 ?c55 ?k55 ?a56 ?l56 ?c56 ?k56 ?a57 ?l57 ?c57 ?k57 ?a58 ?l58 ?c58 ?k58 ?a59 ?l59 ?c59 ?k59 ?a60 ?l60 ?c60 ?k60 ?a61 ?l61 ?c61 ?k61 ?a62 ?l62 ?c62 ?k62 ?a63 ?l63 ?c63 ?k63 ?a64 ?l64 ?c64 ?k64 ?a65 ?l65 ?c65 ?k65 ?a66 ?l66 ?c66 ?k66 ?a67 ?l67 ?c67 ?k67 ?a68 ?l68 ?c68 ?k68 ?a69 ?l69 ?c69 ?k69 ?a70 ?l70 ?c70 ?k70 ?a71 ?l71 ?c71 ?k71 ?a72 ?l72 ?c72 ?k72 ?a73 ?l73 ?c73 ?k73 ?a74 ?l74 ?c74 ?k74 ?a75 ?l75 ?c75 ?k75 ?a76 ?l76 ?c76 ?k76 ?a77 ?l77 ?c77 ?k77 ?a78 ?l78 ?c78 ?k78 ?a79 ?l79 ?c79 ?k79 ?a80 ?l80 ?c80 ?k80 ?a81 ?l81 ?c81 ?k81 ?a82 ?l82 ?c82 ?k82 ?z0 ?z1 ?z2 ?z3 ?z4 ?z5 ?z6 ?z7 ?z8 ?z9 ?z10 ?z11 ?z12 ?z13 ?z14 ?z15 ?z16 ?z17 ?z18 ?z19 ?z20 ?x0 ?y_g0 ?x1 ?y_g1 ?x2 ?y_g2 ?y_g2_0 ?y_g2_1 ?x3 ?x4 ?x5 ?x6 ?x7 ?x8 ?x9 ?x10 ?x11 ?ea_BadFraction ?eb_BadFraction ?ed_BadFraction ?et_BadFraction ?ea_BadPair ?eb_BadPair ?ed_BadPair ?et_BadPair ?ea_BadPairs ?eb_BadPairs ?ed_BadPairs ?et_BadPairs ?ea_BadTerm ?eb_BadTerm ?ed_BadTerm ?et_BadTerm ?ea_BadMix ?eb_BadMix ?ed_BadMix ?et_BadMix ?ea_BadLadder ?eb_BadLadder ?ed_BadLadder ?et_BadLadder ?ea_NoFrame ?eb_NoFrame ?ed_NoFrame ?et_NoFrame ?ea_TooMany ?eb_TooMany ?ed_TooMany ?et_TooMany ?e_hn ?e_tk ?xl_BadFraction ?sa_BadFraction ?ga_BadFraction ?gg_BadFraction ?nv_BadFraction ?ei_BadFraction ?ti_BadFraction ?li_BadFraction ?ci_BadFraction ?ke_BadFraction ?cl_BadFraction ?ec_BadFraction ?em_BadFraction ?xl_BadPair ?sa_BadPair ?ga_BadPair ?gg_BadPair ?nv_BadPair ?ei_BadPair ?ti_BadPair ?li_BadPair ?ci_BadPair ?ke_BadPair ?cl_BadPair ?ec_BadPair ?em_BadPair ?xl_BadPairs ?sa_BadPairs ?ga_BadPairs ?gg_BadPairs ?nv_BadPairs ?ei_BadPairs ?ti_BadPairs ?li_BadPairs ?ci_BadPairs ?ke_BadPairs ?cl_BadPairs ?ec_BadPairs ?em_BadPairs ?xl_BadTerm ?sa_BadTerm ?ga_BadTerm ?gg_BadTerm ?nv_BadTerm ?ei_BadTerm ?ti_BadTerm ?li_BadTerm ?ci_BadTerm ?ke_BadTerm ?cl_BadTerm ?ec_BadTerm ?em_BadTerm ?xl_BadMix ?sa_BadMix ?ga_BadMix ?gg_BadMix ?nv_BadMix ?ei_BadMix ?ti_BadMix ?li_BadMix ?ci_BadMix ?ke_BadMix ?cl_BadMix ?ec_BadMix ?em_BadMix ?xl_BadLadder ?sa_BadLadder ?ga_BadLadder ?gg_BadLadder ?nv_BadLadder ?ei_BadLadder ?ti_BadLadder ?li_BadLadder ?ci_BadLadder ?ke_BadLadder ?cl_BadLadder ?ec_BadLadder ?em_BadLadder ?xl_NoFrame ?sa_NoFrame ?ga_NoFrame ?gg_NoFrame ?nv_NoFrame ?ei_NoFrame ?ti_NoFrame ?li_NoFrame ?ci_NoFrame ?ke_NoFrame ?cl_NoFrame ?ec_NoFrame ?em_NoFrame ?xl_TooMany ?sa_TooMany ?ga_TooMany ?gg_TooMany ?nv_TooMany ?ei_TooMany ?ti_TooMany ?li_TooMany ?ci_TooMany ?ke_TooMany ?cl_TooMany ?ec_TooMany ?em_TooMany
    (case a0 => k_is)
    (case l0 => k_is)
    (case c0 => k_is)
    (case k0 => k_is)
    (case a1 => k_is)
    (case l1 => k_is)
    (case c1 => k_is)
    (case k1 => k_is)
    (case a2 => k_is)
    (case l2 => k_is)
    (case c2 => k_is)
    (case k2 => k_is)
    (case a3 => k_is)
    (case l3 => k_is)
    (case c3 => k_is)
    (case k3 => k_is)
    (case a4 => k_is)
    (case l4 => k_is)
    (case c4 => k_is)
    (case k4 => k_is)
    (case a5 => k_is)
    (case l5 => k_is)
    (case c5 => k_is)
    (case k5 => k_is)
    (case a6 => k_is)
    (case l6 => k_is)
    (case c6 => k_is)
    (case k6 => k_is)
    (case a7 => k_is)
    (case l7 => k_is)
    (case c7 => k_is)
    (case k7 => k_is)
    (case a8 => k_is)
    (case l8 => k_is)
    (case c8 => k_is)
    (case k8 => k_is)
    (case a9 => k_is)
    (case l9 => k_is)
    (case c9 => k_is)
    (case k9 => k_is)
    (case a10 => k_is)
    (case l10 => k_is)
    (case c10 => k_is)
    (case k10 => k_is)
    (case a11 => k_is)
    (case l11 => k_is)
    (case c11 => k_is)
    (case k11 => k_is)
    (case a12 => k_is)
    (case l12 => k_is)
    (case c12 => k_is)
    (case k12 => k_is)
    (case a13 => k_is)
    (case l13 => k_is)
    (case c13 => k_is)
    (case k13 => k_is)
    (case a14 => k_is)
    (case l14 => k_is)
    (case c14 => k_is)
    (case k14 => k_is)
    (case a15 => k_is)
    (case l15 => k_is)
    (case c15 => k_is)
    (case k15 => k_is)
    (case a16 => k_is)
    (case l16 => k_is)
    (case c16 => k_is)
    (case k16 => k_is)
    (case a17 => k_is)
    (case l17 => k_is)
    (case c17 => k_is)
    (case k17 => k_is)
    (case a18 => k_is)
    (case l18 => k_is)
    (case c18 => k_is)
    (case k18 => k_is)
    (case a19 => k_is)
    (case l19 => k_is)
    (case c19 => k_is)
    (case k19 => k_is)
    (case a20 => k_is)
    (case l20 => k_is)
    (case c20 => k_is)
    (case k20 => k_is)
    (case a21 => k_is)
    (case l21 => k_is)
    (case c21 => k_is)
    (case k21 => k_is)
    (case a22 => k_is)
    (case l22 => k_is)
    (case c22 => k_is)
    (case k22 => k_is)
    (case a23 => k_is)
    (case l23 => k_is)
    (case c23 => k_is)
    (case k23 => k_is)
    (case a24 => k_is)
    (case l24 => k_is)
    (case c24 => k_is)
    (case k24 => k_is)
    (case a25 => k_is)
    (case l25 => k_is)
    (case c25 => k_is)
    (case k25 => k_is)
    (case a26 => k_is)
    (case l26 => k_is)
    (case c26 => k_is)
    (case k26 => k_is)
    (case a27 => k_is)
    (case l27 => k_is)
    (case c27 => k_is)
    (case k27 => k_is)
    (case a28 => k_is)
    (case l28 => k_is)
    (case c28 => k_is)
    (case k28 => k_is)
    (case a29 => k_is)
    (case l29 => k_is)
    (case c29 => k_is)
    (case k29 => k_is)
    (case a30 => k_is)
    (case l30 => k_is)
    (case c30 => k_is)
    (case k30 => k_is)
    (case a31 => k_is)
    (case l31 => k_is)
    (case c31 => k_is)
    (case k31 => k_is)
    (case a32 => k_is)
    (case l32 => k_is)
    (case c32 => k_is)
    (case k32 => k_is)
    (case a33 => k_is)
    (case l33 => k_is)
    (case c33 => k_is)
    (case k33 => k_is)
    (case a34 => k_is)
    (case l34 => k_is)
    (case c34 => k_is)
    (case k34 => k_is)
    (case a35 => k_is)
    (case l35 => k_is)
    (case c35 => k_is)
    (case k35 => k_is)
    (case a36 => k_is)
    (case l36 => k_is)
    (case c36 => k_is)
    (case k36 => k_is)
    (case a37 => k_is)
    (case l37 => k_is)
    (case c37 => k_is)
    (case k37 => k_is)
    (case a38 => k_is)
    (case l38 => k_is)
    (case c38 => k_is)
    (case k38 => k_is)
    (case a39 => k_is)
    (case l39 => k_is)
    (case c39 => k_is)
    (case k39 => k_is)
    (case a40 => k_is)
    (case l40 => k_is)
    (case c40 => k_is)
    (case k40 => k_is)
    (case a41 => k_is)
    (case l41 => k_is)
    (case c41 => k_is)
    (case k41 => k_is)
    (case a42 => k_is)
    (case l42 => k_is)
    (case c42 => k_is)
    (case k42 => k_is)
    (case a43 => k_is)
    (case l43 => k_is)
    (case c43 => k_is)
    (case k43 => k_is)
    (case a44 => k_is)
    (case l44 => k_is)
    (case c44 => k_is)
    (case k44 => k_is)
    (case a45 => k_is)
    (case l45 => k_is)
    (case c45 => k_is)
    (case k45 => k_is)
    (case a46 => k_is)
    (case l46 => k_is)
    (case c46 => k_is)
    (case k46 => k_is)
    (case a47 => k_is)
    (case l47 => k_is)
    (case c47 => k_is)
    (case k47 => k_is)
    (case a48 => k_is)
    (case l48 => k_is)
    (case c48 => k_is)
    (case k48 => k_is)
    (case a49 => k_is)
    (case l49 => k_is)
    (case c49 => k_is)
    (case k49 => k_is)
    (case a50 => k_is)
    (case l50 => k_is)
    (case c50 => k_is)
    (case k50 => k_is)
    (case a51 => k_is)
    (case l51 => k_is)
    (case c51 => k_is)
    (case k51 => k_is)
    (case a52 => k_is)
    (case l52 => k_is)
    (case c52 => k_is)
    (case k52 => k_is)
    (case a53 => k_is)
    (case l53 => k_is)
    (case c53 => k_is)
    (case k53 => k_is)
    (case a54 => k_is)
    (case l54 => k_is)
    (case c54 => k_is)
    (case k54 => k_is)
    (case a55 => k_is)
    (case l55 => k_is)
    (case c55 => k_is)
    (case k55 => k_is)
    (case a56 => k_is)
    (case l56 => k_is)
    (case c56 => k_is)
    (case k56 => k_is)
    (case a57 => k_is)
    (case l57 => k_is)
    (case c57 => k_is)
    (case k57 => k_is)
    (case a58 => k_is)
    (case l58 => k_is)
    (case c58 => k_is)
    (case k58 => k_is)
    (case a59 => k_is)
    (case l59 => k_is)
    (case c59 => k_is)
    (case k59 => k_is)
    (case a60 => k_is)
    (case l60 => k_is)
    (case c60 => k_is)
    (case k60 => k_is)
    (case a61 => k_is)
    (case l61 => k_is)
    (case c61 => k_is)
    (case k61 => k_is)
    (case a62 => k_is)
    (case l62 => k_is)
    (case c62 => k_is)
    (case k62 => k_is)
    (case a63 => k_is)
    (case l63 => k_is)
    (case c63 => k_is)
    (case k63 => k_is)
    (case a64 => k_is)
    (case l64 => k_is)
    (case c64 => k_is)
    (case k64 => k_is)
    (case a65 => k_is)
    (case l65 => k_is)
    (case c65 => k_is)
    (case k65 => k_is)
    (case a66 => k_is)
    (case l66 => k_is)
    (case c66 => k_is)
    (case k66 => k_is)
    (case a67 => k_is)
    (case l67 => k_is)
    (case c67 => k_is)
    (case k67 => k_is)
    (case a68 => k_is)
    (case l68 => k_is)
    (case c68 => k_is)
    (case k68 => k_is)
    (case a69 => k_is)
    (case l69 => k_is)
    (case c69 => k_is)
    (case k69 => k_is)
    (case a70 => k_is)
    (case l70 => k_is)
    (case c70 => k_is)
    (case k70 => k_is)
    (case a71 => k_is)
    (case l71 => k_is)
    (case c71 => k_is)
    (case k71 => k_is)
    (case a72 => k_is)
    (case l72 => k_is)
    (case c72 => k_is)
    (case k72 => k_is)
    (case a73 => k_is)
    (case l73 => k_is)
    (case c73 => k_is)
    (case k73 => k_is)
    (case a74 => k_is)
    (case l74 => k_is)
    (case c74 => k_is)
    (case k74 => k_is)
    (case a75 => k_is)
    (case l75 => k_is)
    (case c75 => k_is)
    (case k75 => k_is)
    (case a76 => k_is)
    (case l76 => k_is)
    (case c76 => k_is)
    (case k76 => k_is)
    (case a77 => k_is)
    (case l77 => k_is)
    (case c77 => k_is)
    (case k77 => k_is)
    (case a78 => k_is)
    (case l78 => k_is)
    (case c78 => k_is)
    (case k78 => k_is)
    (case a79 => k_is)
    (case l79 => k_is)
    (case c79 => k_is)
    (case k79 => k_is)
    (case a80 => k_is)
    (case l80 => k_is)
    (case c80 => k_is)
    (case k80 => k_is)
    (case a81 => k_is)
    (case l81 => k_is)
    (case c81 => k_is)
    (case k81 => k_is)
    (case a82 => k_is)
    (case l82 => k_is)
    (case c82 => k_is)
    (case k82 => k_is)
    (case z0 => k_is)
    (case z1 => k_is)
    (case z2 => k_is)
    (case z3 => k_is)
    (case z4 => k_is)
    (case z5 => k_is)
    (case z6 => k_is)
    (case z7 => k_is)
    (case z8 => k_is)
    (case z9 => k_is)
    (case z10 => k_is)
    (case z11 => k_is)
    (case z12 => k_is)
    (case z13 => k_is)
    (case z14 => k_is)
    (case z15 => k_is)
    (case z16 => k_is)
    (case z17 => k_is)
    (case z18 => k_is)
    (case z19 => k_is)
    (case z20 => k_is)
    (case x0 => k_is)
    (case y_g0 => k_is)
    (case x1 => k_is)
    (case y_g1 => k_is)
    (case x2 => k_is)
    (case y_g2 => k_is)
    (case y_g2_0 => k_is)
    (case y_g2_1 => k_is)
    (case x3 => k_is)
    (case x4 => k_is)
    (case x5 => k_is)
    (case x6 => k_is)
    (case x7 => k_is)
    (case x8 => k_is)
    (case x9 => k_is)
    (case x10 => k_is)
    (case x11 => k_is)
    (case ea_BadFraction => k_is)
    (case eb_BadFraction => k_is)
    (case ed_BadFraction => k_is)
    (case et_BadFraction => k_is)
    (case ea_BadPair => k_is)
    (case eb_BadPair => k_is)
    (case ed_BadPair => k_is)
    (case et_BadPair => k_is)
    (case ea_BadPairs => k_is)
    (case eb_BadPairs => k_is)
    (case ed_BadPairs => k_is)
    (case et_BadPairs => k_is)
    (case ea_BadTerm => k_is)
    (case eb_BadTerm => k_is)
    (case ed_BadTerm => k_is)
    (case et_BadTerm => k_is)
    (case ea_BadMix => k_is)
    (case eb_BadMix => k_is)
    (case ed_BadMix => k_is)
    (case et_BadMix => k_is)
    (case ea_BadLadder => k_is)
    (case eb_BadLadder => k_is)
    (case ed_BadLadder => k_is)
    (case et_BadLadder => k_is)
    (case ea_NoFrame => k_is)
    (case eb_NoFrame => k_is)
    (case ed_NoFrame => k_is)
    (case et_NoFrame => k_is)
    (case ea_TooMany => k_is)
    (case eb_TooMany => k_is)
    (case ed_TooMany => k_is)
    (case et_TooMany => k_is)
    (case e_hn => k_is)
    (case e_tk => k_is)
    (case xl_BadFraction => k_is)
    (case sa_BadFraction => k_is)
    (case ga_BadFraction => k_is)
    (case gg_BadFraction => k_is)
    (case nv_BadFraction => k_is)
    (case ei_BadFraction => k_is)
    (case ti_BadFraction => k_is)
    (case li_BadFraction => k_is)
    (case ci_BadFraction => k_is)
    (case ke_BadFraction => k_is)
    (case cl_BadFraction => k_is)
    (case ec_BadFraction => k_is)
    (case em_BadFraction => k_is)
    (case xl_BadPair => k_is)
    (case sa_BadPair => k_is)
    (case ga_BadPair => k_is)
    (case gg_BadPair => k_is)
    (case nv_BadPair => k_is)
    (case ei_BadPair => k_is)
    (case ti_BadPair => k_is)
    (case li_BadPair => k_is)
    (case ci_BadPair => k_is)
    (case ke_BadPair => k_is)
    (case cl_BadPair => k_is)
    (case ec_BadPair => k_is)
    (case em_BadPair => k_is)
    (case xl_BadPairs => k_is)
    (case sa_BadPairs => k_is)
    (case ga_BadPairs => k_is)
    (case gg_BadPairs => k_is)
    (case nv_BadPairs => k_is)
    (case ei_BadPairs => k_is)
    (case ti_BadPairs => k_is)
    (case li_BadPairs => k_is)
    (case ci_BadPairs => k_is)
    (case ke_BadPairs => k_is)
    (case cl_BadPairs => k_is)
    (case ec_BadPairs => k_is)
    (case em_BadPairs => k_is)
    (case xl_BadTerm => k_is)
    (case sa_BadTerm => k_is)
    (case ga_BadTerm => k_is)
    (case gg_BadTerm => k_is)
    (case nv_BadTerm => k_is)
    (case ei_BadTerm => k_is)
    (case ti_BadTerm => k_is)
    (case li_BadTerm => k_is)
    (case ci_BadTerm => k_is)
    (case ke_BadTerm => k_is)
    (case cl_BadTerm => k_is)
    (case ec_BadTerm => k_is)
    (case em_BadTerm => k_is)
    (case xl_BadMix => k_is)
    (case sa_BadMix => k_is)
    (case ga_BadMix => k_is)
    (case gg_BadMix => k_is)
    (case nv_BadMix => k_is)
    (case ei_BadMix => k_is)
    (case ti_BadMix => k_is)
    (case li_BadMix => k_is)
    (case ci_BadMix => k_is)
    (case ke_BadMix => k_is)
    (case cl_BadMix => k_is)
    (case ec_BadMix => k_is)
    (case em_BadMix => k_is)
    (case xl_BadLadder => k_is)
    (case sa_BadLadder => k_is)
    (case ga_BadLadder => k_is)
    (case gg_BadLadder => k_is)
    (case nv_BadLadder => k_is)
    (case ei_BadLadder => k_is)
    (case ti_BadLadder => k_is)
    (case li_BadLadder => k_is)
    (case ci_BadLadder => k_is)
    (case ke_BadLadder => k_is)
    (case cl_BadLadder => k_is)
    (case ec_BadLadder => k_is)
    (case em_BadLadder => k_is)
    (case xl_NoFrame => k_is)
    (case sa_NoFrame => k_is)
    (case ga_NoFrame => k_is)
    (case gg_NoFrame => k_is)
    (case nv_NoFrame => k_is)
    (case ei_NoFrame => k_is)
    (case ti_NoFrame => k_is)
    (case li_NoFrame => k_is)
    (case ci_NoFrame => k_is)
    (case ke_NoFrame => k_is)
    (case cl_NoFrame => k_is)
    (case ec_NoFrame => k_is)
    (case em_NoFrame => k_is)
    (case xl_TooMany => k_is)
    (case sa_TooMany => k_is)
    (case ga_TooMany => k_is)
    (case gg_TooMany => k_is)
    (case nv_TooMany => k_is)
    (case ei_TooMany => k_is)
    (case ti_TooMany => k_is)
    (case li_TooMany => k_is)
    (case ci_TooMany => k_is)
    (case ke_TooMany => k_is)
    (case cl_TooMany => k_is)
    (case ec_TooMany => k_is)
    (case em_TooMany => k_is)

