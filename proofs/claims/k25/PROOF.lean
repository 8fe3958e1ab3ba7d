import PyProof.Rows.All
import HandS.ForMost
import HandS.ForExc
import HandS.Wide
import HandS.IsInst
import HandS.Zip
import HandS.Style
import HandS.CallSlots
import HandS.TupAny
import HandS.TupMul
import HandS.Deep
import HandS.Iter
import HandS.Star
import HandS.MethStar
import KE.GoesMore
import KE.GoesZip
import PySem.Challenge.RW_onenumber_k25_numbers_by_hand
import Wide.All
import OpenK.AllK
import Wide.FinOn
set_option Elab.async false
set_option linter.all false
set_option maxRecDepth 100000
/-! Plain data, a small expression language and its evaluation. -/
namespace PD
open PySem

/-- plain data: tuples are values, lists stand in a heap -/
inductive D where
  | non | bl (b : Bool) | int (i : Int) | str (s : Str) | tup (ds : List D) | ref (n : Nat) | scr (ns : List Int)
inductive O where
  | lst (ds : List D)
abbrev Hh := List O
abbrev En := List (Option D)
inductive R (α : Type) where
  | ok (a : α) (h : Hh) | exc (c : Nat) (x : D) (h : Hh) | bad
def bnd {α β : Type} (r : R α) (f : α → Hh → R β) : R β := match r with
  | .ok a h => f a h
  | .exc c x h => .exc c x h
  | .bad => .bad
def optR {α β : Type} (o : Option α) (f : α → R β) : R β := match o with
  | some a => f a
  | none => .bad
theorem optR_some {α β : Type} (a : α) (f : α → R β) : optR (some a) f = f a := rfl
theorem optR_none {α β : Type} (f : α → R β) : optR none f = .bad := rfl
theorem bnd_ok {α β : Type} (a : α) (h : Hh) (f : α → Hh → R β) : bnd (.ok a h) f = f a h := rfl

inductive Bi where
  | len | abs | int | list | tuple | all | any | sum
  deriving DecidableEq
/-- methods of a list -/
inductive Me where
  | append | extend | insert | pop
  deriving DecidableEq
inductive Ty where
  | int | bool | str | tuple | list | dict
  deriving DecidableEq
mutual
inductive Ex where
  | con (d : D) | var (i : Nat) | tup (es : Exs) | lst (es : Exs)
  | bin (op : Operator) (a b : Ex) | neg (a : Ex) | not (a : Ex)
  | cmp (op : CmpOp) (a b : Ex) | chain (op op' : CmpOp) (a b c : Ex)
  | and (a b : Ex) | or (a b : Ex) | ite (c a b : Ex)
  | call (f : Nat) (es : Exs) | bi (b : Bi) (e : Ex) | isi (e : Ex) (t : Ty)
  | ix (a i : Ex) | sl (a : Ex) (lo hi : Ox)
  | comp (it : Ix) (t : Tg) (c e : Ex) (own : List Nat)
  | comp2 (it : Ix) (t : Tg) (it1 : Ix) (t1 : Tg) (c e : Ex) (own own1 : List Nat)
  | met (m : Me) (o : Ex) (es : Exs) | isis (e : Ex) (ts : List Ty)
  | tupS (fl : List Bool) (es : Exs) | lstS (fl : List Bool) (es : Exs)
  | bad
inductive Exs where
  | nil | cons (e : Ex) (es : Exs)
inductive Ox where
  | none | some (e : Ex)
inductive Ix where
  | seq (e : Ex) | rng1 (a : Ex) | rng2 (a b : Ex) | rng3 (es : Exs) | enum (e : Ex) | zip (a b : Ex)
inductive Tg where
  | name (i : Nat) | tup (ts : Tgs) | sub (o i : Ex)
inductive Tgs where
  | nil | cons (t : Tg) (ts : Tgs)
end
inductive Sx where
  | asg (t : Tg) (e : Ex) | par (is : List Nat) (es : Exs) | aug (i : Nat) (op : Operator) (e : Ex) | expr (e : Ex) | ret (e : Ex) | retN
  | ife (c : Ex) (a b : Sx) | whl (c : Ex) (b : Sx) | for_ (it : Ix) (t : Tg) (b : Sx)
  | brk | cont | skip | seq (a b : Sx) | raise (c : Nat) (e : Ex) | bad

/-! ### operations -/
def lstOf (h : Hh) (n : Nat) : Option (List D) := match h[n]? with
  | some (.lst ds) => some ds
  | none => none
/-- a list's items: one of ours, or the script -/
def seqOf (h : Hh) : D → Option (List D)
  | .ref n => lstOf h n
  | .scr ns => some (ns.map .int)
  | _ => none
def allO {A B : Type} (f : A → Option B) : List A → Option (List B)
  | [] => some []
  | a :: as => match f a, allO f as with
    | some b, some bs => some (b :: bs)
    | _, _ => none
/-- what is to be compared: data through the heap -/
def toPy : Nat → Hh → D → Option PyData
  | 0, _, _ => none
  | _ + 1, _, .non => some .none
  | _ + 1, _, .bl b => some (.bool b)
  | _ + 1, _, .int i => some (.int i)
  | _ + 1, _, .str s => some (.str s)
  | n + 1, h, .tup ds => (allO (toPy n h) ds).map .tuple
  | n + 1, h, .ref a => (lstOf h a).bind fun ds => (allO (toPy n h) ds).map .list
  | _ + 1, _, .scr ns => some (.list (ns.map .int))
def eqD (h : Hh) (x y : D) : Option Bool := match toPy 66 h x, toPy 66 h y with
  | some a, some b => if (SeqAt.shaped a && SeqAt.shaped b) = true then some (PyData.eqv a b) else none
  | _, _ => none
/-- is it among the items? -/
def inD (h : Hh) (x y : D) : Option Bool := match toPy 66 h x, toPy 66 h y with
  | some a, some (.list bs) => if (SeqAt.shaped a && SeqAt.shaped (.list bs)) = true then some (bs.any fun z => PyData.eqv z a) else none
  | some a, some (.tuple bs) => if (SeqAt.shaped a && SeqAt.shaped (.tuple bs)) = true then some (bs.any fun z => PyData.eqv z a) else none
  | _, _ => none
def binOp : Operator → D → D → Hh → R D
  | .Add, .int a, .int b, h => .ok (.int (a + b)) h
  | .Sub, .int a, .int b, h => .ok (.int (a - b)) h
  | .Mult, .int a, .int b, h => if a.natAbs.log2 + b.natAbs.log2 < 1000000 then .ok (.int (a * b)) h else .bad
  | .Mult, .ref a, .int b, h => optR (lstOf h a) fun x => if -(2 ^ 63) ≤ b ∧ b < 2 ^ 63 ∧ x.length * b.toNat ≤ sizeLine then .ok (.ref h.length) (h ++ [.lst (List.replicate b.toNat x).flatten]) else .bad
  | .Mult, .tup x, .int b, h => if x ≠ [] ∧ 2 ≤ b ∧ b ≤ 1000 ∧ x.length ≤ 1000 then .ok (.tup (List.replicate b.toNat x).flatten) h else .bad
  | .FloorDiv, .int a, .int b, h => if b ≠ 0 ∧ b.natAbs.log2 < 9000 then .ok (.int (a.fdiv b)) h else .bad
  | .Mod, .int a, .int b, h => if b ≠ 0 then .ok (.int (a.fmod b)) h else .bad
  | .Pow, .int a, .int b, h => if 0 ≤ b ∧ b ≤ 1000000 ∧ a.natAbs < 2 ^ 64 then .ok (.int (a ^ b.toNat)) h else .bad
  | .Add, .str a, .str b, h => if a.length + b.length ≤ sizeLine then .ok (.str (a ++ b)) h else .bad
  | .Add, .tup a, .tup b, h => if a.length + b.length ≤ sizeLine then .ok (.tup (a ++ b)) h else .bad
  | .Add, .ref a, .ref b, h => optR (lstOf h a) fun x => optR (lstOf h b) fun y => if x.length + y.length ≤ sizeLine then .ok (.ref h.length) (h ++ [.lst (x ++ y)]) else .bad
  | _, _, _, _ => .bad
def isNon : D → Bool
  | .non => true
  | _ => false
def cmpOp : CmpOp → D → D → Hh → R D
  | .Lt, .int a, .int b, h => .ok (.bl (decide (a < b))) h
  | .LtE, .int a, .int b, h => .ok (.bl (decide (a ≤ b))) h
  | .Gt, .int a, .int b, h => .ok (.bl (decide (b < a))) h
  | .GtE, .int a, .int b, h => .ok (.bl (decide (b ≤ a))) h
  | .Eq, x, y, h => optR (eqD h x y) fun b => .ok (.bl b) h
  | .NotEq, x, y, h => optR (eqD h x y) fun b => .ok (.bl (!b)) h
  | .In, x, y, h => optR (inD h x y) fun b => .ok (.bl b) h
  | .NotIn, x, y, h => optR (inD h x y) fun b => .ok (.bl (!b)) h
  | .Is, x, .non, h => .ok (.bl (isNon x)) h
  | .IsNot, x, .non, h => .ok (.bl (!isNon x)) h
  | _, _, _, _ => .bad
def unNeg : D → Hh → R D
  | .int i, h => .ok (.int (-i)) h
  | _, _ => .bad
def ixOp : D → D → Hh → R D
  | .tup ds, .int i, h => optR (L2.atI ds i) fun d => .ok d h
  | x, .int i, h => optR ((seqOf h x).bind (fun ds => L2.atI ds i)) fun d => .ok d h
  | _, _, _ => .bad
def cutD (xs : List D) (lo hi : Option Int) : List D := (xs.drop (HT.sIx xs.length 0 lo)).take (HT.sIx xs.length xs.length hi - HT.sIx xs.length 0 lo)
def slOp : D → Option Int → Option Int → Hh → R D
  | .tup ds, lo, hi, h => .ok (.tup (cutD ds lo hi)) h
  | x, lo, hi, h => optR (seqOf h x) fun ds => .ok (.ref h.length) (h ++ [.lst (cutD ds lo hi)])
def boolsOf : List D → Option (List Bool)
  | [] => some []
  | .bl b :: r => (boolsOf r).map (b :: ·)
  | _ => none
def intsOf : List D → Option (List Int)
  | [] => some []
  | .int i :: r => (intsOf r).map (i :: ·)
  | _ => none
def biOp : Bi → D → Hh → R D
  | .len, .tup ds, h => .ok (.int ds.length) h
  | .len, x, h => optR (seqOf h x) fun ds => .ok (.int ds.length) h
  | .abs, .int i, h => .ok (.int (if i < 0 then -i else i)) h
  | .int, .int i, h => .ok (.int i) h
  | .int, .bl k, h => .ok (.int (if k then 1 else 0)) h
  | .list, .tup ds, h => .ok (.ref h.length) (h ++ [.lst ds])
  | .list, x, h => optR (seqOf h x) fun ds => .ok (.ref h.length) (h ++ [.lst ds])
  | .tuple, .tup ds, h => .ok (.tup ds) h
  | .tuple, x, h => optR (seqOf h x) fun ds => .ok (.tup ds) h
  | .all, x, h => optR ((seqOf h x).bind boolsOf) fun bs => .ok (.bl (bs.all id)) h
  | .any, x, h => optR ((seqOf h x).bind boolsOf) fun bs => .ok (.bl (bs.any id)) h
  | .sum, x, h => optR ((seqOf h x).bind intsOf) fun bs => .ok (.int bs.sum) h
  | _, _, _ => .bad
inductive Kd where
  | non | bool | int | str | tuple | list
def kd : D → Kd
  | .non => .non
  | .bl _ => .bool
  | .int _ => .int
  | .str _ => .str
  | .tup _ => .tuple
  | .ref _ => .list
  | .scr _ => .list
def isK : Ty → Kd → Bool
  | .int, .int => true
  | .int, .bool => true
  | .bool, .bool => true
  | .str, .str => true
  | .tuple, .tuple => true
  | .list, .list => true
  | _, _ => false
def isTy (t : Ty) (d : D) : Bool := isK t (kd d)
def metOp : Me → D → List D → Hh → R D
  | .append, .ref n, [y], h => optR (lstOf h n) fun xs => if xs.length < sizeLine then .ok .non (h.set n (.lst (xs ++ [y]))) else .bad
  | .extend, .ref n, [.ref m], h => optR (lstOf h n) fun xs => optR (lstOf h m) fun zs => if xs.length + zs.length ≤ sizeLine then .ok .non (h.set n (.lst (xs ++ zs))) else .bad
  | .insert, .ref n, [.int i, y], h => optR (lstOf h n) fun xs => if xs.length < sizeLine ∧ 0 ≤ i ∧ i < 2 ^ 63 then .ok .non (h.set n (.lst (xs.take i.toNat ++ [y] ++ xs.drop i.toNat))) else .bad
  | .pop, .ref n, [], h => optR (lstOf h n) fun xs => optR xs[xs.length - 1]? fun y => .ok y (h.set n (.lst xs.dropLast))
  | .pop, .ref n, [.int i], h => optR (lstOf h n) fun xs => if -(2 ^ 63) ≤ i ∧ i < 2 ^ 63 then optR (seqIndex? i xs.length) fun k => optR xs[k]? fun y => .ok y (h.set n (.lst (xs.eraseIdx k))) else .bad
  | _, _, _, _ => .bad
/-- the items of a tuple or a list -/
def itemsOf (h : Hh) : D → Option (List D)
  | .tup ds => some ds
  | x => seqOf h x
/-- iterables -/
inductive It where
  | tup (ds : List D) | lst (x : D) | rng (lo : Int) (k : Nat) | rng3 (lo st : Int) (k : Nat) | enum (x : D) | zip (a b : D)
/-- none: no answer; some none: the end -/
def It.next : It → Nat → Hh → Option (Option D)
  | .tup ds, i, _ => some ds[i]?
  | .lst x, i, h => (seqOf h x).map (·[i]?)
  | .rng lo k, i, _ => if i < k then some (some (.int (lo + i))) else some none
  | .rng3 lo st k, i, _ => if i < k then some (some (.int (lo + i * st))) else some none
  | .enum x, i, h => (seqOf h x).map fun ds => ds[i]?.map fun d => .tup [.int i, d]
  | .zip a b, i, h => match itemsOf h a, itemsOf h b with
    | some x, some y => match x[i]?, y[i]? with
      | some d, some e => some (some (.tup [d, e]))
      | _, _ => if i ≤ x.length ∧ i ≤ y.length then some none else none
    | _, _ => none
def seqIt : D → Hh → R It
  | .tup ds, h => .ok (.tup ds) h
  | x, h => optR (seqOf h x) fun _ => .ok (.lst x) h
def enumIt (x : D) (h : Hh) : R It := optR (seqOf h x) fun _ => .ok (.enum x) h
def zipIt (x y : D) (h : Hh) : R It := optR (itemsOf h x) fun _ => optR (itemsOf h y) fun _ => .ok (.zip x y) h
def rngIt : Int → D → Hh → R It
  | lo, .int hi, h => if -(2 ^ 62) ≤ lo ∧ lo < 2 ^ 62 ∧ -(2 ^ 62) ≤ hi ∧ hi < 2 ^ 62 then .ok (.rng lo (hi - lo).toNat) h else .bad
  | _, _, _ => .bad
def rngIt3 : List D → Hh → R It
  | [.int lo, .int hi, .int st], h => if -(2 ^ 62) ≤ lo ∧ lo < 2 ^ 62 ∧ -(2 ^ 62) ≤ hi ∧ hi < 2 ^ 62 ∧ st = -1 then .ok (.rng3 lo st (lo - hi).toNat) h else .bad
  | _, _ => .bad
def toBool : D → Hh → R Bool
  | .bl b, h => .ok b h
  | _, _ => .bad
def toInt : D → Hh → R Int
  | .int b, h => .ok b h
  | _, _ => .bad
def setAt : D → D → D → Hh → R Unit
  | .ref n, .int k, v, h => optR (lstOf h n) fun ds => optR (L2.ixN ds.length k) fun j => .ok () (h.set n (.lst (ds.set j v)))
  | _, _, _, _ => .bad
def getE (en : En) (i : Nat) : Option D := match en[i]? with
  | some (some d) => some d
  | _ => none
def wipeE (en : En) : List Nat → En
  | [] => en
  | v :: vs => (wipeE en vs).set v none
/-- the turns of a comprehension -/
def compLoop (it : It) (body : D → Hh → R (Option D)) : Nat → Nat → List D → Hh → R (List D)
  | 0, _, _, _ => .bad
  | f + 1, i, acc, h => match it.next i h with
    | none => .bad
    | some none => .ok acc h
    | some (some d) => bnd (body d h) fun o h1 => match o with
      | none => compLoop it body f (i + 1) acc h1
      | some x => if acc.length < sizeLine then compLoop it body f (i + 1) (acc ++ [x]) h1 else .bad
/-- the turns of two loops, the one in the other -/
def comp2Loop {A : Type} (it : It) (hd : D → Hh → R (A × It)) (body : A → D → Hh → R (Option D)) : Nat → Nat → List D → Hh → R (List D)
  | 0, _, _, _ => .bad
  | f + 1, i, acc, h => match it.next i h with
    | none => .bad
    | some none => .ok acc h
    | some (some d) => bnd (hd d h) fun p h1 => bnd (compLoop p.2 (body p.1) f 0 acc h1) fun acc' h2 => comp2Loop it hd body f (i + 1) acc' h2
def refOf (h : Hh) : D → Option (List D)
  | .ref n => lstOf h n
  | _ => none
/-- more turns than any loop takes -/
def turns : Nat := 1000000000000
def noExc {α : Type} : R α → R α
  | .exc _ _ _ => .bad
  | r => r
abbrev EvD := En → Hh → R D
/-- what has no test of its own: its value's truth -/
def pl (f : EvD) : EvD × (En → Hh → R Bool) := (f, fun en h => bnd (f en h) toBool)
mutual
def evt (cl : Nat → List D → Hh → R D) : Ex → EvD × (En → Hh → R Bool)
  | .con d => pl fun _ h => .ok d h
  | .var i => pl fun en h => optR (getE en i) fun d => .ok d h
  | .tup es => pl fun en h => bnd (evs cl es en h) fun ds h1 => if ds.length ≤ sizeLine then .ok (.tup ds) h1 else .bad
  | .lst es => pl fun en h => bnd (evs cl es en h) fun ds h1 => if ds.length ≤ sizeLine then .ok (.ref h1.length) (h1 ++ [.lst ds]) else .bad
  | .bin op a b => pl fun en h => bnd ((evt cl a).1 en h) fun x h1 => bnd ((evt cl b).1 en h1) fun y h2 => binOp op x y h2
  | .neg a => pl fun en h => bnd ((evt cl a).1 en h) unNeg
  | .not a => (fun en h => bnd ((evt cl a).1 en h) fun x h1 => bnd (toBool x h1) fun b h2 => .ok (.bl (!b)) h2, fun en h => bnd ((evt cl a).2 en h) fun b h1 => .ok (!b) h1)
  | .cmp op a b => pl fun en h => bnd ((evt cl a).1 en h) fun x h1 => bnd ((evt cl b).1 en h1) fun y h2 => cmpOp op x y h2
  | .chain op op' a b c => pl fun en h => bnd ((evt cl a).1 en h) fun x h1 => bnd ((evt cl b).1 en h1) fun y h2 => bnd (cmpOp op x y h2) fun z h3 => bnd (toBool z h3) fun k h4 =>
      if k = true then bnd ((evt cl c).1 en h4) fun w h5 => cmpOp op' y w h5 else .ok (.bl false) h4
  | .and a b => (fun en h => bnd ((evt cl a).1 en h) fun x h1 => bnd (toBool x h1) fun k h2 => if k = true then (evt cl b).1 en h2 else .ok (.bl false) h2, fun en h => bnd ((evt cl a).2 en h) fun k h1 => if k = true then (evt cl b).2 en h1 else .ok false h1)
  | .or a b => (fun en h => bnd ((evt cl a).1 en h) fun x h1 => bnd (toBool x h1) fun k h2 => if k = true then .ok (.bl true) h2 else (evt cl b).1 en h2, fun en h => bnd ((evt cl a).2 en h) fun k h1 => if k = true then .ok true h1 else (evt cl b).2 en h1)
  | .ite c a b => (fun en h => bnd ((evt cl c).2 en h) fun k h1 => if k = true then (evt cl a).1 en h1 else (evt cl b).1 en h1, fun _ _ => .bad)
  | .call f es => pl fun en h => bnd (evs cl es en h) fun ds h1 => cl f ds h1
  | .bi b e => pl fun en h => bnd ((evt cl e).1 en h) (biOp b)
  | .isi e t => pl fun en h => bnd ((evt cl e).1 en h) fun x h1 => .ok (.bl (isTy t x)) h1
  | .ix a i => pl fun en h => bnd ((evt cl a).1 en h) fun x h1 => bnd ((evt cl i).1 en h1) fun y h2 => ixOp x y h2
  | .sl a lo hi => pl fun en h => bnd ((evt cl a).1 en h) fun x h1 => bnd (evo cl lo en h1) fun l h2 => bnd (evo cl hi en h2) fun u h3 => slOp x l u h3
  | .comp it t c e own => pl fun en h => bnd (evi cl it en h) fun I h1 => bnd (noExc (compLoop I (fun d h2 => bnd (asgn cl t d (wipeE en own) h2) fun en3 h3 => bnd ((evt cl c).2 en3 h3) fun k h4 =>
      if k = true then bnd ((evt cl e).1 en3 h4) fun y h5 => .ok (some y) h5 else .ok none h4) turns 0 [] h1)) fun ds h2 => .ok (.ref h2.length) (h2 ++ [.lst ds])
  | .comp2 it t it1 t1 c e own own1 => pl fun en h => bnd (evi cl it en h) fun I h1 => bnd (noExc (comp2Loop I (fun d h2 => bnd (asgn cl t d (wipeE en own) h2) fun en3 h3 => bnd (evi cl it1 en3 h3) fun J h4 => .ok (en3, J) h4)
      (fun en3 d h2 => bnd (asgn cl t1 d (wipeE en3 own1) h2) fun en4 h4 => bnd ((evt cl c).2 en4 h4) fun k h5 =>
      if k = true then bnd ((evt cl e).1 en4 h5) fun y h6 => .ok (some y) h6 else .ok none h5) turns 0 [] h1)) fun ds h2 => .ok (.ref h2.length) (h2 ++ [.lst ds])
  | .met m o es => pl fun en h => bnd ((evt cl o).1 en h) fun x h1 => optR (refOf h1 x) fun _ => bnd (evs cl es en h1) fun ds h2 => metOp m x ds h2
  | .isis e ts => pl fun en h => bnd ((evt cl e).1 en h) fun x h1 => .ok (.bl (ts.any fun t => isTy t x)) h1
  | .tupS fl es => pl fun en h => bnd (evS cl es fl en h) fun ds h1 => if ds.length ≤ sizeLine then .ok (.tup ds) h1 else .bad
  | .lstS fl es => pl fun en h => bnd (evS cl es fl en h) fun ds h1 => if ds.length ≤ sizeLine then .ok (.ref h1.length) (h1 ++ [.lst ds]) else .bad
  | .bad => pl fun _ _ => .bad
def evS (cl : Nat → List D → Hh → R D) : Exs → List Bool → En → Hh → R (List D)
  | .nil => fun _ _ h => .ok [] h
  | .cons e es => fun fl en h => match fl with
    | true :: fl => bnd ((evt cl e).1 en h) fun d h1 => optR (itemsOf h1 d) fun xs => bnd (evS cl es fl en h1) fun ds h2 => .ok (xs ++ ds) h2
    | false :: fl => bnd ((evt cl e).1 en h) fun d h1 => bnd (evS cl es fl en h1) fun ds h2 => .ok (d :: ds) h2
    | [] => .bad
def evs (cl : Nat → List D → Hh → R D) : Exs → En → Hh → R (List D)
  | .nil => fun _ h => .ok [] h
  | .cons e es => fun en h => bnd ((evt cl e).1 en h) fun d h1 => bnd (evs cl es en h1) fun ds h2 => .ok (d :: ds) h2
def evo (cl : Nat → List D → Hh → R D) : Ox → En → Hh → R (Option Int)
  | .none => fun _ h => .ok none h
  | .some e => fun en h => bnd ((evt cl e).1 en h) fun d h1 => bnd (toInt d h1) fun i h2 => .ok (some i) h2
def evi (cl : Nat → List D → Hh → R D) : Ix → En → Hh → R It
  | .seq e => fun en h => bnd ((evt cl e).1 en h) seqIt
  | .rng1 a => fun en h => bnd ((evt cl a).1 en h) fun x h1 => rngIt 0 x h1
  | .rng2 a b => fun en h => bnd ((evt cl a).1 en h) fun x h1 => bnd ((evt cl b).1 en h1) fun y h2 => bnd (toInt x h2) fun lo h3 => rngIt lo y h3
  | .rng3 es => fun en h => bnd (evs cl es en h) rngIt3
  | .enum e => fun en h => bnd ((evt cl e).1 en h) enumIt
  | .zip a b => fun en h => bnd ((evt cl a).1 en h) fun x h1 => bnd ((evt cl b).1 en h1) fun y h2 => zipIt x y h2
def asgn (cl : Nat → List D → Hh → R D) : Tg → D → En → Hh → R En
  | .name i => fun d en h => .ok (en.set i (some d)) h
  | .tup ts => fun d en h => match d with
    | .tup ds => asgns cl ts ds en h
    | x => optR (seqOf h x) fun ds => asgns cl ts ds en h
  | .sub o i => fun d en h => bnd ((evt cl o).1 en h) fun x h1 => bnd ((evt cl i).1 en h1) fun y h2 => bnd (setAt x y d h2) fun _ h3 => .ok en h3
def asgns (cl : Nat → List D → Hh → R D) : Tgs → List D → En → Hh → R En
  | .nil => fun ds en h => match ds with
    | [] => .ok en h
    | _ => .bad
  | .cons t ts => fun ds en h => match ds with
    | d :: ds => bnd (asgn cl t d en h) fun en1 h1 => asgns cl ts ds en1 h1
    | [] => .bad
end
def ev (cl : Nat → List D → Hh → R D) (e : Ex) : EvD := (evt cl e).1
def test (cl : Nat → List D → Hh → R D) (e : Ex) : En → Hh → R Bool := (evt cl e).2
/-! ### statements -/
inductive RS where
  | nx (en : En) (h : Hh) | rt (d : D) (h : Hh) | bk (en : En) (h : Hh) | ct (en : En) (h : Hh) | exc (c : Nat) (x : D) (en : En) (h : Hh) | bad
def bndS {α : Type} (r : R α) (en : En) (f : α → Hh → RS) : RS := match r with
  | .ok a h => f a h
  | .exc c x h => .exc c x en h
  | .bad => .bad
def thenS (r : RS) (f : En → Hh → RS) : RS := match r with
  | .nx en h => f en h
  | r => r
def whileLoop (tst : En → Hh → R Bool) (body : En → Hh → RS) : Nat → En → Hh → RS
  | 0, _, _ => .bad
  | f + 1, en, h => bndS (tst en h) en fun k h1 => if k = true then
      (match body en h1 with
        | .nx en' h' => whileLoop tst body f en' h'
        | .ct en' h' => whileLoop tst body f en' h'
        | .bk en' h' => .nx en' h'
        | r => r)
    else .nx en h1
def forLoop (it : It) (asg : D → En → Hh → R En) (body : En → Hh → RS) : Nat → Nat → En → Hh → RS
  | 0, _, _, _ => .bad
  | f + 1, i, en, h => match it.next i h with
    | none => .bad
    | some none => .nx en h
    | some (some d) => bndS (noExc (asg d en h)) en fun en1 h1 =>
      match body en1 h1 with
        | .nx en' h' => forLoop it asg body f (i + 1) en' h'
        | .ct en' h' => forLoop it asg body f (i + 1) en' h'
        | .bk en' h' => .nx en' h'
        | r => r
def parSet : List Nat → List D → En → Option En
  | [], [], en => some en
  | i :: is, d :: ds, en => parSet is ds (en.set i (some d))
  | _, _, _ => none
def augOp : Operator → D → D → Option D
  | .Add, .int a, .int b => some (.int (a + b))
  | .Sub, .int a, .int b => some (.int (a - b))
  | _, _, _ => none
def exec (cl : Nat → List D → Hh → R D) : Sx → En → Hh → RS
  | .asg t e, en, h => bndS (ev cl e en h) en fun d h1 => bndS (noExc (asgn cl t d en h1)) en fun en2 h2 => .nx en2 h2
  | .par is es, en, h => bndS (evs cl es en h) en fun ds h1 => match parSet is ds en with
    | some en' => .nx en' h1
    | none => .bad
  | .aug i op e, en, h => match getE en i with
    | some x => bndS (ev cl e en h) en fun y h1 => match augOp op x y with
      | some z => .nx (en.set i (some z)) h1
      | none => .bad
    | none => .bad
  | .expr e, en, h => bndS (ev cl e en h) en fun _ h1 => .nx en h1
  | .ret e, en, h => bndS (ev cl e en h) en fun d h1 => .rt d h1
  | .retN, _, h => .rt .non h
  | .ife c a b, en, h => bndS (test cl c en h) en fun k h1 => if k = true then exec cl a en h1 else exec cl b en h1
  | .whl c b, en, h => whileLoop (test cl c) (exec cl b) turns en h
  | .for_ it t b, en, h => bndS (evi cl it en h) en fun I h1 => forLoop I (asgn cl t) (exec cl b) turns 0 en h1
  | .brk, en, h => .bk en h
  | .cont, en, h => .ct en h
  | .skip, en, h => .nx en h
  | .seq a b, en, h => thenS (exec cl a en h) (exec cl b)
  | .raise c e, en, h => bndS (ev cl e en h) en fun d h1 => .exc c d en h1
  | .bad, _, _ => .bad
structure Fn where
  id : Nat
  name : Str
  N : List Str
  ps : List Str
  body : Sx
def endOf : RS → R D
  | .nx _ h => .ok .non h
  | .rt d h => .ok d h
  | .exc c x _ h => .exc c x h
  | _ => .bad
def startE (N : List Str) (ds : List D) : En := ds.map some ++ List.replicate (N.length - ds.length) none
def fget (fs : List Fn) (i : Nat) : Option Fn := fs.find? fun f => f.id == i
def callF (fs : List Fn) : Nat → Nat → List D → Hh → R D
  | 0, _, _, _ => .bad
  | k + 1, i, ds, h => match fget fs i with
    | none => .bad
    | some f => if ds.length = f.ps.length then endOf (exec (callF fs k) f.body (startE f.N ds) h) else .bad
end PD

set_option Elab.async false
set_option linter.all false
set_option maxRecDepth 100000
set_option maxHeartbeats 1000000
/-! zip over two sequences of any kind, enumerate over a tuple. -/
namespace PD
open PySem PySem.Spec PyProof.Rows L2
/-- a tuple (true) or a list (false) -/
def sqK (k : Bool) (K : PySem.W.Frag) (H : Hp) (a : Addr) (xs : List V) : Prop := match k with
  | true => SqT K H a xs
  | false => SqL K H a xs
def itK (k : Bool) (h : Heap) (it a : Addr) (i : Nat) : Prop := match k with
  | true => h.IsTupleIter it a i
  | false => h.IsListIter it a i
def laidK (k : Bool) (h : Heap) (a : Addr) (items : Array Value) : Prop := match k with
  | true => h.IsTuple a items
  | false => h.IsList a items
def obK (k : Bool) (a : Addr) : Obj := match k with
  | true => { cls := .type "tuple_iterator", data := .fields #[.ref a, .int 0 0] }
  | false => { cls := .type "list_iterator", data := .fields #[.ref a, .int 0 0] }
theorem drawsK {P : Program} {w : World} {A : Around} (k : Bool) (hh : A.handled = none) (it a : Addr) (hne : a ≠ it) (items : Array Value) :
    Draws P w A it [it, a] items.size (fun i v => items[i]? = some v) (fun i h => itK k h it a i ∧ laidK k h a items) := by
  cases k
  · exact Draws.list hh it a hne items
  · exact Draws.tuple hh it a hne items
theorem beginsK (k : Bool) (a : Addr) (items : Array Value) : Begins (.ref a) (obK k a) fun h => laidK k h a items := by
  cases k
  · exact begins_list a items
  · exact begins_tuple a items
section
variable {X : Cx} {pins : List (Addr × Obj)} {σ : L2.St} {H : Hp} {s : Shared} {a : Addr} {xs ys : List V} {k : Bool}
theorem invK (I : Inv X pins σ H s) (h : sqK k X.K H a xs) : ∃ its : List Value, Vals xs its ∧ laidK k s.heap a its.toArray ∧ ∃ o, s.heap.get? a = some o := by
  cases k
  · obtain ⟨its, rv, p, _⟩ := I.list h
    obtain ⟨o, ho, _⟩ := id p.isList
    exact ⟨its, rv, p.isList, o, ho⟩
  · obtain ⟨its, rv, p, _⟩ := I.tuple h
    obtain ⟨o, ho, _⟩ := id p
    exact ⟨its, rv, p, o, ho⟩
theorem injK (I : Inv X pins σ H s) (h : sqK k X.K H a xs) (h' : sqK k X.K H a ys) : xs = ys := by
  cases k
  · exact I.list_inj h h'
  · exact I.tuple_inj h h'
end
theorem itK_obj {k : Bool} {h : Heap} {it a : Addr} {i : Nat} (x : itK k h it a i) : ∃ o, h.get? it = some o ∧ ∀ v, o.data ≠ .cell v := by
  cases k
  · obtain ⟨o, e, _, d⟩ := x
    exact ⟨o, e, fun v q => by rw [d] at q; cases q⟩
  · obtain ⟨o, e, _, d⟩ := x
    exact ⟨o, e, fun v q => by rw [d] at q; cases q⟩
theorem itK_at {k : Bool} {h h' : Heap} {it a : Addr} {i : Nat} (x : itK k h it a i) (kk : ∀ o, h.get? it = some o → h'.get? it = some o) : itK k h' it a i := by
  cases k
  · exact Heap.IsListIter.at x kk
  · exact Heap.IsTupleIter.at x kk
theorem obK_it {k : Bool} {h : Heap} {it a : Addr} (e : h.get? it = some (obK k a)) : itK k h it a 0 := by
  cases k
  · exact ⟨_, e, rfl, rfl⟩
  · exact ⟨_, e, rfl, rfl⟩
def Itz2 (k1 k2 : Bool) (K : PySem.W.Frag) (a b : Addr) : L2.It :=
  ⟨fun i H => ∃ (us vs : List V) (x y : V), sqK k1 K H a us ∧ sqK k2 K H b vs ∧ us[i]? = some x ∧ vs[i]? = some y,
   fun i H v H' => ∃ T x y, v = .ref T ∧ H T = none ∧ H' = upd H T (.tup [x, y]) ∧ (∀ us, sqK k1 K H a us → us[i]? = some x) ∧ ∀ vs, sqK k2 K H b vs → vs[i]? = some y,
   fun i H => ∃ us vs : List V, sqK k1 K H a us ∧ sqK k2 K H b vs ∧ i ≤ us.length ∧ i ≤ vs.length ∧ (i = us.length ∨ i = vs.length)⟩
theorem sep_of {z TI TO i1 i2 a b : Addr} (D : ZipApart z TI TO i1 i2 a b) (h1 : b ≠ i1) (h2 : a ≠ i2) : ZipSep2 z TI TO i1 i2 [i1, a] [i2, b] := by
  refine ⟨D.TIz, D.TOz, D.TITO, D.TIi1, by simp, ?_, ?_, D.TIi2, by simp, ?_, ?_, ?_, ?_⟩
  all_goals simp only [List.mem_cons, List.mem_nil_iff, List.not_mem_nil, or_false, not_or]
  · exact ⟨D.i1z.symm, D.l1z.symm⟩
  · exact ⟨D.TOi1, D.l1TO.symm⟩
  · exact ⟨D.i2z.symm, D.l2z.symm⟩
  · exact ⟨D.TOi2, D.l2TO.symm⟩
  · exact ⟨D.i12, h1.symm⟩
  · exact ⟨D.i12.symm, h2.symm⟩
theorem turn_zip2 {P : Program} {w : World} {K : PySem.W.Frag} {elts : List Expr} {kk : Nat} {tpos : Pos} {k1 k2 : Bool} {a b z TI TO i1 i2 : Addr} (D : ZipApart z TI TO i1 i2 a b) (hb1 : b ≠ i1) (ha2 : a ≠ i2) :
    Turn P w K (.Tuple elts kk tpos) (Itz2 k1 k2 K a b) [z, TI, TO, i1, i2] z (fun i h => IsZip h z TI TO .none ∧ IsTupOf2 h TI (.ref i1) (.ref i2) ∧ (∃ x y, IsTupOf2 h TO x y) ∧ itK k1 h i1 a i ∧ itK k2 h i2 b i) where
  mem := by simp
  obj := fun i h st c hc => by
    obtain ⟨hz, hTI, ⟨x, y, hTO⟩, w1, w2⟩ := st
    simp only [List.mem_cons, List.not_mem_nil, or_false] at hc
    rcases hc with rfl | rfl | rfl | rfl | rfl
    · exact ⟨_, hz, fun v q => nomatch q⟩
    · exact ⟨_, hTI, fun v q => nomatch q⟩
    · exact ⟨_, hTO, fun v q => nomatch q⟩
    · exact itK_obj w1
    · exact itK_obj w2
  keep := fun i h h' st kp => by
    obtain ⟨hz, hTI, ⟨x, y, hTO⟩, w1, w2⟩ := st
    exact ⟨kp z (by simp) _ hz, kp TI (by simp) _ hTI, ⟨x, y, kp TO (by simp) _ hTO⟩, itK_at w1 fun o q => kp i1 (by simp) o q, itK_at w2 fun o q => kp i2 (by simp) o q⟩
  item := fun X hP hw hK hc i pins s σ H E I hf st hg => by
    subst hP hw hK
    obtain ⟨hz, hTI, ⟨x0, y0, hTO⟩, w1, w2⟩ := st
    obtain ⟨us, vs, x, y, hqx, hqy, hx, hy⟩ := hg
    obtain ⟨its, rv, p1, o1, ho1⟩ := invK I hqx
    obtain ⟨its2, rv2, p2, o2, ho2⟩ := invK I hqy
    obtain ⟨u, hu, ru⟩ := rv.get hx
    obtain ⟨u2, hu2, ru2⟩ := rv2.get hy
    have hzl : z < s.heap.objs.size := Heap.lt_size hz
    have hh : X.A.in1.handled = none := I.ok.hd hc
    refine wpAny_pyNext_zipD2_item (sep_of D hb1 ha2) (drawsK k1 hh i1 a D.l1i1 its.toArray) (drawsK k2 hh i2 b D.l2i2 its2.toArray) hz hTI hTO ⟨w1, p1⟩ ⟨w2, p2⟩ (by simpa using (List.getElem?_eq_some_iff.mp hu).1) (by simpa using (List.getElem?_eq_some_iff.mp hu2).1) fun x1 x2 h' tk e1 e2 z' TO' h1' h2' hT hsz hk => ?_
    have e1' : x1 = u := by
      rw [List.getElem?_toArray, hu] at e1
      exact (Option.some.inj e1).symm
    have e2' : x2 = u2 := by
      rw [List.getElem?_toArray, hu2] at e2
      exact (Option.some.inj e2).symm
    subst e1' e2'
    refine ⟨_, rfl, wpAny_letOwnedTupleGo_zip (s := { s with heap := h', toks := tk }) z' fun h'' z'' sb => ?_⟩
    have gT : h''.get? s.heap.objs.size = some { cls := .type "tuple", data := .seq #[x1, x2] } := (sb.2 _ (Nat.ne_of_gt hzl)).trans hT
    have made : ObjOk X.prog X.w (upd H s.heap.objs.size (.tup [x, y])) h'' s.heap.objs.size (.tup [x, y]) := ⟨by show 2 ≤ sizeLine; decide, [x1, x2], .cons ru (.cons ru2 .nil), ⟨_, gT, rfl, _, rfl⟩⟩
    have I1 : Inv X pins σ (upd H s.heap.objs.size (.tup [x, y])) { s with heap := h'', toks := tk } :=
      I.turnedNew (t' := tk) (ch := [z, TI, TO, i1, i2]) (fun c o hb q => (sb.2 c fun q' => hb (by simp [q'])).trans (hk c o (fun q' => hb (by simp [q'])) (fun q' => hb (by simp [q'])) (fun q' => hb (by simp [q'])) (fun q' => hb (by simp [q'])) q)) hf (Nat.le_refl _) made
    refine ⟨.ref s.heap.objs.size, _, I1, rfl, ⟨_, x, y, rfl, I.hok.fresh (Nat.le_refl _), rfl, fun l hl => by rw [injK I hl hqx]; exact hx, fun l hl => by rw [injK I hl hqy]; exact hy⟩, ⟨z'', ?_, ⟨x1, x2, ?_⟩, ?_, ?_⟩, fun c hcm => ?_⟩
    · exact (sb.2 _ D.TIz).trans (hk _ _ D.TIz D.TITO D.TIi1 D.TIi2 hTI)
    · exact (sb.2 _ D.TOz).trans TO'
    · exact itK_at h1'.1 fun o q => (sb.2 _ D.i1z).trans q
    · exact itK_at h2'.1 fun o q => (sb.2 _ D.i2z).trans q
    · have hlt : c < s.heap.objs.size := by
        simp only [List.mem_cons, List.not_mem_nil, or_false] at hcm
        rcases hcm with rfl | rfl | rfl | rfl | rfl
        · exact hzl
        · exact Heap.lt_size hTI
        · exact Heap.lt_size hTO
        · exact let ⟨_, g, _⟩ := itK_obj w1; Heap.lt_size g
        · exact let ⟨_, g, _⟩ := itK_obj w2; Heap.lt_size g
      rw [upd_ne (Nat.ne_of_lt hlt)]
      exact (hf c hcm).1
  done := fun X hP hw hK hc i pins s σ H E I hf st hg => by
    subst hP hw hK
    obtain ⟨hz, hTI, ⟨x0, y0, hTO⟩, w1, w2⟩ := st
    obtain ⟨us, vs, hqx, hqy, c1, c2, c3⟩ := hg
    obtain ⟨its, rv, p1, o1, ho1⟩ := invK I hqx
    obtain ⟨its2, rv2, p2, o2, ho2⟩ := invK I hqy
    have l1 := rv.length
    have l2 := rv2.length
    have hh : X.A.in1.handled = none := I.ok.hd hc
    refine wpAny_pyNext_zipD2_end (i := i) (sep_of D hb1 ha2) (drawsK k1 hh i1 a D.l1i1 its.toArray) (drawsK k2 hh i2 b D.l2i2 its2.toArray) hz hTI hTO ⟨w1, p1⟩ ⟨w2, p2⟩ (by simp; omega) (by simp; omega) (by simp; omega) fun h' tk hk => ⟨rfl, I.turnedL (t' := tk) (ch := [z, TI, TO, i1, i2]) (fun c o hb q =>
      hk c o (fun q' => hb (by simp [q'])) (fun q' => hb (by simp [q'])) (fun q' => hb (by simp [q'])) (fun q' => hb (by simp [q'])) q) hf⟩
  self := fun A i s Q E st h => wpAny_pyIter_zip st.1 h
def iZip2 (K : PySem.W.Frag) (ta : TA) : TI := fun σ H R => ta σ H fun vs H1 => ∃ k1 k2 a b us ws, vs = [.ref a, .ref b] ∧ sqK k1 K H1 a us ∧ sqK k2 K H1 b ws ∧ R (Itz2 k1 k2 K a b) H1
theorem pi_zip2 {X : Cx} {e e2 : Expr} {ta : TA} {p pos tpos : Pos} {elts : List Expr} {kk : Nat} (hg : Gl X "zip") (hm : X.mg "zip" = none) (ha : PA X [e, e2] ta)
    (hs : starEach [e, e2] X.env = (false, eval e X.env) :: starEach [e2] X.env) (hpl : (backTo pos (starEach [e2] X.env)).any (·.1) = false) :
    PI X (.Tuple elts kk tpos) (.Call (.Name "zip" p) [e, e2] [] pos) (iZip2 X.K ta) := ⟨fun pins s σ H R I h => by
  refine Call_ (ld_blt I hg hm PyProof.Rows.boot_zip (PyProof.Rows.callWith_type1 (thn (ha.run pos pins s σ H _ I h) fun us s1 ⟨vs, H1, I1, r1, q1⟩ => ?_) hs hpl))
  obtain ⟨k1, k2, a, b, xs, ys, rfl, hqx, hqy, q⟩ := q1
  obtain ⟨u1, u2, rfl, r1, r2⟩ := r1.two
  cases r1
  cases r2
  obtain ⟨its, rv, p1, o1, ho1⟩ := invK I1 hqx
  obtain ⟨its2, rv2, p2, o2, ho2⟩ := invK I1 hqy
  have la := Heap.lt_size ho1
  have lb := Heap.lt_size ho2
  refine zip_begins2 (beginsK k1 a its.toArray) (beginsK k2 b its2.toArray) p1 p2 fun h' hz hTI hTO g1 g2 hsz hk => wpAny_pyIter_zip hz ?_
  refine ⟨s1.heap.objs.size + 4, [s1.heap.objs.size + 4, s1.heap.objs.size + 2, s1.heap.objs.size + 3, s1.heap.objs.size, s1.heap.objs.size + 1], _, _, H1, rfl, I1.kept (t' := s1.toks) hk, turn_zip2 (PySem.W.ktu_apart s1.heap.objs.size a b la lb) (Nat.ne_of_lt lb) (Nat.ne_of_lt (Nat.lt_succ_of_lt la)), ⟨hz, hTI, ⟨_, _, hTO⟩, obK_it g1, obK_it g2⟩, fun c hcm => ?_, q⟩
  have hle : s1.heap.objs.size ≤ c := by
    simp only [List.mem_cons, List.not_mem_nil, or_false] at hcm
    rcases hcm with rfl | rfl | rfl | rfl | rfl <;> first | exact Nat.le_add_right _ _ | exact Nat.le_refl _
  exact I1.fpOk hle (I1.hok.fresh hle)⟩
end PD

set_option Elab.async false
set_option linter.all false
set_option maxRecDepth 100000
/-! How plain data lie in the layer's heap. -/
namespace PD
open PySem PySem.Spec PyProof.Rows L2

structure Wd where
  K : PySem.W.Frag
  ca : Nat → Addr

/-- a list that nobody writes: the script -/
def RoL (K : PySem.W.Frag) (H : Hp) (a : Addr) (xs : List V) : Prop :=
  (∃ o, H a = some (.frz o (.lst xs))) ∨
    ∃ (o : Obj) (its : Array Value) (n : Nat), K.lookup a = some o ∧ o.cls = .type "list" ∧ o.dict = none ∧ o.data = .seq its n ∧ its.size ≤ sizeLine ∧ Vals xs its.toList
theorem RoL.sq {K : PySem.W.Frag} {H : Hp} {a : Addr} {xs : List V} (h : RoL K H a xs) : SqL K H a xs := by
  rcases h with h | h
  · exact .inl (.inr h)
  · exact .inr h
mutual
inductive Rep (K : PySem.W.Frag) (α : List Addr) (H : Hp) : D → V → Prop
  | non : Rep K α H .non .non
  | bl (b : Bool) : Rep K α H (.bl b) (.bl b)
  | int (i : Int) : Rep K α H (.int i) (.int i)
  | str (x : Str) : Rep K α H (.str x) (.str x)
  | tup {a : Addr} {vs : List V} {ds : List D} : SqT K H a vs → Reps K α H ds vs → Rep K α H (.tup ds) (.ref a)
  | ref {n : Nat} {a : Addr} : α[n]? = some a → Rep K α H (.ref n) (.ref a)
  | scr {ns : List Int} {a : Addr} : RoL K H a (ns.map V.int) → Rep K α H (.scr ns) (.ref a)
inductive Reps (K : PySem.W.Frag) (α : List Addr) (H : Hp) : List D → List V → Prop
  | nil : Reps K α H [] []
  | cons {d : D} {ds : List D} {v : V} {vs : List V} : Rep K α H d v → Reps K α H ds vs → Reps K α H (d :: ds) (v :: vs)
end

structure Ext (K : PySem.W.Frag) (α : List Addr) (H : Hp) (α' : List Addr) (H' : Hp) : Prop where
  pre : ∃ β, α' = α ++ β
  tup : ∀ a xs, SqT K H a xs → SqT K H' a xs
  ro : ∀ a xs, RoL K H a xs → RoL K H' a xs
structure Step (K : PySem.W.Frag) (α : List Addr) (H : Hp) (α' : List Addr) (H' : Hp) : Prop extends Ext K α H α' H' where
  new : ∀ a, a ∈ α' → a ∈ α ∨ H a = none
  frm : ∀ a o, a ∉ α → H a = some o → H' a = some o
theorem Step.refl {K : PySem.W.Frag} {α : List Addr} {H : Hp} : Step K α H α H := ⟨⟨⟨[], by simp⟩, fun _ _ h => h, fun _ _ h => h⟩, fun _ h => .inl h, fun _ _ _ h => h⟩
theorem Step.trans {K : PySem.W.Frag} {α α1 α2 : List Addr} {H H1 H2 : Hp} (a : Step K α H α1 H1) (b : Step K α1 H1 α2 H2) : Step K α H α2 H2 := by
  refine ⟨⟨?_, fun x xs h => b.tup _ _ (a.tup _ _ h), fun x xs h => b.ro _ _ (a.ro _ _ h)⟩, fun x hx => ?_, fun x o hx e => ?_⟩
  · obtain ⟨β, rfl⟩ := a.pre
    obtain ⟨γ, rfl⟩ := b.pre
    exact ⟨β ++ γ, by simp⟩
  · rcases b.new x hx with h | h
    · exact a.new x h
    · by_cases hm : x ∈ α
      · exact .inl hm
      · cases q : H x with
        | none => exact .inr rfl
        | some o =>
          rw [a.frm x o hm q] at h
          cases h
  · refine b.frm x o (fun hm => ?_) (a.frm x o hx e)
    rcases a.new x hm with h | h
    · exact hx h
    · rw [h] at e; cases e
theorem Ext.at {K : PySem.W.Frag} {α α1 : List Addr} {H H1 : Hp} (a : Ext K α H α1 H1) {n : Nat} {x : Addr} (h : α[n]? = some x) : α1[n]? = some x := by
  obtain ⟨β, rfl⟩ := a.pre
  have hn : n < α.length := (List.getElem?_eq_some_iff.mp h).1
  rw [List.getElem?_append_left hn]
  exact h
section
variable {K : PySem.W.Frag} {α α1 : List Addr} {H H1 : Hp}
mutual
theorem Rep.monoE (a : Ext K α H α1 H1) : ∀ {d : D} {v : V}, Rep K α H d v → Rep K α1 H1 d v
  | _, _, .non => .non
  | _, _, .bl b => .bl b
  | _, _, .int i => .int i
  | _, _, .str x => .str x
  | _, _, .tup h r => .tup (a.tup _ _ h) (Reps.monoE a r)
  | _, _, .ref h => .ref (a.at h)
  | _, _, .scr h => .scr (a.ro _ _ h)
theorem Reps.monoE (a : Ext K α H α1 H1) : ∀ {ds : List D} {vs : List V}, Reps K α H ds vs → Reps K α1 H1 ds vs
  | _, _, .nil => .nil
  | _, _, .cons r rs => .cons (Rep.monoE a r) (Reps.monoE a rs)
end
theorem Rep.mono (a : Step K α H α1 H1) {d : D} {v : V} (r : Rep K α H d v) : Rep K α1 H1 d v := r.monoE a.toExt
theorem Reps.mono (a : Step K α H α1 H1) {ds : List D} {vs : List V} (r : Reps K α H ds vs) : Reps K α1 H1 ds vs := r.monoE a.toExt
theorem Reps.length : ∀ {ds : List D} {vs : List V}, Reps K α H ds vs → ds.length = vs.length
  | _, _, .nil => rfl
  | _, _, .cons _ rs => by rw [List.length_cons, List.length_cons, Reps.length rs]
theorem Reps.get : ∀ {ds : List D} {vs : List V} {i : Nat} {d : D}, Reps K α H ds vs → ds[i]? = some d → ∃ v, vs[i]? = some v ∧ Rep K α H d v
  | _, _, _, _, .nil, h => by simp at h
  | _, _, 0, _, .cons r _, h => by simp at h; subst h; exact ⟨_, rfl, r⟩
  | _, _, i + 1, d, .cons _ rs, h => by
    obtain ⟨v, e, q⟩ := Reps.get (i := i) (d := d) rs (by simpa using h)
    exact ⟨v, by simpa using e, q⟩
theorem Reps.getV : ∀ {ds : List D} {vs : List V} {i : Nat} {v : V}, Reps K α H ds vs → vs[i]? = some v → ∃ d, ds[i]? = some d ∧ Rep K α H d v
  | _, _, _, _, .nil, h => by simp at h
  | _, _, 0, _, .cons r _, h => by simp at h; subst h; exact ⟨_, rfl, r⟩
  | _, _, i + 1, v, .cons _ rs, h => by
    obtain ⟨d, e, q⟩ := Reps.getV (i := i) (v := v) rs (by simpa using h)
    exact ⟨d, by simpa using e, q⟩
theorem Reps.append : ∀ {ds ds' : List D} {vs vs' : List V}, Reps K α H ds vs → Reps K α H ds' vs' → Reps K α H (ds ++ ds') (vs ++ vs')
  | _, _, _, _, .nil, h => h
  | _, _, _, _, .cons r rs, h => .cons r (Reps.append rs h)
theorem Reps.set {d : D} {v : V} (r : Rep K α H d v) : ∀ {ds : List D} {vs : List V} (i : Nat), Reps K α H ds vs → Reps K α H (ds.set i d) (vs.set i v)
  | _, _, _, .nil => .nil
  | _, _, 0, .cons _ t => .cons r t
  | _, _, i + 1, .cons q t => .cons q (Reps.set r i t)
theorem Reps.take : ∀ {ds : List D} {vs : List V} (n : Nat), Reps K α H ds vs → Reps K α H (ds.take n) (vs.take n)
  | _, _, 0, _ => .nil
  | _, _, _ + 1, .nil => .nil
  | _, _, n + 1, .cons r t => .cons r (Reps.take n t)
theorem Reps.drop : ∀ {ds : List D} {vs : List V} (n : Nat), Reps K α H ds vs → Reps K α H (ds.drop n) (vs.drop n)
  | _, _, 0, r => r
  | _, _, _ + 1, .nil => .nil
  | _, _, n + 1, .cons _ t => Reps.drop n t
theorem Reps.cut {ds : List D} {vs : List V} (r : Reps K α H ds vs) (lo hi : Option Int) : Reps K α H (cutD ds lo hi) (cutV vs lo hi) := by
  unfold cutD cutV
  rw [r.length]
  exact (r.drop _).take _
theorem Reps.atI {ds : List D} {vs : List V} {i : Int} {d : D} (r : Reps K α H ds vs) (h : L2.atI ds i = some d) : ∃ v, L2.atI vs i = some v ∧ Rep K α H d v := by
  unfold L2.atI at h ⊢
  rw [← r.length]
  cases q : ixN ds.length i with
  | none => rw [q] at h; cases h
  | some j =>
    rw [q] at h
    exact r.get h
theorem nodup_at : ∀ {l : List Addr} {i j : Nat} {x : Addr}, l.Nodup → l[i]? = some x → l[j]? = some x → i = j
  | [], _, _, _, _, h, _ => by simp at h
  | y :: l, 0, 0, _, _, _, _ => rfl
  | y :: l, 0, j + 1, x, nd, h1, h2 => by
    simp at h1 h2; subst h1
    exact absurd (List.mem_of_getElem? h2) (List.nodup_cons.mp nd).1
  | y :: l, i + 1, 0, x, nd, h1, h2 => by
    simp at h1 h2; subst h2
    exact absurd (List.mem_of_getElem? h1) (List.nodup_cons.mp nd).1
  | y :: l, i + 1, j + 1, x, nd, h1, h2 => by
    simp at h1 h2
    rw [nodup_at (List.nodup_cons.mp nd).2 h1 h2]
/-- one object -/
def OR (K : PySem.W.Frag) (α : List Addr) (H : Hp) (a : Addr) : O → Prop
  | .lst ds => ∃ vs, H a = some (.lst vs) ∧ Reps K α H ds vs
structure HR (K : PySem.W.Frag) (α : List Addr) (h : Hh) (H : Hp) : Prop where
  len : α.length = h.length
  nd : α.Nodup
  obj : ∀ (n : Nat) (a : Addr) (o : O), α[n]? = some a → h[n]? = some o → OR K α H a o
variable {h : Hh}
theorem HR.lst (r : HR K α h H) {n : Nat} {a : Addr} {ds : List D} (ha : α[n]? = some a) (hl : h[n]? = some (.lst ds)) : ∃ vs, H a = some (.lst vs) ∧ Reps K α H ds vs := r.obj n a _ ha hl
theorem lstOf_some {h : Hh} {n : Nat} {ds : List D} (hl : lstOf h n = some ds) : h[n]? = some (.lst ds) := by
  unfold lstOf at hl
  cases q : h[n]? with
  | none => rw [q] at hl; cases hl
  | some o => rw [q] at hl; cases o; cases hl; rfl
theorem reps_ints : ∀ ns : List Int, Reps K α H (ns.map D.int) (ns.map V.int)
  | [] => .nil
  | i :: r => .cons (.int i) (reps_ints r)
theorem HR.seq (r : HR K α h H) {x : D} {v : V} {ds : List D} (rx : Rep K α H x v) (hl : seqOf h x = some ds) : ∃ a vs, v = .ref a ∧ SqL K H a vs ∧ Reps K α H ds vs := by
  cases rx with
  | ref ha =>
    obtain ⟨vs, e, w⟩ := r.lst ha (lstOf_some hl)
    exact ⟨_, vs, rfl, .inl (.inl e), w⟩
  | scr hs =>
    cases hl
    exact ⟨_, _, rfl, hs.sq, reps_ints _⟩
  | _ => cases hl
def isTupD : D → Bool
  | .tup _ => true
  | _ => false
theorem HR.items (r : HR K α h H) {x : D} {v : V} {ds : List D} (rx : Rep K α H x v) (hl : itemsOf h x = some ds) : ∃ a vs, v = .ref a ∧ sqK (isTupD x) K H a vs ∧ Reps K α H ds vs := by
  cases rx with
  | tup s rs => cases hl; exact ⟨_, _, rfl, s, rs⟩
  | ref ha =>
    obtain ⟨a, vs, e, s, rs⟩ := r.seq (.ref ha) hl
    exact ⟨a, vs, e, s, rs⟩
  | scr hs =>
    obtain ⟨a, vs, e, s, rs⟩ := r.seq (.scr hs) hl
    exact ⟨a, vs, e, s, rs⟩
  | _ => cases hl
theorem upd_ro {p a : Addr} {o : HO} {xs : List V} (hp : H p = none) (s : RoL K H a xs) : RoL K (upd H p o) a xs := by
  rcases s with ⟨u, s⟩ | s
  · exact .inl ⟨u, by rw [upd_ne (ne_of_none s hp)]; exact s⟩
  · exact .inr s
theorem upd_sqT {p a : Addr} {o : HO} {xs : List V} (hp : H p = none) (s : SqT K H a xs) : SqT K (upd H p o) a xs := by
  rcases s with (s | ⟨u, s⟩) | s
  · exact .inl (.inl (by rw [upd_ne (ne_of_none s hp)]; exact s))
  · exact .inl (.inr ⟨u, by rw [upd_ne (ne_of_none s hp)]; exact s⟩)
  · exact .inr s
theorem upd_sqL {p a : Addr} {o : HO} {xs : List V} (hp : H p = none) (s : SqL K H a xs) : SqL K (upd H p o) a xs := by
  rcases s with (s | ⟨u, s⟩) | s
  · exact .inl (.inl (by rw [upd_ne (ne_of_none s hp)]; exact s))
  · exact .inl (.inr ⟨u, by rw [upd_ne (ne_of_none s hp)]; exact s⟩)
  · exact .inr s
theorem upd_sqL' {p a : Addr} {o : HO} {xs : List V} (hp : a ≠ p) (s : SqL K H a xs) : SqL K (upd H p o) a xs := by
  rcases s with (s | ⟨u, s⟩) | s
  · exact .inl (.inl (by rw [upd_ne hp]; exact s))
  · exact .inl (.inr ⟨u, by rw [upd_ne hp]; exact s⟩)
  · exact .inr s
/-- something new that is not one of ours -/
theorem Step.other {p : Addr} {o : HO} (hp : H p = none) : Step K α H α (upd H p o) :=
  ⟨⟨⟨[], by simp⟩, fun _ _ s => upd_sqT hp s, fun _ _ s => upd_ro hp s⟩, fun _ h => .inl h, fun a u _ e => by rw [upd_ne (ne_of_none e hp)]; exact e⟩
theorem OR.mono {α' : List Addr} {H' : Hp} {a : Addr} {o : O} (s : Ext K α H α' H') (k1 : ∀ vs, H a = some (.lst vs) → H' a = some (.lst vs)) (x : OR K α H a o) : OR K α' H' a o := by
  cases o with
  | lst ds => obtain ⟨vs, e, r⟩ := x; exact ⟨vs, k1 _ e, r.monoE s⟩
theorem HR.other {p : Addr} {o : HO} (r : HR K α h H) (hp : H p = none) : HR K α h (upd H p o) :=
  ⟨r.len, r.nd, fun n a u ha hu => (r.obj n a u ha hu).mono (Step.other hp).toExt (fun vs e => by rw [upd_ne (ne_of_none e hp)]; exact e)⟩
/-- a new list of ours -/
theorem Step.new' {p : Addr} {vs : List V} (hp : H p = none) : Step K α H (α ++ [p]) (upd H p (.lst vs)) :=
  ⟨⟨⟨[p], rfl⟩, fun _ _ s => upd_sqT hp s, fun _ _ s => upd_ro hp s⟩, fun a ha => by
    rcases List.mem_append.mp ha with h | h
    · exact .inl h
    · rw [List.mem_singleton] at h; subst h; exact .inr hp, fun a u _ e => by rw [upd_ne (ne_of_none e hp)]; exact e⟩
theorem HR.fresh {p : Addr} (r : HR K α h H) (hp : H p = none) : p ∉ α := fun hm => by
  obtain ⟨n, hn⟩ := List.mem_iff_getElem?.mp hm
  have hl : n < h.length := by rw [← r.len]; exact (List.getElem?_eq_some_iff.mp hn).1
  have x := r.obj n p _ hn (List.getElem?_eq_getElem hl)
  cases q : h[n] with
  | lst ds =>
    rw [q] at x
    obtain ⟨vs, e, _⟩ := x
    rw [hp] at e
    cases e
/-- a new list -/
theorem HR.new {p : Addr} {ds : List D} {vs : List V} (r : HR K α h H) (hp : H p = none) (rs : Reps K α H ds vs) : HR K (α ++ [p]) (h ++ [.lst ds]) (upd H p (.lst vs)) := by
  have st : Step K α H (α ++ [p]) (upd H p (.lst vs)) := Step.new' hp
  have hq : p ∉ α := r.fresh hp
  refine ⟨by simp [r.len], ?_, fun n a u ha hu => ?_⟩
  · rw [List.nodup_append]
    refine ⟨r.nd, by simp, fun a ha b hb => ?_⟩
    rw [List.mem_singleton] at hb
    subst hb
    exact fun e => hq (e ▸ ha)
  · by_cases hn : n < α.length
    · rw [List.getElem?_append_left hn] at ha
      rw [List.getElem?_append_left (by rw [← r.len]; exact hn)] at hu
      exact (r.obj n a u ha hu).mono st.toExt (fun vs e => by rw [upd_ne (ne_of_none e hp)]; exact e)
    · have hn' : n = α.length := by
        have := (List.getElem?_eq_some_iff.mp ha).1
        rw [List.length_append, List.length_singleton] at this
        omega
      subst hn'
      rw [List.getElem?_append_right (Nat.le_refl _), Nat.sub_self] at ha
      rw [r.len, List.getElem?_append_right (Nat.le_refl _), Nat.sub_self] at hu
      cases ha
      cases hu
      exact ⟨vs, upd_same, rs.mono st⟩
theorem ext_over {p : Addr} {vs vs' : List V} (hp : H p = some (.lst vs)) : Ext K α H α (upd H p (.lst vs')) := by
  refine ⟨⟨[], by simp⟩, fun a xs s => ?_, fun a xs s => ?_⟩
  · rcases s with (s | ⟨u, s⟩) | s
    · have : a ≠ p := fun z => by subst z; rw [hp] at s; cases s
      exact .inl (.inl (by rw [upd_ne this]; exact s))
    · have : a ≠ p := fun z => by subst z; rw [hp] at s; cases s
      exact .inl (.inr ⟨u, by rw [upd_ne this]; exact s⟩)
    · exact .inr s
  · rcases s with ⟨u, s⟩ | s
    · have : a ≠ p := fun z => by subst z; rw [hp] at s; cases s
      exact .inl ⟨u, by rw [upd_ne this]; exact s⟩
    · exact .inr s
theorem Step.set {p : Addr} {vs vs' : List V} (hp : H p = some (.lst vs)) (hm : p ∈ α) : Step K α H α (upd H p (.lst vs')) := by
  refine ⟨ext_over hp, fun _ h => .inl h, fun a u ha e => ?_⟩
  rw [upd_ne (fun (z : a = p) => ha (by rw [z]; exact hm))]; exact e
/-- something that was not there at first is changed -/
theorem Step.over {p : Addr} {H' : Hp} {α' : List Addr} {vs vs' : List V} (st : Step K α H α' H') (h0 : H p = none) (hp : H' p = some (.lst vs)) : Step K α H α' (upd H' p (.lst vs')) := by
  have e := ext_over (K := K) (α := α') (vs' := vs') hp
  refine ⟨⟨st.pre, fun a xs s => e.tup _ _ (st.tup _ _ s), fun a xs s => e.ro _ _ (st.ro _ _ s)⟩, st.new, fun a u ha q => ?_⟩
  rw [upd_ne (ne_of_none q h0)]
  exact st.frm a u ha q
theorem HR.over {p : Addr} {vs vs' : List V} (r : HR K α h H) (hp : H p = some (.lst vs)) (hn : p ∉ α) : HR K α h (upd H p (.lst vs')) :=
  ⟨r.len, r.nd, fun n a u ha hu => (r.obj n a u ha hu).mono (ext_over hp) (fun vs e => by
    rw [upd_ne (fun (z : a = p) => hn (by rw [← z]; exact List.mem_of_getElem? ha))]
    exact e)⟩
/-- what stands is taken as one of ours -/
theorem HR.adopt {p : Addr} {vs : List V} {ds : List D} (r : HR K α h H) (hp : H p = some (.lst vs)) (hn : p ∉ α) (rs : Reps K α H ds vs) : HR K (α ++ [p]) (h ++ [.lst ds]) H := by
  have st : Ext K α H (α ++ [p]) H := ⟨⟨[p], rfl⟩, fun _ _ s => s, fun _ _ s => s⟩
  refine ⟨by simp [r.len], ?_, fun n a u ha hu => ?_⟩
  · rw [List.nodup_append]
    refine ⟨r.nd, by simp, fun a ha b hb => ?_⟩
    rw [List.mem_singleton] at hb
    subst hb
    exact fun e => hn (e ▸ ha)
  · by_cases hl : n < α.length
    · rw [List.getElem?_append_left hl] at ha
      rw [List.getElem?_append_left (by rw [← r.len]; exact hl)] at hu
      exact (r.obj n a u ha hu).mono st (fun vs e => e)
    · have hn' : n = α.length := by
        have := (List.getElem?_eq_some_iff.mp ha).1
        rw [List.length_append, List.length_singleton] at this
        omega
      subst hn'
      rw [List.getElem?_append_right (Nat.le_refl _), Nat.sub_self] at ha
      rw [r.len, List.getElem?_append_right (Nat.le_refl _), Nat.sub_self] at hu
      cases ha
      cases hu
      exact ⟨vs, hp, rs.monoE st⟩
theorem HR.set {n : Nat} {p : Addr} {vs vs' : List V} {ds' : List D} (r : HR K α h H) (ha : α[n]? = some p) (hp : H p = some (.lst vs)) (rs : Reps K α H ds' vs') : HR K α (h.set n (.lst ds')) (upd H p (.lst vs')) := by
  have hm : p ∈ α := List.mem_of_getElem? ha
  have st : Step K α H α (upd H p (.lst vs')) := Step.set hp hm
  have hn : n < h.length := by rw [← r.len]; exact (List.getElem?_eq_some_iff.mp ha).1
  refine ⟨by rw [List.length_set]; exact r.len, r.nd, fun m a u hma hu => ?_⟩
  by_cases e : m = n
  · subst e
    rw [ha] at hma
    cases hma
    rw [List.getElem?_set_self hn] at hu
    cases hu
    exact ⟨vs', upd_same, rs.mono st⟩
  · rw [List.getElem?_set_ne (Ne.symm e)] at hu
    have ne : a ≠ p := fun z => by
      subst z
      exact e (nodup_at r.nd hma ha)
    exact (r.obj m a u hma hu).mono st.toExt (fun vs q => by rw [upd_ne ne]; exact q)
end
/-- the slots -/
structure ER (K : PySem.W.Frag) (α : List Addr) (H : Hp) (en : En) (σ : L2.St) : Prop where
  len : en.length = σ.length
  get : ∀ (i : Nat) (d : D), en[i]? = some (some d) → ∃ v, σ[i]? = some (some v) ∧ Rep K α H d v
theorem ER.mono {K : PySem.W.Frag} {α α1 : List Addr} {H H1 : Hp} {en : En} {σ : L2.St} (s : Step K α H α1 H1) (r : ER K α H en σ) : ER K α1 H1 en σ :=
  ⟨r.len, fun i d h => let ⟨v, e, q⟩ := r.get i d h; ⟨v, e, q.mono s⟩⟩
theorem ER.monoE {K : PySem.W.Frag} {α α1 : List Addr} {H H1 : Hp} {en : En} {σ : L2.St} (s : Ext K α H α1 H1) (r : ER K α H en σ) : ER K α1 H1 en σ :=
  ⟨r.len, fun i d h => let ⟨v, e, q⟩ := r.get i d h; ⟨v, e, q.monoE s⟩⟩
theorem Ext.refl {K : PySem.W.Frag} {α : List Addr} {H : Hp} : Ext K α H α H := ⟨⟨[], by simp⟩, fun _ _ h => h, fun _ _ h => h⟩
theorem Ext.trans {K : PySem.W.Frag} {α α1 α2 : List Addr} {H H1 H2 : Hp} (a : Ext K α H α1 H1) (b : Ext K α1 H1 α2 H2) : Ext K α H α2 H2 := by
  refine ⟨?_, fun x xs h => b.tup _ _ (a.tup _ _ h), fun x xs h => b.ro _ _ (a.ro _ _ h)⟩
  obtain ⟨β, rfl⟩ := a.pre
  obtain ⟨γ, rfl⟩ := b.pre
  exact ⟨β ++ γ, by simp⟩
theorem ER.set {K : PySem.W.Frag} {α : List Addr} {H : Hp} {en : En} {σ : L2.St} {d : D} {v : V} (r : ER K α H en σ) (i : Nat) (q : Rep K α H d v) : ER K α H (en.set i (some d)) (σ.set i (some v)) := by
  refine ⟨by simp [r.len], fun j e h => ?_⟩
  by_cases hj : j = i
  · subst hj
    have hl : j < en.length := by
      have := (List.getElem?_eq_some_iff.mp h).1
      rw [List.length_set] at this
      exact this
    rw [List.getElem?_set_self hl] at h
    cases h
    exact ⟨v, by rw [List.getElem?_set_self (by rw [← r.len]; exact hl)], q⟩
  · rw [List.getElem?_set_ne (Ne.symm hj)] at h ⊢
    exact r.get j e h
theorem ER.unset {K : PySem.W.Frag} {α : List Addr} {H : Hp} {en : En} {σ : L2.St} (r : ER K α H en σ) (i : Nat) : ER K α H (en.set i none) (σ.set i none) := by
  refine ⟨by simp [r.len], fun j e h => ?_⟩
  by_cases hj : j = i
  · subst hj
    have hl : j < en.length := by
      have := (List.getElem?_eq_some_iff.mp h).1
      rw [List.length_set] at this
      exact this
    rw [List.getElem?_set_self hl] at h
    cases h
  · rw [List.getElem?_set_ne (Ne.symm hj)] at h ⊢
    exact r.get j e h
theorem ER.wipe {K : PySem.W.Frag} {α : List Addr} {H : Hp} {en : En} {σ : L2.St} (r : ER K α H en σ) : ∀ vs : List Nat, ER K α H (wipeE en vs) (L2.wipe σ vs)
  | [] => r
  | v :: vs => (ER.wipe r vs).unset v

/-! ### what is wanted of an evaluation -/
def XR (Γ : Wd) (α : List Addr) (H : Hp) (c : Nat) (x : D) (cls : Value) (d : Option Addr) : Prop :=
  ∃ da v, cls = .ref (Γ.ca c) ∧ d = some da ∧ da ∉ α ∧ H da = some (.xd [(("value" : Str), v)]) ∧ Rep Γ.K α H x v
def Pst {A B : Type} (Γ : Wd) (Rl : List Addr → Hp → A → B → Prop) (α : List Addr) (H : Hp) (r : R A) (Q : B → Hp → Prop) (E : XK) : Prop :=
  match r with
  | .ok a h' => ∀ α' H' b, Step Γ.K α H α' H' → HR Γ.K α' h' H' → Rl α' H' a b → Q b H'
  | .exc c x h' => ∀ α' H' cls d, Step Γ.K α H α' H' → HR Γ.K α' h' H' → XR Γ α' H' c x cls d → E cls d H'
  | .bad => False
section
variable {Γ : Wd} {A B C B' : Type} {Rl : List Addr → Hp → A → B → Prop} {Rl' : List Addr → Hp → C → B' → Prop} {α α1 : List Addr} {H H1 : Hp} {Q : B → Hp → Prop} {Q' : B' → Hp → Prop} {E : XK}
theorem Pst.step {r : R A} (s : Step Γ.K α H α1 H1) (p : Pst Γ Rl α H r Q E) : Pst Γ Rl α1 H1 r Q E := by
  cases r with
  | ok a h => exact fun α' H' b st => p α' H' b (s.trans st)
  | exc c x h => exact fun α' H' cls d st => p α' H' cls d (s.trans st)
  | bad => exact p
theorem Pst.bnd {r : R A} {f : A → Hh → R C} (p : Pst Γ Rl' α H (bnd r f) Q' E) (k : ∀ a h' α' H' b, Step Γ.K α H α' H' → HR Γ.K α' h' H' → Rl α' H' a b → Pst Γ Rl' α' H' (f a h') Q' E → Q b H') : Pst Γ Rl α H r Q E := by
  cases r with
  | ok a h => exact fun α' H' b st hr rl => k a h α' H' b st hr rl (Pst.step st p)
  | exc c x h => exact p
  | bad => exact p
end
/-- the same, what is wanted being told from an earlier state -/
theorem Pst.bndAt {Γ : Wd} {A B C B' : Type} {Rl : List Addr → Hp → A → B → Prop} {Rl' : List Addr → Hp → C → B' → Prop} {α α1 : List Addr} {H H1 : Hp} {Q : B → Hp → Prop} {Q' : B' → Hp → Prop} {E : XK} {r : R A} {f : A → Hh → R C} (s : Step Γ.K α H α1 H1) (p : Pst Γ Rl' α H (PD.bnd r f) Q' E)
    (k : ∀ a h' α' H' b, Step Γ.K α1 H1 α' H' → HR Γ.K α' h' H' → Rl α' H' a b → Pst Γ Rl' α H (f a h') Q' E → Q b H') : Pst Γ Rl α1 H1 r Q E := by
  cases r with
  | ok a h => exact fun α' H' b st hr rl => k a h α' H' b st hr rl p
  | exc c x h => exact fun α' H' cls d st hr xr => p α' H' cls d (s.trans st) hr xr
  | bad => exact p
theorem Pst.opt {Γ : Wd} {A B C : Type} {Rl : List Addr → Hp → A → B → Prop} {α : List Addr} {H : Hp} {Q : B → Hp → Prop} {E : XK} {o : Option C} {f : C → R A} (p : Pst Γ Rl α H (optR o f) Q E) : ∃ a, o = some a ∧ Pst Γ Rl α H (f a) Q E := by
  cases o with
  | none => exact False.elim p
  | some a => exact ⟨a, rfl, p⟩
theorem getE_some {en : En} {i : Nat} {d : D} (h : getE en i = some d) : en[i]? = some (some d) := by
  unfold getE at h
  cases q : en[i]? with
  | none => rw [q] at h; cases h
  | some o =>
    cases o with
    | none => rw [q] at h; cases h
    | some d' => rw [q] at h; cases h; rfl
abbrev RV (Γ : Wd) : List Addr → Hp → D → V → Prop := fun α H d v => Rep Γ.K α H d v
abbrev RVs (Γ : Wd) : List Addr → Hp → List D → List V → Prop := fun α H d v => Reps Γ.K α H d v
abbrev REq {A : Type} : List Addr → Hp → A → A → Prop := fun _ _ a b => a = b

structure DE (Γ : Wd) (X : Cx) (W : WX) (e : Expr) (f : En → Hh → R D) : Prop where
  ex : ∃ t, PE X e t ∧ ∀ α h H en σ Q, HR Γ.K α h H → ER Γ.K α H en σ → Pst Γ (RV Γ) α H (f en h) Q (fun c d H' => W c d σ H') → t σ H Q
structure DT (Γ : Wd) (X : Cx) (W : WX) (e : Expr) (f : En → Hh → R Bool) : Prop where
  ex : ∃ t, PT X e t ∧ ∀ α h H en σ Q, HR Γ.K α h H → ER Γ.K α H en σ → Pst Γ REq α H (f en h) Q (fun c d H' => W c d σ H') → t σ H Q
/-- and, or: a test whatever its whole is -/
structure DW (Γ : Wd) (X : Cx) (W : WX) (e : Expr) (f : En → Hh → R Bool) : Prop where
  ex : ∃ t, PW X e t ∧ ∀ α h H en σ Q, HR Γ.K α h H → ER Γ.K α H en σ → Pst Γ REq α H (f en h) Q (fun c d H' => W c d σ H') → t σ H Q
structure DA (Γ : Wd) (X : Cx) (W : WX) (es : List Expr) (f : En → Hh → R (List D)) : Prop where
  ex : ∃ t, PA X es t ∧ ∀ α h H en σ Q, HR Γ.K α h H → ER Γ.K α H en σ → Pst Γ (RVs Γ) α H (f en h) Q (fun c d H' => W c d σ H') → t σ H Q
structure DO (Γ : Wd) (X : Cx) (W : WX) (e : Option Expr) (f : En → Hh → R (Option Int)) : Prop where
  ex : ∃ t, PO X e t ∧ ∀ α h H en σ Q, HR Γ.K α h H → ER Γ.K α H en σ → Pst Γ REq α H (f en h) Q (fun c d H' => W c d σ H') → t σ H Q
/-- an iterable of ours and one of the layer's -/
def ItR (Γ : Wd) (α : List Addr) (H : Hp) (it : It) (J : L2.It) : Prop := ∀ α' h' H', Ext Γ.K α H α' H' → HR Γ.K α' h' H' → ∀ i, match it.next i h' with
  | none => True
  | some none => J.stop i H'
  | some (some d) => J.go i H' ∧ ∀ x H'', J.yld i H' x H'' → Step Γ.K α' H' α' H'' ∧ HR Γ.K α' h' H'' ∧ Rep Γ.K α' H'' d x
structure DI (Γ : Wd) (X : Cx) (W : WX) (tg e : Expr) (f : En → Hh → R It) : Prop where
  ex : ∃ t, PI X tg e t ∧ ∀ α h H en σ Q, HR Γ.K α h H → ER Γ.K α H en σ → Pst Γ (ItR Γ) α H (f en h) Q (fun c d H' => W c d σ H') → t σ H Q
/-- slots but those at sl are as they were -/
def Agr (sl : List Nat) (σ σ' : L2.St) : Prop := σ'.length = σ.length ∧ ∀ j : Nat, j ∉ sl → σ'[j]? = σ[j]?
theorem Agr.refl {sl : List Nat} {σ : L2.St} : Agr sl σ σ := ⟨rfl, fun _ _ => rfl⟩
theorem Agr.trans {sl sl' : List Nat} {σ σ1 σ2 : L2.St} (a : Agr sl σ σ1) (b : Agr sl' σ1 σ2) : Agr (sl ++ sl') σ σ2 :=
  ⟨b.1.trans a.1, fun j hj => (b.2 j fun h => hj (List.mem_append_right _ h)).trans (a.2 j fun h => hj (List.mem_append_left _ h))⟩
theorem Agr.set (σ : L2.St) (i : Nat) (o : Option V) : Agr [i] σ (σ.set i o) :=
  ⟨by simp, fun j hj => List.getElem?_set_ne fun e => hj (by simp [e])⟩
abbrev REn (Γ : Wd) (sl : List Nat) (σ : L2.St) : List Addr → Hp → En → L2.St → Prop := fun α H en σ' => ER Γ.K α H en σ' ∧ Agr sl σ σ'
/-- a target -/
structure DG (Γ : Wd) (X : Cx) (tg : Expr) (sl : List Nat) (f : D → En → Hh → R En) : Prop where
  ex : ∃ t, PG X tg t ∧ ∀ α h H d v en σ Q, HR Γ.K α h H → ER Γ.K α H en σ → Rep Γ.K α H d v → Pst Γ (REn Γ sl σ) α H (noExc (f d en h)) Q (fun _ _ _ => False) → t v σ H Q
structure DGs (Γ : Wd) (X : Cx) (tgs : List Expr) (sl : List Nat) (f : List D → En → Hh → R En) : Prop where
  ex : ∃ t, PGs X tgs t ∧ ∀ α h H ds vs en σ Q, HR Γ.K α h H → ER Γ.K α H en σ → Reps Γ.K α H ds vs → Pst Γ (REn Γ sl σ) α H (noExc (f ds en h)) Q (fun _ _ _ => False) → t vs σ H Q
theorem noExc_bnd {A B : Type} (r : R A) (f : A → Hh → R B) : noExc (bnd r f) = bnd (noExc r) fun a h => noExc (f a h) := by cases r <;> rfl
theorem bnd_assoc {A B C : Type} (r : R A) (f : A → Hh → R B) (g : B → Hh → R C) : bnd (bnd r f) g = bnd r fun a h => bnd (f a h) g := by cases r <;> rfl
theorem noExc_opt {A B : Type} (o : Option A) (f : A → R B) : noExc (optR o f) = optR o fun a => noExc (f a) := by cases o <;> rfl
theorem Pst.noExc {Γ : Wd} {A B : Type} {Rl : List Addr → Hp → A → B → Prop} {α : List Addr} {H : Hp} {Q : B → Hp → Prop} {E E' : XK} {r : R A} (p : Pst Γ Rl α H (noExc r) Q E) : Pst Γ Rl α H r Q E' := by
  cases r with
  | ok a h => exact p
  | exc c x h => exact False.elim p
  | bad => exact p
theorem Pst.noExc' {Γ : Wd} {A B : Type} {Rl : List Addr → Hp → A → B → Prop} {α : List Addr} {H : Hp} {Q : B → Hp → Prop} {E E' : XK} {r : R A} (p : Pst Γ Rl α H (PD.noExc r) Q E) : Pst Γ Rl α H (PD.noExc r) Q E' := by
  cases r with
  | ok a h => exact p
  | exc c x h => exact False.elim p
  | bad => exact p
/-! ### canonical readings -/
def tD (Γ : Wd) (W : WX) (f : En → Hh → R D) : TE := fun σ H Q => ∃ α h en, HR Γ.K α h H ∧ ER Γ.K α H en σ ∧ Pst Γ (RV Γ) α H (f en h) Q (fun c d H' => W c d σ H')
def tTD (Γ : Wd) (W : WX) (f : En → Hh → R Bool) : TT := fun σ H Q => ∃ α h en, HR Γ.K α h H ∧ ER Γ.K α H en σ ∧ Pst Γ REq α H (f en h) Q (fun c d H' => W c d σ H')
def tGD (Γ : Wd) (sl : List Nat) (f : D → En → Hh → R En) : TG := fun v σ H Q => ∃ α h d en, HR Γ.K α h H ∧ ER Γ.K α H en σ ∧ Rep Γ.K α H d v ∧ Pst Γ (REn Γ sl σ) α H (noExc (f d en h)) Q (fun _ _ _ => False)
theorem DE.pe {Γ : Wd} {X : Cx} {W : WX} {e : Expr} {f : En → Hh → R D} (h : DE Γ X W e f) : PE X e (tD Γ W f) := by
  obtain ⟨t, pt, k⟩ := h.ex
  exact ⟨fun pins s σ H Q I ⟨α, hh, en, hr, er, p⟩ => pt.run pins s σ H Q I (k _ _ _ _ _ _ hr er p)⟩
theorem DT.pt {Γ : Wd} {X : Cx} {W : WX} {e : Expr} {f : En → Hh → R Bool} (h : DT Γ X W e f) : PT X e (tTD Γ W f) := by
  obtain ⟨t, pt, k⟩ := h.ex
  exact ⟨fun pins s σ H Q I ⟨α, hh, en, hr, er, p⟩ => pt.run pins s σ H Q I (k _ _ _ _ _ _ hr er p)⟩
def tID (Γ : Wd) (W : WX) (f : En → Hh → R It) : TI := fun σ H R => ∃ α h en, HR Γ.K α h H ∧ ER Γ.K α H en σ ∧ Pst Γ (ItR Γ) α H (f en h) R (fun c d H' => W c d σ H')
theorem DI.pi {Γ : Wd} {X : Cx} {W : WX} {tg e : Expr} {f : En → Hh → R It} (h : DI Γ X W tg e f) : PI X tg e (tID Γ W f) := by
  obtain ⟨t, pt, k⟩ := h.ex
  exact ⟨fun pins s σ H R I ⟨α, hh, en, hr, er, p⟩ => pt.run pins s σ H R I (k _ _ _ _ _ _ hr er p)⟩
theorem DG.pg {Γ : Wd} {X : Cx} {tg : Expr} {sl : List Nat} {f : D → En → Hh → R En} (h : DG Γ X tg sl f) : PG X tg (tGD Γ sl f) := by
  obtain ⟨t, pt, k⟩ := h.ex
  exact ⟨fun pins s σ H v u Q I r ⟨α, hh, d, en, hr, er, rd, p⟩ => pt.run pins s σ H v u Q I r (k _ _ _ _ _ _ _ _ hr er rd p)⟩
def PstS (Γ : Wd) (α : List Addr) (H : Hp) (r : RS) (Dn : Ends) (W : WX) : Prop :=
  match r with
  | .nx en h => ∀ α' H' σ', Step Γ.K α H α' H' → HR Γ.K α' h H' → ER Γ.K α' H' en σ' → Dn.nx σ' H'
  | .rt d h => ∀ α' H' v, Step Γ.K α H α' H' → HR Γ.K α' h H' → Rep Γ.K α' H' d v → Dn.rt v H'
  | .bk en h => ∀ α' H' σ', Step Γ.K α H α' H' → HR Γ.K α' h H' → ER Γ.K α' H' en σ' → Dn.bk σ' H'
  | .ct en h => ∀ α' H' σ', Step Γ.K α H α' H' → HR Γ.K α' h H' → ER Γ.K α' H' en σ' → Dn.ct σ' H'
  | .exc c x en h => ∀ α' H' σ' cls d, Step Γ.K α H α' H' → HR Γ.K α' h H' → ER Γ.K α' H' en σ' → XR Γ α' H' c x cls d → W cls d σ' H'
  | .bad => False
theorem PstS.step {Γ : Wd} {α α1 : List Addr} {H H1 : Hp} {Dn : Ends} {W : WX} {r : RS} (s : Step Γ.K α H α1 H1) (p : PstS Γ α H r Dn W) : PstS Γ α1 H1 r Dn W := by
  cases r with
  | nx en h => exact fun α' H' b st => p α' H' b (s.trans st)
  | rt en h => exact fun α' H' b st => p α' H' b (s.trans st)
  | bk en h => exact fun α' H' b st => p α' H' b (s.trans st)
  | ct en h => exact fun α' H' b st => p α' H' b (s.trans st)
  | exc c x en h => exact fun α' H' σ' cls d st => p α' H' σ' cls d (s.trans st)
  | bad => exact p
theorem PstS.bnd {Γ : Wd} {A B : Type} {Rl : List Addr → Hp → A → B → Prop} {α : List Addr} {H : Hp} {Dn : Ends} {W : WX} {Q : B → Hp → Prop} {r : R A} {en : En} {σ : L2.St} {f : A → Hh → RS} (p : PstS Γ α H (bndS r en f) Dn W) (er : ER Γ.K α H en σ)
    (k : ∀ a h' α' H' b, Step Γ.K α H α' H' → HR Γ.K α' h' H' → Rl α' H' a b → PstS Γ α' H' (f a h') Dn W → Q b H') : Pst Γ Rl α H r Q (fun c d H' => W c d σ H') := by
  cases r with
  | ok a h => exact fun α' H' b st hr rl => k a h α' H' b st hr rl (PstS.step st p)
  | exc c x h => exact fun α' H' cls d st hr xr => p α' H' σ cls d st hr (er.mono st) xr
  | bad => exact p
structure DS (Γ : Wd) (X : Cx) (W : WX) (st : Stmt) (f : En → Hh → RS) : Prop where
  ex : ∃ t, PS X st t ∧ ∀ α h H en σ Dn, HR Γ.K α h H → ER Γ.K α H en σ → PstS Γ α H (f en h) Dn W → t Dn σ H
structure DSs (Γ : Wd) (X : Cx) (W : WX) (sts : List Stmt) (f : En → Hh → RS) : Prop where
  ex : ∃ t, PSs X sts t ∧ ∀ α h H en σ Dn, HR Γ.K α h H → ER Γ.K α H en σ → PstS Γ α H (f en h) Dn W → t Dn σ H
end PD

set_option Elab.async false
set_option linter.all false
set_option maxRecDepth 100000
set_option maxHeartbeats 1000000
/-! Each construct keeps to the evaluation. -/
namespace PD
open PySem PySem.Spec PyProof.Rows L2
section
variable {Γ : Wd} {X : Cx} {W : WX}

/-! ### data to be compared -/
theorem allO_dp {K : PySem.W.Frag} {α : List Addr} {H : Hp} {f : D → Option PyData} (ih : ∀ d p v, f d = some p → Rep K α H d v → Dp K H v p) :
    ∀ {ds : List D} {ps : List PyData} {vs : List V}, allO f ds = some ps → Reps K α H ds vs → DpAll K H vs ps
  | [], ps, vs, h, r => by
    cases r
    cases h
    exact .nil
  | d :: ds, ps, vs, h, r => by
    cases r with
    | cons r rs =>
      unfold allO at h
      cases q1 : f d with
      | none => rw [q1] at h; cases h
      | some p =>
        cases q2 : allO f ds with
        | none => rw [q1, q2] at h; cases h
        | some ps' =>
          rw [q1, q2] at h
          cases h
          exact .cons (ih d p _ q1 r) (allO_dp ih q2 rs)
theorem dpAll_ints {K : PySem.W.Frag} {H : Hp} : ∀ ns : List Int, DpAll K H (ns.map V.int) (ns.map PyData.int)
  | [] => .nil
  | i :: r => .cons (.int i) (dpAll_ints r)
theorem toPy_dp {K : PySem.W.Frag} {α : List Addr} {h : Hh} {H : Hp} (hr : HR K α h H) : ∀ (n : Nat) (d : D) (p : PyData) (v : V), toPy n h d = some p → Rep K α H d v → Dp K H v p
  | 0, _, _, _, h, _ => by cases h
  | n + 1, d, p, v, hp, r => by
    have ih := toPy_dp hr n
    cases r with
    | non => cases hp; exact .non
    | bl b => cases hp; exact .bl b
    | int b => cases hp; exact .int b
    | str b => cases hp; exact .str b
    | @tup a vs ds s rs =>
      unfold toPy at hp
      cases q : allO (toPy n h) ds with
      | none => rw [q] at hp; cases hp
      | some ps =>
        rw [q] at hp
        cases hp
        exact .tup s (allO_dp ih q rs)
    | @ref m a ha =>
      unfold toPy at hp
      cases q1 : lstOf h m with
      | none => rw [q1] at hp; cases hp
      | some ds =>
        rw [q1] at hp
        obtain ⟨vs, e, rs⟩ := hr.lst ha (lstOf_some q1)
        cases q : allO (toPy n h) ds with
        | none =>
          rw [Option.bind_some, q] at hp
          cases hp
        | some ps =>
          rw [Option.bind_some, q] at hp
          cases hp
          exact .lst (SqL.of e) (allO_dp ih q rs)
    | scr hs =>
      cases hp
      exact .lst hs.sq (dpAll_ints _)
/-! ### operators -/
def OpS (Γ : Wd) (X : Cx) (f : Value → Value → Sem Value) (g : D → D → Hh → R D) : Prop :=
  ∃ r : R2, OpR X f r ∧ ∀ α h H x y dx dy Q E, HR Γ.K α h H → Rep Γ.K α H dx x → Rep Γ.K α H dy y → Pst Γ (RV Γ) α H (g dx dy h) Q E → r x y H Q
theorem op_fdivA : OpR X (binaryOp .FloorDiv) (rI (fun _ j => j ≠ 0 ∧ j.natAbs.log2 < 9000) fun i j => .int (i.fdiv j)) :=
  opI fun _ _ _ _ _ _ _ hc q => floordiv_int hc.1 q (.inl (PyProof.noPylong_of_log2 hc.2))
theorem ops_I {f : Value → Value → Sem Value} {C : Int → Int → Prop} {g : Int → Int → Int} (o : OpR X f (rI C fun i j => .int (g i j))) {op : Operator}
    (hg : ∀ dx dy h Q α H E, Pst Γ (RV Γ) α H (binOp op dx dy h) Q E → ∃ i j, dx = .int i ∧ dy = .int j ∧ C i j ∧ binOp op dx dy h = .ok (.int (g i j)) h) : OpS Γ X f (binOp op) := by
  refine ⟨_, o, fun α h H x y dx dy Q E hr rx ry p => ?_⟩
  obtain ⟨i, j, rfl, rfl, c, e⟩ := hg dx dy h Q α H E p
  rw [e] at p
  cases rx
  cases ry
  exact ⟨i, j, rfl, rfl, c, p _ _ _ Step.refl hr (.int _)⟩
theorem Reps.rep {K : PySem.W.Frag} {α : List Addr} {H : Hp} {ds : List D} {vs : List V} (r : Reps K α H ds vs) : ∀ n : Nat, Reps K α H (List.replicate n ds).flatten (List.replicate n vs).flatten
  | 0 => .nil
  | n + 1 => by
    rw [List.replicate_succ, List.replicate_succ, List.flatten_cons, List.flatten_cons]
    exact r.append (Reps.rep r n)
theorem ops_mul (hK : X.K = Γ.K) : OpS Γ X (binaryOp .Mult) (binOp .Mult) := by
  refine ⟨_, op_mulW.or (op_rep.or op_repT), fun α h H x y dx dy Q E hr rx ry p => ?_⟩
  cases rx with
  | int i =>
    cases ry <;> first | exact False.elim p | skip
    rename_i j
    by_cases c : i.natAbs.log2 + j.natAbs.log2 < 1000000
    · simp only [binOp] at p
      rw [if_pos c] at p
      exact .inl ⟨i, j, rfl, rfl, c, p _ _ _ Step.refl hr (.int _)⟩
    · simp only [binOp] at p; rw [if_neg c] at p; exact False.elim p
  | @ref n a ha =>
    cases ry <;> first | exact False.elim p | skip
    rename_i b
    obtain ⟨ds, q1, p⟩ := Pst.opt p
    by_cases c : -(2 ^ 63) ≤ b ∧ b < 2 ^ 63 ∧ ds.length * b.toNat ≤ sizeLine
    · rw [if_pos c] at p
      obtain ⟨vs, e1, r1⟩ := hr.lst ha (lstOf_some q1)
      refine .inr (.inl ⟨_, _, _, rfl, rfl, e1, c.1, c.2.1, by rw [← r1.length]; exact c.2.2, fun q hq => ?_⟩)
      refine p _ _ _ (Step.new' hq) (hr.new hq (r1.rep _)) (.ref ?_)
      rw [← hr.len]
      simp
    · rw [if_neg c] at p; exact False.elim p
  | @tup a vs ds s rs =>
    cases ry <;> first | exact False.elim p | skip
    rename_i b
    simp only [binOp] at p
    by_cases c : ds ≠ [] ∧ 2 ≤ b ∧ b ≤ 1000 ∧ ds.length ≤ 1000
    · rw [if_pos c] at p
      refine .inr (.inr ⟨_, _, _, rfl, rfl, by rw [hK]; exact s, fun z => c.1 ?_, c.2.1, c.2.2.1, by rw [← rs.length]; exact c.2.2.2, fun q hq => ?_⟩)
      · subst z
        cases rs
        rfl
      · exact p _ _ _ (Step.other hq) (hr.other hq) (.tup (SqT.of upd_same) ((rs.rep _).mono (Step.other hq)))
    · rw [if_neg c] at p; exact False.elim p
  | _ => exact False.elim p
theorem ops_fdiv : OpS Γ X (binaryOp .FloorDiv) (binOp .FloorDiv) := by
  refine ops_I op_fdivA fun dx dy h Q α H E p => ?_
  cases dx <;> first | exact False.elim p | skip
  cases dy <;> first | exact False.elim p | skip
  rename_i i j
  by_cases c : j ≠ 0 ∧ j.natAbs.log2 < 9000
  · exact ⟨i, j, rfl, rfl, c, by simp only [binOp]; rw [if_pos c]⟩
  · simp only [binOp] at p; rw [if_neg c] at p; exact False.elim p
theorem ops_mod : OpS Γ X (binaryOp .Mod) (binOp .Mod) := by
  refine ops_I op_modN fun dx dy h Q α H E p => ?_
  cases dx <;> first | exact False.elim p | skip
  cases dy <;> first | exact False.elim p | skip
  rename_i i j
  by_cases c : j ≠ 0
  · exact ⟨i, j, rfl, rfl, c, by simp only [binOp]; rw [if_pos c]⟩
  · simp only [binOp] at p; rw [if_neg c] at p; exact False.elim p
theorem ops_pow : OpS Γ X (binaryOp .Pow) (binOp .Pow) := by
  refine ops_I op_pow fun dx dy h Q α H E p => ?_
  cases dx <;> first | exact False.elim p | skip
  cases dy <;> first | exact False.elim p | skip
  rename_i i j
  by_cases c : 0 ≤ j ∧ j ≤ 1000000 ∧ i.natAbs < 2 ^ 64
  · exact ⟨i, j, rfl, rfl, c, by simp only [binOp]; rw [if_pos c]⟩
  · simp only [binOp] at p; rw [if_neg c] at p; exact False.elim p
theorem ops_sub : OpS Γ X (binaryOp .Sub) (binOp .Sub) := by
  refine ⟨_, op_sub, fun α h H x y dx dy Q E hr rx ry p => ?_⟩
  cases rx <;> first | exact False.elim p | skip
  cases ry <;> first | exact False.elim p | skip
  exact ⟨_, _, rfl, rfl, p _ _ _ Step.refl hr (.int _)⟩
theorem reps_nil_iff {K : PySem.W.Frag} {α : List Addr} {H : Hp} {ds : List D} {vs : List V} (r : Reps K α H ds vs) : vs = [] ↔ ds = [] := by
  cases r <;> simp
theorem ops_add (hK : X.K = Γ.K) : OpS Γ X (binaryOp .Add) (binOp .Add) := by
  refine ⟨_, (op_add.or op_add_str).or (op_catA.or op_cat), fun α h H x y dx dy Q E hr rx ry p => ?_⟩
  cases rx with
  | int i =>
    cases ry <;> first | exact False.elim p | skip
    exact .inl (.inl ⟨_, _, rfl, rfl, p _ _ _ Step.refl hr (.int _)⟩)
  | str i =>
    cases ry <;> first | exact False.elim p | skip
    rename_i j
    simp only [binOp] at p
    by_cases c : i.length + j.length ≤ sizeLine
    · rw [if_pos c] at p
      exact .inl (.inr ⟨_, _, rfl, rfl, c, p _ _ _ Step.refl hr (.str _)⟩)
    · rw [if_neg c] at p; exact False.elim p
  | @tup a vs ds s rs =>
    cases ry <;> first | exact False.elim p | skip
    rename_i b ws es s' rs'
    simp only [binOp] at p
    by_cases c : ds.length + es.length ≤ sizeLine
    · rw [if_pos c] at p
      refine .inr (.inl ⟨_, _, _, _, rfl, rfl, by rw [hK]; exact s, by rw [hK]; exact s', by rw [← rs.length, ← rs'.length]; exact c, fun z => ?_, fun _ z => ?_, fun _ _ q hq => ?_⟩)
      · refine p _ _ _ Step.refl hr ?_
        rw [(reps_nil_iff rs).mp z, List.nil_append]
        exact .tup s' rs'
      · refine p _ _ _ Step.refl hr ?_
        rw [(reps_nil_iff rs').mp z, List.append_nil]
        exact .tup s rs
      · exact p _ _ _ (Step.other hq) (hr.other hq) (.tup (SqT.of upd_same) ((rs.append rs').mono (Step.other hq)))
    · rw [if_neg c] at p; exact False.elim p
  | @ref n a ha =>
    cases ry <;> first | exact False.elim p | skip
    rename_i m b hb
    obtain ⟨ds, q1, p⟩ := Pst.opt p
    obtain ⟨es, q2, p⟩ := Pst.opt p
    by_cases c : ds.length + es.length ≤ sizeLine
    · rw [if_pos c] at p
      obtain ⟨vs, e1, r1⟩ := hr.lst ha (lstOf_some q1)
      obtain ⟨ws, e2, r2⟩ := hr.lst hb (lstOf_some q2)
      refine .inr (.inr ⟨_, _, _, _, rfl, rfl, e1, e2, by rw [← r1.length, ← r2.length]; exact c, fun q hq => ?_⟩)
      refine p _ _ _ (Step.new' hq) (hr.new hq (r1.append r2)) (.ref ?_)
      rw [← hr.len]
      simp
    · rw [if_neg c] at p; exact False.elim p
  | _ => exact False.elim p
theorem ops_bin (hK : X.K = Γ.K) : ∀ op : Operator, OpS Γ X (binaryOp op) (binOp op)
  | .Add => ops_add hK
  | .Sub => ops_sub
  | .Mult => ops_mul hK
  | .FloorDiv => ops_fdiv
  | .Mod => ops_mod
  | .Pow => ops_pow
  | .MatMult | .Div | .LShift | .RShift | .BitOr | .BitXor | .BitAnd => ⟨fun _ _ _ _ => False, fun _ _ _ _ _ _ _ _ _ _ _ _ h => h.elim, fun α h H x y dx dy Q E hr rx ry p => by
      cases dx <;> first | exact p | (cases dy <;> exact p)⟩
theorem ops_int {op : CmpOp} {g : Int → Int → Bool} (o : OpR X (compareOp op) (rI0 fun i j => .bl (g i j))) (hb : ∀ dx dy h, cmpOp op dx dy h = match dx, dy with | .int i, .int j => .ok (.bl (g i j)) h | _, _ => .bad) : OpS Γ X (compareOp op) (cmpOp op) := by
  refine ⟨_, o, fun α h H x y dx dy Q E hr rx ry p => ?_⟩
  rw [hb] at p
  cases rx <;> first | exact False.elim p | skip
  cases ry <;> first | exact False.elim p | skip
  exact ⟨_, _, rfl, rfl, p _ _ _ Step.refl hr (.bl _)⟩
theorem rep_non {K : PySem.W.Frag} {α : List Addr} {H : Hp} {d : D} {v : V} (r : Rep K α H d v) : decide (v = .non) = isNon d := by
  cases r <;> rfl
theorem eqD_some {h : Hh} {x y : D} {b : Bool} (e : eqD h x y = some b) : ∃ p q, toPy 66 h x = some p ∧ toPy 66 h y = some q ∧ SeqAt.shaped p = true ∧ SeqAt.shaped q = true ∧ b = PyData.eqv p q := by
  unfold eqD at e
  cases q1 : toPy 66 h x with
  | none => rw [q1] at e; cases e
  | some p =>
    cases q2 : toPy 66 h y with
    | none => rw [q1, q2] at e; cases e
    | some q =>
      rw [q1, q2] at e
      dsimp only at e
      by_cases c : (SeqAt.shaped p && SeqAt.shaped q) = true
      · rw [if_pos c] at e
        cases e
        exact ⟨p, q, rfl, rfl, (Bool.and_eq_true_iff.mp c).1, (Bool.and_eq_true_iff.mp c).2, rfl⟩
      · rw [if_neg c] at e; cases e
theorem inD_some {h : Hh} {x y : D} {b : Bool} (e : inD h x y = some b) : (∃ p qs, toPy 66 h x = some p ∧ toPy 66 h y = some (.list qs) ∧ SeqAt.shaped p = true ∧ SeqAt.shaped (.list qs) = true ∧ b = qs.any fun z => PyData.eqv z p) ∨
    ∃ p qs, toPy 66 h x = some p ∧ toPy 66 h y = some (.tuple qs) ∧ SeqAt.shaped p = true ∧ SeqAt.shaped (.tuple qs) = true ∧ b = qs.any fun z => PyData.eqv z p := by
  unfold inD at e
  cases q1 : toPy 66 h x with
  | none => rw [q1] at e; cases e
  | some p =>
    cases q2 : toPy 66 h y with
    | none => rw [q1, q2] at e; cases e
    | some q =>
      rw [q1, q2] at e
      cases q <;> dsimp only at e <;> first | (cases e; done) | skip
      · rename_i qs
        by_cases c : (SeqAt.shaped p && SeqAt.shaped (.list qs)) = true
        · rw [if_pos c] at e
          cases e
          exact .inl ⟨p, qs, rfl, rfl, (Bool.and_eq_true_iff.mp c).1, (Bool.and_eq_true_iff.mp c).2, rfl⟩
        · rw [if_neg c] at e; cases e
      · rename_i qs
        by_cases c : (SeqAt.shaped p && SeqAt.shaped (.tuple qs)) = true
        · rw [if_pos c] at e
          cases e
          exact .inr ⟨p, qs, rfl, rfl, (Bool.and_eq_true_iff.mp c).1, (Bool.and_eq_true_iff.mp c).2, rfl⟩
        · rw [if_neg c] at e; cases e
theorem _root_.L2.Room.units65 {k : Nat} {A : Around} (r : Room k A) : A.units + 65 < cLine := by have := r.un; omega
theorem op_inT (hu : X.A.units + 65 < cLine) : OpR X (compareOp .In) (fun x y H Q => ∃ d ds, Dp X.K H x d ∧ Dp X.K H y (.tuple ds) ∧ SeqAt.shaped d = true ∧ SeqAt.shaped (.tuple ds) = true ∧ Q (.bl (ds.any fun z => PyData.eqv z d)) H) := fun pins s σ H x y v u Q I rx ry ⟨d, ds, hd, he, sd, se, q⟩ => by
  obtain ⟨as, r1⟩ := Dp.reads I d x v hd rx
  obtain ⟨bs, r2⟩ := Dp.reads I (.tuple ds) y u he ry
  exact SeqAt.in_tuple_reads r2 r1 (SeqAt.canLay_of_shaped se) (SeqAt.canLay_of_shaped sd) (room_in_shaped sd hu) ⟨.bl _, H, I, rfl, q⟩
theorem op_notInT (hu : X.A.units + 65 < cLine) : OpR X (compareOp .NotIn) (fun x y H Q => ∃ d ds, Dp X.K H x d ∧ Dp X.K H y (.tuple ds) ∧ SeqAt.shaped d = true ∧ SeqAt.shaped (.tuple ds) = true ∧ Q (.bl (!ds.any fun z => PyData.eqv z d)) H) := fun pins s σ H x y v u Q I rx ry ⟨d, ds, hd, he, sd, se, q⟩ => by
  obtain ⟨as, r1⟩ := Dp.reads I d x v hd rx
  obtain ⟨bs, r2⟩ := Dp.reads I (.tuple ds) y u he ry
  exact SeqAt.notIn_tuple_reads r2 r1 (SeqAt.canLay_of_shaped se) (SeqAt.canLay_of_shaped sd) (room_in_shaped sd hu) ⟨.bl _, H, I, rfl, q⟩
theorem ops_cmp {k : Nat} (hK : X.K = Γ.K) (hr : Room k X.A) : ∀ op : CmpOp, OpS Γ X (compareOp op) (cmpOp op)
  | .Lt => ops_int op_lt fun dx dy h => by cases dx <;> cases dy <;> rfl
  | .LtE => ops_int op_le fun dx dy h => by cases dx <;> cases dy <;> rfl
  | .Gt => ops_int op_gt fun dx dy h => by cases dx <;> cases dy <;> rfl
  | .GtE => ops_int op_ge fun dx dy h => by cases dx <;> cases dy <;> rfl
  | .Eq => by
    refine ⟨_, op_eqD hr.units, fun α h H x y dx dy Q E hr rx ry p => ?_⟩
    have p0 : Pst Γ (RV Γ) α H (optR (eqD h dx dy) fun b => .ok (.bl b) h) Q E := by
      cases dx <;> cases dy <;> exact p
    obtain ⟨b, e, p'⟩ := Pst.opt p0
    obtain ⟨a, c, e1, e2, s1, s2, rfl⟩ := eqD_some e
    exact ⟨a, c, by rw [hK]; exact toPy_dp hr 66 _ _ _ e1 rx, by rw [hK]; exact toPy_dp hr 66 _ _ _ e2 ry, s1, s2, p' _ _ _ Step.refl hr (.bl _)⟩
  | .NotEq => by
    refine ⟨_, op_neD hr.units, fun α h H x y dx dy Q E hr rx ry p => ?_⟩
    have p0 : Pst Γ (RV Γ) α H (optR (eqD h dx dy) fun b => .ok (.bl (!b)) h) Q E := by
      cases dx <;> cases dy <;> exact p
    obtain ⟨b, e, p'⟩ := Pst.opt p0
    obtain ⟨a, c, e1, e2, s1, s2, rfl⟩ := eqD_some e
    exact ⟨a, c, by rw [hK]; exact toPy_dp hr 66 _ _ _ e1 rx, by rw [hK]; exact toPy_dp hr 66 _ _ _ e2 ry, s1, s2, p' _ _ _ Step.refl hr (.bl _)⟩
  | .Is => by
    refine ⟨_, op_isN, fun α h H x y dx dy Q E hr rx ry p => ?_⟩
    cases ry <;> first | (cases dx <;> exact False.elim p) | skip
    refine ⟨rfl, ?_⟩
    rw [rep_non rx]
    have p' : Pst Γ (RV Γ) α H (.ok (.bl (isNon dx)) h) Q E := by cases dx <;> exact p
    exact p' _ _ _ Step.refl hr (.bl _)
  | .IsNot => by
    refine ⟨_, op_notN, fun α h H x y dx dy Q E hr rx ry p => ?_⟩
    cases ry <;> first | (cases dx <;> exact False.elim p) | skip
    refine ⟨rfl, ?_⟩
    rw [rep_non rx]
    have p' : Pst Γ (RV Γ) α H (.ok (.bl (!isNon dx)) h) Q E := by cases dx <;> exact p
    exact p' _ _ _ Step.refl hr (.bl _)
  | .In => by
    refine ⟨_, (op_inD hr.units65).or (op_inT hr.units65), fun α h H x y dx dy Q E hr rx ry p => ?_⟩
    have p0 : Pst Γ (RV Γ) α H (optR (inD h dx dy) fun b => .ok (.bl b) h) Q E := by
      cases dx <;> cases dy <;> exact p
    obtain ⟨b, e, p'⟩ := Pst.opt p0
    rcases inD_some e with ⟨a, c, e1, e2, s1, s2, rfl⟩ | ⟨a, c, e1, e2, s1, s2, rfl⟩
    · exact .inl ⟨a, c, by rw [hK]; exact toPy_dp hr 66 _ _ _ e1 rx, by rw [hK]; exact toPy_dp hr 66 _ _ _ e2 ry, s1, s2, p' _ _ _ Step.refl hr (.bl _)⟩
    · exact .inr ⟨a, c, by rw [hK]; exact toPy_dp hr 66 _ _ _ e1 rx, by rw [hK]; exact toPy_dp hr 66 _ _ _ e2 ry, s1, s2, p' _ _ _ Step.refl hr (.bl _)⟩
  | .NotIn => by
    refine ⟨_, (op_notInD hr.units65).or (op_notInT hr.units65), fun α h H x y dx dy Q E hr rx ry p => ?_⟩
    have p0 : Pst Γ (RV Γ) α H (optR (inD h dx dy) fun b => .ok (.bl (!b)) h) Q E := by
      cases dx <;> cases dy <;> exact p
    obtain ⟨b, e, p'⟩ := Pst.opt p0
    rcases inD_some e with ⟨a, c, e1, e2, s1, s2, rfl⟩ | ⟨a, c, e1, e2, s1, s2, rfl⟩
    · exact .inl ⟨a, c, by rw [hK]; exact toPy_dp hr 66 _ _ _ e1 rx, by rw [hK]; exact toPy_dp hr 66 _ _ _ e2 ry, s1, s2, p' _ _ _ Step.refl hr (.bl _)⟩
    · exact .inr ⟨a, c, by rw [hK]; exact toPy_dp hr 66 _ _ _ e1 rx, by rw [hK]; exact toPy_dp hr 66 _ _ _ e2 ry, s1, s2, p' _ _ _ Step.refl hr (.bl _)⟩
end
end PD

set_option Elab.async false
set_option linter.all false
set_option maxRecDepth 100000
set_option maxHeartbeats 1000000
namespace PD
open PySem PySem.Spec PyProof.Rows L2
section
variable {Γ : Wd} {X : Cx} {W : WX} {pos : Pos}
theorem PE.false {e : Expr} : PE X e (fun _ _ _ => False) := ⟨fun _ _ _ _ _ _ h => h.elim⟩
theorem de_bad {e : Expr} : DE Γ X W e (fun _ _ => .bad) := ⟨_, PE.false, fun _ _ _ _ _ _ _ _ p => p⟩
theorem dt_bad {e : Expr} : DT Γ X W e (fun _ _ => .bad) := ⟨fun _ _ _ => False, ⟨fun _ _ _ _ _ _ h => h.elim⟩, fun _ _ _ _ _ _ _ _ p => p⟩
theorem di_bad {tg e : Expr} : DI Γ X W tg e (fun _ _ => .bad) := ⟨fun _ _ _ => False, ⟨fun _ _ _ _ _ _ h => h.elim⟩, fun _ _ _ _ _ _ _ _ p => p⟩
theorem dg_bad {tg : Expr} {sl : List Nat} : DG Γ X tg sl (fun _ _ _ => .bad) := ⟨fun _ _ _ _ => False, ⟨fun _ _ _ _ _ _ _ _ _ h => h.elim⟩, fun _ _ _ _ _ _ _ _ _ _ _ p => p⟩
theorem ds_bad {st : Stmt} : DS Γ X W st (fun _ _ => .bad) := ⟨_, ps_never, fun _ _ _ _ _ _ _ _ p => p⟩
theorem do_bad {e : Option Expr} : DO Γ X W e (fun _ _ => .bad) := ⟨fun _ _ _ => False, ⟨fun _ _ _ _ _ _ h => h.elim⟩, fun _ _ _ _ _ _ _ _ p => p⟩
theorem da_bad {es : List Expr} : DA Γ X W es (fun _ _ => .bad) := ⟨fun _ _ _ => False, ⟨fun _ _ _ _ _ _ _ h => h.elim⟩, fun _ _ _ _ _ _ _ _ p => p⟩
theorem de_int {i j} : DE Γ X W (.Constant (.int i) j pos) (fun _ h => .ok (.int i) h) := ⟨_, pe_int, fun _ _ _ _ _ _ hr _ p => p _ _ _ Step.refl hr (.int i)⟩
theorem de_bl {i j} : DE Γ X W (.Constant (.bool i) j pos) (fun _ h => .ok (.bl i) h) := ⟨_, pe_bl, fun _ _ _ _ _ _ hr _ p => p _ _ _ Step.refl hr (.bl i)⟩
theorem de_str {i j} : DE Γ X W (.Constant (.str i) j pos) (fun _ h => .ok (.str i) h) := ⟨_, pe_str, fun _ _ _ _ _ _ hr _ p => p _ _ _ Step.refl hr (.str i)⟩
theorem de_non {j} : DE Γ X W (.Constant .none j pos) (fun _ h => .ok .non h) := ⟨_, pe_non, fun _ _ _ _ _ _ hr _ p => p _ _ _ Step.refl hr .non⟩
theorem de_var {i : Nat} {x : Str} (hN : X.N[i]? = some x) (hv : Vis X.env.scope x) (hd : (x == ("__debug__" : Str)) = false) (hcd : (x == ("__classdict__" : Str)) = false) :
    DE Γ X W (.Name x pos) (fun en h => optR (getE en i) fun d => .ok d h) := by
  refine ⟨_, pe_var hN hv hd hcd, fun α h H en σ Q hr er p => ?_⟩
  obtain ⟨d, q, p⟩ := Pst.opt p
  obtain ⟨v, e, r⟩ := er.get i d (getE_some q)
  exact ⟨v, e, p _ _ _ Step.refl hr r⟩
theorem de_glob {x : Str} {d : D} {v : V} {u : Value} (hg : Gl X x) (hm : X.mg x = some u) (r : RelV v u) (hd : (x == ("__debug__" : Str)) = false) (rep : ∀ α H, Rep Γ.K α H d v) : DE Γ X W (.Name x pos) (fun _ h => .ok d h) :=
  ⟨_, pe_glob hg hm r hd, fun _ _ _ _ _ _ hr _ p => p _ _ _ Step.refl hr (rep _ _)⟩
/-! ### arguments, displays -/
def star (e : Expr) : Bool := match e with | .Starred .. => true | _ => false
theorem starEach_cons {e : Expr} {es : List Expr} {env : Env} (h : star e = false) : starEach (e :: es) env = (false, eval e env) :: starEach es env := by
  cases e <;> first | rfl | cases h
theorem starEach_any {env : Env} : ∀ {es : List Expr}, es.any star = false → (backTo pos (starEach es env)).any (·.1) = false
  | [], _ => rfl
  | e :: es, h => by
    rw [List.any_cons, Bool.or_eq_false_iff] at h
    rw [starEach_cons h.1]
    show (false || (backTo pos (starEach es env)).any (·.1)) = false
    rw [Bool.false_or]
    exact starEach_any h.2
theorem da_nil : DA Γ X W [] (fun _ h => .ok [] h) := ⟨_, pa_nil, fun _ _ _ _ _ _ hr _ p => p _ _ _ Step.refl hr .nil⟩
theorem da_cons {e : Expr} {es : List Expr} {f : En → Hh → R D} {g : En → Hh → R (List D)} (hs : star e = false) (he : DE Γ X W e f) (hes : DA Γ X W es g) :
    DA Γ X W (e :: es) (fun en h => bnd (f en h) fun d h1 => bnd (g en h1) fun ds h2 => .ok (d :: ds) h2) := by
  obtain ⟨t, pt, k⟩ := he.ex
  obtain ⟨u, pu, l⟩ := hes.ex
  refine ⟨_, pa_cons pt pu (starEach_cons hs), fun α h H en σ Q hr er p => k _ _ _ _ _ _ hr er (p.bnd fun d h1 α1 H1 v st1 hr1 r1 p1 => ?_)⟩
  refine l _ _ _ _ _ _ hr1 (er.mono st1) (p1.bnd fun ds h2 α2 H2 vs st2 hr2 r2 p2 => ?_)
  exact p2 _ _ _ Step.refl hr2 (.cons (r1.mono st2) r2)
theorem de_tup {es : List Expr} {k : Nat} {g : En → Hh → R (List D)} (hes : DA Γ X W es g) : DE Γ X W (.Tuple es k pos) (fun en h => bnd (g en h) fun ds h1 => if ds.length ≤ sizeLine then .ok (.tup ds) h1 else .bad) := by
  obtain ⟨u, pu, l⟩ := hes.ex
  refine ⟨_, pe_tup pu, fun α h H en σ Q hr er p => l _ _ _ _ _ _ hr er (p.bnd fun ds h1 α1 H1 vs st1 hr1 r1 p1 => ?_)⟩
  by_cases c : ds.length ≤ sizeLine
  · rw [if_pos c] at p1
    exact ⟨by rw [← r1.length]; exact c, fun q hq => p1 _ _ _ (Step.other hq) (hr1.other hq) (.tup (SqT.of upd_same) (r1.mono (Step.other hq)))⟩
  · rw [if_neg c] at p1; exact False.elim p1
theorem rep_new {K : PySem.W.Frag} {α : List Addr} {h : Hh} {H H' : Hp} {p : Addr} (hr : HR K α h H) : Rep K (α ++ [p]) H' (.ref h.length) (.ref p) := by
  refine .ref ?_
  rw [← hr.len]
  simp
theorem de_lst {es : List Expr} {g : En → Hh → R (List D)} (hes : DA Γ X W es g) : DE Γ X W (.List es pos) (fun en h => bnd (g en h) fun ds h1 => if ds.length ≤ sizeLine then .ok (.ref h1.length) (h1 ++ [.lst ds]) else .bad) := by
  obtain ⟨u, pu, l⟩ := hes.ex
  refine ⟨_, pe_lst pu, fun α h H en σ Q hr er p => l _ _ _ _ _ _ hr er (p.bnd fun ds h1 α1 H1 vs st1 hr1 r1 p1 => ?_)⟩
  by_cases c : ds.length ≤ sizeLine
  · rw [if_pos c] at p1
    exact ⟨by rw [← r1.length]; exact c, fun q hq => p1 _ _ _ (Step.new' hq) (hr1.new hq r1) (rep_new hr1)⟩
  · rw [if_neg c] at p1; exact False.elim p1
/-! ### operators -/
theorem de_bin {a b : Expr} {op : Operator} {f g : En → Hh → R D} (o : OpS Γ X (binaryOp op) (binOp op)) (ha : DE Γ X W a f) (hb : DE Γ X W b g) :
    DE Γ X W (.BinOp a op b pos) (fun en h => bnd (f en h) fun x h1 => bnd (g en h1) fun y h2 => binOp op x y h2) := by
  obtain ⟨t, pt, k⟩ := ha.ex
  obtain ⟨u, pu, l⟩ := hb.ex
  obtain ⟨r, pr, m⟩ := o
  refine ⟨_, pe_op pr pt pu, fun α h H en σ Q hr er p => k _ _ _ _ _ _ hr er (p.bnd fun d h1 α1 H1 v st1 hr1 r1 p1 => ?_)⟩
  refine l _ _ _ _ _ _ hr1 (er.mono st1) (p1.bnd fun ds h2 α2 H2 vs st2 hr2 r2 p2 => ?_)
  exact m _ _ _ _ _ _ _ _ _ hr2 (r1.mono st2) r2 p2
theorem de_cmp {a b : Expr} {op : CmpOp} {f g : En → Hh → R D} (hm : behindInMarks op b = false) (o : OpS Γ X (compareOp op) (cmpOp op)) (ha : DE Γ X W a f) (hb : DE Γ X W b g) :
    DE Γ X W (.Compare a [op] [b] pos) (fun en h => bnd (f en h) fun x h1 => bnd (g en h1) fun y h2 => cmpOp op x y h2) := by
  obtain ⟨t, pt, k⟩ := ha.ex
  obtain ⟨u, pu, l⟩ := hb.ex
  obtain ⟨r, pr, m⟩ := o
  refine ⟨_, pe_cmpR pr pt pu hm, fun α h H en σ Q hr er p => k _ _ _ _ _ _ hr er (p.bnd fun d h1 α1 H1 v st1 hr1 r1 p1 => ?_)⟩
  refine l _ _ _ _ _ _ hr1 (er.mono st1) (p1.bnd fun ds h2 α2 H2 vs st2 hr2 r2 p2 => ?_)
  exact m _ _ _ _ _ _ _ _ _ hr2 (r1.mono st2) r2 p2
theorem toBool_post {α : List Addr} {h : Hh} {H : Hp} {d : D} {v : V} {Q : Bool → Hp → Prop} {E : XK} (hr : HR Γ.K α h H) (r : Rep Γ.K α H d v) (p : Pst Γ REq α H (toBool d h) Q E) : ∃ k, v = .bl k ∧ d = .bl k ∧ Q k H := by
  cases r <;> first | exact False.elim p | skip
  exact ⟨_, rfl, rfl, p _ _ _ Step.refl hr rfl⟩
theorem dt_cmp {a b : Expr} {op : CmpOp} {f g : En → Hh → R D} (hm : behindInMarks op b = false) (o : OpS Γ X (compareOp op) (cmpOp op)) (ha : DE Γ X W a f) (hb : DE Γ X W b g) :
    DT Γ X W (.Compare a [op] [b] pos) (fun en h => bnd (bnd (f en h) fun x h1 => bnd (g en h1) fun y h2 => cmpOp op x y h2) toBool) := by
  obtain ⟨t, pt, k⟩ := ha.ex
  obtain ⟨u, pu, l⟩ := hb.ex
  obtain ⟨r, pr, m⟩ := o
  refine ⟨_, pt_cmpR pr pt pu hm, fun α h H en σ Q hr er p => ?_⟩
  have p' := Pst.bnd (Rl := RV Γ) (Q := fun x H' => ∃ k, x = V.bl k ∧ Q k H') p fun d h1 α1 H1 v st1 hr1 r1 p1 => by
    obtain ⟨kk, e, _, q⟩ := toBool_post hr1 r1 p1
    exact ⟨kk, e, q⟩
  refine k _ _ _ _ _ _ hr er (p'.bnd fun d h1 α1 H1 v st1 hr1 r1 p1 => ?_)
  refine l _ _ _ _ _ _ hr1 (er.mono st1) (p1.bnd fun ds h2 α2 H2 vs st2 hr2 r2 p2 => ?_)
  exact m _ _ _ _ _ _ _ _ _ hr2 (r1.mono st2) r2 p2
/-- a value's truth, where the value is a bool -/
theorem dt_val {e : Expr} {f : En → Hh → R D} (he : DE Γ X W e f) (hp : ∀ whole, isTrue e X.env whole = (do let v ← whole; standAt e.pos; holding [v] (truthy v))) : DT Γ X W e (fun en h => bnd (f en h) toBool) := by
  obtain ⟨t, pt, k⟩ := he.ex
  refine ⟨_, pt_val pt hp, fun α h H en σ Q hr er p => k _ _ _ _ _ _ hr er (p.bnd fun d h1 α1 H1 v st1 hr1 r1 p1 => ?_)⟩
  obtain ⟨kk, e, _, q⟩ := toBool_post hr1 r1 p1
  exact ⟨kk, e, q⟩
theorem chain_post {op op' : CmpOp} {t tb tc : TE} {r r' : R2} {g w : En → Hh → R D} {en : En} {σ : L2.St} {x : V} {dx : D} {α : List Addr} {h : Hh} {H : Hp} {Q : V → Hp → Prop}
    (l : ∀ α h H en σ Q, HR Γ.K α h H → ER Γ.K α H en σ → Pst Γ (RV Γ) α H (g en h) Q (fun c d H' => W c d σ H') → tb σ H Q)
    (n : ∀ α h H en σ Q, HR Γ.K α h H → ER Γ.K α H en σ → Pst Γ (RV Γ) α H (w en h) Q (fun c d H' => W c d σ H') → tc σ H Q)
    (m : ∀ α h H x y dx dy Q E, HR Γ.K α h H → Rep Γ.K α H dx x → Rep Γ.K α H dy y → Pst Γ (RV Γ) α H (cmpOp op dx dy h) Q E → r x y H Q)
    (m' : ∀ α h H x y dx dy Q E, HR Γ.K α h H → Rep Γ.K α H dx x → Rep Γ.K α H dy y → Pst Γ (RV Γ) α H (cmpOp op' dx dy h) Q E → r' x y H Q)
    (hr : HR Γ.K α h H) (er : ER Γ.K α H en σ) (rx : Rep Γ.K α H dx x)
    (p : Pst Γ (RV Γ) α H (bnd (g en h) fun y h2 => bnd (cmpOp op dx y h2) fun z h3 => bnd (toBool z h3) fun k h4 => if k = true then bnd (w en h4) fun v h5 => cmpOp op' y v h5 else .ok (.bl false) h4) Q (fun c d H' => W c d σ H')) :
    tb σ H fun y H2 => r x y H2 fun z H3 => ∃ k, z = .bl k ∧ (if k = true then tc σ H3 fun w' H4 => r' y w' H4 Q else Q (.bl false) H3) := by
  refine l _ _ _ _ _ _ hr er (p.bnd fun d h1 α1 H1 v st1 hr1 r1 p1 => ?_)
  refine m _ _ _ _ _ _ _ _ _ hr1 (rx.mono st1) r1 (p1.bnd fun z h2 α2 H2 zv st2 hr2 r2 p2 => ?_)
  cases r2 <;> first | exact False.elim p2 | skip
  rename_i kk
  refine ⟨kk, rfl, ?_⟩
  have p2' : Pst Γ (RV Γ) α2 H2 (if kk = true then bnd (w en h2) fun v h5 => cmpOp op' d v h5 else .ok (.bl false) h2) Q (fun c d H' => W c d σ H') := p2
  cases kk with
  | true =>
    rw [if_pos rfl] at p2' ⊢
    refine n _ _ _ _ _ _ hr2 ((er.mono st1).mono st2) (p2'.bnd fun e h3 α3 H3 ev st3 hr3 r3 p3 => ?_)
    exact m' _ _ _ _ _ _ _ _ _ hr3 ((r1.mono st2).mono st3) r3 p3
  | false =>
    rw [if_neg (by decide)] at p2' ⊢
    exact p2' _ _ _ Step.refl hr2 (.bl _)
theorem de_chain {a b c : Expr} {op op' : CmpOp} {f g w : En → Hh → R D} (hm : lastMarks [op, op'] [b, c] = false) (o : OpS Γ X (compareOp op) (cmpOp op)) (o' : OpS Γ X (compareOp op') (cmpOp op')) (ha : DE Γ X W a f) (hb : DE Γ X W b g) (hc : DE Γ X W c w) :
    DE Γ X W (.Compare a [op, op'] [b, c] pos) (fun en h => bnd (f en h) fun x h1 => bnd (g en h1) fun y h2 => bnd (cmpOp op x y h2) fun z h3 => bnd (toBool z h3) fun k h4 =>
      if k = true then bnd (w en h4) fun v h5 => cmpOp op' y v h5 else .ok (.bl false) h4) := by
  obtain ⟨t, pt, k⟩ := ha.ex
  obtain ⟨u, pu, l⟩ := hb.ex
  obtain ⟨z, pz, n⟩ := hc.ex
  obtain ⟨r, pr, m⟩ := o
  obtain ⟨r', pr', m'⟩ := o'
  refine ⟨_, pe_chain pr pr' pt pu pz hm, fun α h H en σ Q hr er p => k _ _ _ _ _ _ hr er (p.bnd fun d h1 α1 H1 v st1 hr1 r1 p1 => ?_)⟩
  exact chain_post (t := t) l n m m' hr1 (er.mono st1) r1 p1
theorem dt_chain {a b c : Expr} {op op' : CmpOp} {f g w : En → Hh → R D} (hm : lastMarks [op, op'] [b, c] = false) (o : OpS Γ X (compareOp op) (cmpOp op)) (o' : OpS Γ X (compareOp op') (cmpOp op')) (ha : DE Γ X W a f) (hb : DE Γ X W b g) (hc : DE Γ X W c w) :
    DT Γ X W (.Compare a [op, op'] [b, c] pos) (fun en h => bnd (bnd (f en h) fun x h1 => bnd (g en h1) fun y h2 => bnd (cmpOp op x y h2) fun z h3 => bnd (toBool z h3) fun k h4 =>
      if k = true then bnd (w en h4) fun v h5 => cmpOp op' y v h5 else .ok (.bl false) h4) toBool) := by
  obtain ⟨t, pt, k⟩ := ha.ex
  obtain ⟨u, pu, l⟩ := hb.ex
  obtain ⟨z, pz, n⟩ := hc.ex
  obtain ⟨r, pr, m⟩ := o
  obtain ⟨r', pr', m'⟩ := o'
  refine ⟨_, pt_chain pr pr' pt pu pz hm, fun α h H en σ Q hr er p => ?_⟩
  have p' := Pst.bnd (Rl := RV Γ) (Q := fun x H' => ∃ k, x = V.bl k ∧ Q k H') p fun d h1 α1 H1 v st1 hr1 r1 p1 => by
    obtain ⟨kk, e, _, q⟩ := toBool_post hr1 r1 p1
    exact ⟨kk, e, q⟩
  refine k _ _ _ _ _ _ hr er (p'.bnd fun d h1 α1 H1 v st1 hr1 r1 p1 => ?_)
  exact chain_post (t := t) l n m m' hr1 (er.mono st1) r1 p1
theorem de_neg {a : Expr} {f : En → Hh → R D} (ha : DE Γ X W a f) : DE Γ X W (.UnaryOp .USub a pos) (fun en h => bnd (f en h) unNeg) := by
  obtain ⟨t, pt, k⟩ := ha.ex
  refine ⟨_, pe_un un_neg pt, fun α h H en σ Q hr er p => k _ _ _ _ _ _ hr er (p.bnd fun d h1 α1 H1 v st1 hr1 r1 p1 => ?_)⟩
  cases r1 <;> first | exact False.elim p1 | skip
  exact ⟨_, rfl, p1 _ _ _ Step.refl hr1 (.int _)⟩
theorem dt_not {a : Expr} {f : En → Hh → R Bool} (ha : DT Γ X W a f) : DT Γ X W (.UnaryOp .Not a pos) (fun en h => bnd (f en h) fun b h1 => .ok (!b) h1) := by
  obtain ⟨t, pt, k⟩ := ha.ex
  refine ⟨_, pt_not pt, fun α h H en σ Q hr er p => k _ _ _ _ _ _ hr er (p.bnd fun d h1 α1 H1 v st1 hr1 r1 p1 => ?_)⟩
  cases r1
  exact p1 _ _ _ Step.refl hr1 rfl
theorem dt_and {a b : Expr} {rest : List Expr} {f g : En → Hh → R Bool} (ha : DT Γ X W a f) (hb : DW Γ X W (.BoolOp .And (b :: rest) pos) g) : DW Γ X W (.BoolOp .And (a :: b :: rest) pos) (fun en h => bnd (f en h) fun k h1 => if k = true then g en h1 else .ok false h1) := by
  obtain ⟨t, pt, k⟩ := ha.ex
  obtain ⟨u, pu, l⟩ := hb.ex
  refine ⟨_, pw_and pt pu, fun α h H en σ Q hr er p => k _ _ _ _ _ _ hr er (p.bnd fun d h1 α1 H1 v st1 hr1 r1 p1 => ?_)⟩
  cases r1
  cases d with
  | true => rw [if_pos rfl] at p1 ⊢; exact l _ _ _ _ _ _ hr1 (er.mono st1) p1
  | false => rw [if_neg (by decide)] at p1 ⊢; exact p1 _ _ _ Step.refl hr1 rfl
theorem dt_or {a b : Expr} {rest : List Expr} {f g : En → Hh → R Bool} (ha : DT Γ X W a f) (hb : DW Γ X W (.BoolOp .Or (b :: rest) pos) g) : DW Γ X W (.BoolOp .Or (a :: b :: rest) pos) (fun en h => bnd (f en h) fun k h1 => if k = true then .ok true h1 else g en h1) := by
  obtain ⟨t, pt, k⟩ := ha.ex
  obtain ⟨u, pu, l⟩ := hb.ex
  refine ⟨_, pw_or pt pu, fun α h H en σ Q hr er p => k _ _ _ _ _ _ hr er (p.bnd fun d h1 α1 H1 v st1 hr1 r1 p1 => ?_)⟩
  cases r1
  cases d with
  | true => rw [if_pos rfl] at p1 ⊢; exact p1 _ _ _ Step.refl hr1 rfl
  | false => rw [if_neg (by decide)] at p1 ⊢; exact l _ _ _ _ _ _ hr1 (er.mono st1) p1
theorem dw_one {a : Expr} {op : BoolOp} {f : En → Hh → R Bool} (ha : DT Γ X W a f) : DW Γ X W (.BoolOp op [a] pos) f := by
  obtain ⟨t, pt, k⟩ := ha.ex
  cases op with
  | And => exact ⟨_, pw_and1 pt, k⟩
  | Or => exact ⟨_, pw_or1 pt, k⟩
theorem DW.dt {a : Expr} {f : En → Hh → R Bool} (h : DW Γ X W a f) : DT Γ X W a f := by
  obtain ⟨t, pt, k⟩ := h.ex
  exact ⟨_, pt.pt, k⟩
theorem de_and {a b : Expr} {rest : List Expr} {f g : En → Hh → R D} (ha : DE Γ X W a f) (hb : DE Γ X W (.BoolOp .And (b :: rest) pos) g) :
    DE Γ X W (.BoolOp .And (a :: b :: rest) pos) (fun en h => bnd (f en h) fun x h1 => bnd (toBool x h1) fun k h2 => if k = true then g en h2 else .ok (.bl false) h2) := by
  obtain ⟨t, pt, k⟩ := ha.ex
  obtain ⟨u, pu, l⟩ := hb.ex
  refine ⟨_, pe_and pt pu, fun α h H en σ Q hr er p => k _ _ _ _ _ _ hr er (p.bnd fun d h1 α1 H1 v st1 hr1 r1 p1 => ?_)⟩
  cases r1 <;> first | exact False.elim p1 | skip
  rename_i kk
  refine ⟨kk, rfl, ?_⟩
  have p2 : Pst Γ (RV Γ) α1 H1 (if kk = true then g en h1 else .ok (.bl false) h1) Q (fun c d H' => W c d σ H') := p1
  cases kk with
  | true => rw [if_pos rfl] at p2 ⊢; exact l _ _ _ _ _ _ hr1 (er.mono st1) p2
  | false => rw [if_neg (by decide)] at p2 ⊢; exact p2 _ _ _ Step.refl hr1 (.bl _)
theorem de_or {a b : Expr} {rest : List Expr} {f g : En → Hh → R D} (ha : DE Γ X W a f) (hb : DE Γ X W (.BoolOp .Or (b :: rest) pos) g) :
    DE Γ X W (.BoolOp .Or (a :: b :: rest) pos) (fun en h => bnd (f en h) fun x h1 => bnd (toBool x h1) fun k h2 => if k = true then .ok (.bl true) h2 else g en h2) := by
  obtain ⟨t, pt, k⟩ := ha.ex
  obtain ⟨u, pu, l⟩ := hb.ex
  refine ⟨_, pe_or pt pu, fun α h H en σ Q hr er p => k _ _ _ _ _ _ hr er (p.bnd fun d h1 α1 H1 v st1 hr1 r1 p1 => ?_)⟩
  cases r1 <;> first | exact False.elim p1 | skip
  rename_i kk
  refine ⟨kk, rfl, ?_⟩
  have p2 : Pst Γ (RV Γ) α1 H1 (if kk = true then .ok (.bl true) h1 else g en h1) Q (fun c d H' => W c d σ H') := p1
  cases kk with
  | true => rw [if_pos rfl] at p2 ⊢; exact p2 _ _ _ Step.refl hr1 (.bl _)
  | false => rw [if_neg (by decide)] at p2 ⊢; exact l _ _ _ _ _ _ hr1 (er.mono st1) p2
theorem de_one {a : Expr} {op : BoolOp} {f : En → Hh → R D} (ha : DE Γ X W a f) : DE Γ X W (.BoolOp op [a] pos) f := by
  obtain ⟨t, pt, k⟩ := ha.ex
  exact ⟨_, pe_one pt, k⟩
theorem de_not {a : Expr} {f : En → Hh → R D} (ha : DE Γ X W a f) : DE Γ X W (.UnaryOp .Not a pos) (fun en h => bnd (f en h) fun x h1 => bnd (toBool x h1) fun b h2 => .ok (.bl (!b)) h2) := by
  obtain ⟨t, pt, k⟩ := ha.ex
  refine ⟨_, pe_not pt, fun α h H en σ Q hr er p => k _ _ _ _ _ _ hr er (p.bnd fun d h1 α1 H1 v st1 hr1 r1 p1 => ?_)⟩
  cases r1 <;> first | exact False.elim p1 | skip
  rename_i kk
  have p2 : Pst Γ (RV Γ) α1 H1 (.ok (.bl (!kk)) h1) Q (fun c d H' => W c d σ H') := p1
  exact ⟨kk, rfl, p2 _ _ _ Step.refl hr1 (.bl _)⟩
theorem de_ite {c a b : Expr} {w : En → Hh → R Bool} {f g : En → Hh → R D} (hc : DT Γ X W c w) (ha : DE Γ X W a f) (hb : DE Γ X W b g) :
    DE Γ X W (.IfExp c a b pos) (fun en h => bnd (w en h) fun k h1 => if k = true then f en h1 else g en h1) := by
  obtain ⟨z, pz, n⟩ := hc.ex
  obtain ⟨t, pt, k⟩ := ha.ex
  obtain ⟨u, pu, l⟩ := hb.ex
  refine ⟨_, pe_ifExp pz pt pu, fun α h H en σ Q hr er p => n _ _ _ _ _ _ hr er (p.bnd fun d h1 α1 H1 v st1 hr1 r1 p1 => ?_)⟩
  cases r1
  cases d with
  | true => rw [if_pos rfl] at p1 ⊢; exact k _ _ _ _ _ _ hr1 (er.mono st1) p1
  | false => rw [if_neg (by decide)] at p1 ⊢; exact l _ _ _ _ _ _ hr1 (er.mono st1) p1
/-! ### subscripts -/
theorem ix_post (hK : X.K = Γ.K) {α : List Addr} {h : Hh} {H : Hp} {x y : V} {dx dy : D} {Q : V → Hp → Prop} {E : XK} (hr : HR Γ.K α h H) (rx : Rep Γ.K α H dx x) (ry : Rep Γ.K α H dy y) (p : Pst Γ (RV Γ) α H (ixOp dx dy h) Q E) : rIx X.K x y H Q := by
  cases ry <;> first | (cases dx <;> exact False.elim p) | skip
  rename_i i
  have key : Pst Γ (RV Γ) α H (optR ((seqOf h dx).bind (fun ds => L2.atI ds i)) fun d => .ok d h) Q E → rIx X.K x (.int i) H Q := fun p' => by
    obtain ⟨d, e, p'⟩ := Pst.opt p'
    obtain ⟨ds, e1, q⟩ := Option.bind_eq_some_iff.mp e
    obtain ⟨a, vs, rfl, s, rs⟩ := hr.seq rx e1
    obtain ⟨v, ev, rv⟩ := rs.atI q
    exact .inl ⟨a, vs, i, v, rfl, rfl, by rw [hK]; exact s, ev, p' _ _ _ Step.refl hr rv⟩
  cases rx with
  | @tup a vs ds s rs =>
    have p' : Pst Γ (RV Γ) α H (optR (L2.atI ds i) fun d => .ok d h) Q E := p
    obtain ⟨d, q, p'⟩ := Pst.opt p'
    obtain ⟨v, ev, rv⟩ := rs.atI q
    exact .inr (.inl ⟨a, vs, i, v, rfl, rfl, by rw [hK]; exact s, ev, p' _ _ _ Step.refl hr rv⟩)
  | _ => exact key p
theorem de_ix {a b : Expr} {f g : En → Hh → R D} (hK : X.K = Γ.K) (hp : PlainIx b) (ha : DE Γ X W a f) (hb : DE Γ X W b g) : DE Γ X W (.Subscript a b pos) (fun en h => bnd (f en h) fun x h1 => bnd (g en h1) fun y h2 => ixOp x y h2) := by
  obtain ⟨t, pt, k⟩ := ha.ex
  obtain ⟨u, pu, l⟩ := hb.ex
  refine ⟨_, pe_ix ix_seq pt pu hp, fun α h H en σ Q hr er p => k _ _ _ _ _ _ hr er (p.bnd fun d h1 α1 H1 v st1 hr1 r1 p1 => ?_)⟩
  refine l _ _ _ _ _ _ hr1 (er.mono st1) (p1.bnd fun ds h2 α2 H2 vs st2 hr2 r2 p2 => ?_)
  exact ix_post hK hr2 (r1.mono st2) r2 p2
theorem do_none : DO Γ X W none (fun _ h => .ok none h) := ⟨_, po_none, fun _ _ _ _ _ _ hr _ p => p _ _ _ Step.refl hr rfl⟩
theorem do_some {e : Expr} {f : En → Hh → R D} (he : DE Γ X W e f) : DO Γ X W (some e) (fun en h => bnd (f en h) fun d h1 => bnd (toInt d h1) fun i h2 => .ok (some i) h2) := by
  obtain ⟨t, pt, k⟩ := he.ex
  refine ⟨_, po_some pt, fun α h H en σ Q hr er p => k _ _ _ _ _ _ hr er (p.bnd fun d h1 α1 H1 v st1 hr1 r1 p1 => ?_)⟩
  cases r1 <;> first | exact False.elim p1 | skip
  rename_i i
  have p2 : Pst Γ REq α1 H1 (.ok (some i) h1) Q (fun c d H' => W c d σ H') := p1
  exact ⟨i, rfl, p2 _ _ _ Step.refl hr1 rfl⟩
theorem cut_whole {α : Type} (ds : List α) (lo hi : Option Int) (h : HT.sIx ds.length 0 lo = 0 ∧ HT.sIx ds.length ds.length hi = ds.length) : (ds.drop (HT.sIx ds.length 0 lo)).take (HT.sIx ds.length ds.length hi - HT.sIx ds.length 0 lo) = ds := by
  rw [h.1, h.2, List.drop_zero, Nat.sub_zero, List.take_length]
theorem de_sl {a : Expr} {lo hi : Option Expr} {p2 : Pos} {f : En → Hh → R D} {g w : En → Hh → R (Option Int)} (hK : X.K = Γ.K) (ha : DE Γ X W a f) (hl : DO Γ X W lo g) (hh : DO Γ X W hi w) :
    DE Γ X W (.Subscript a (.Slice lo hi none p2) pos) (fun en h => bnd (f en h) fun x h1 => bnd (g en h1) fun l h2 => bnd (w en h2) fun u h3 => slOp x l u h3) := by
  obtain ⟨t, pt, k⟩ := ha.ex
  obtain ⟨u, pu, l⟩ := hl.ex
  obtain ⟨z, pz, n⟩ := hh.ex
  refine ⟨_, pe_slice (sl_list.or sl_tupA) pt pu pz, fun α h H en σ Q hr er p => k _ _ _ _ _ _ hr er (p.bnd fun d h1 α1 H1 v st1 hr1 r1 p1 => ?_)⟩
  refine l _ _ _ _ _ _ hr1 (er.mono st1) (p1.bnd fun lo' h2 α2 H2 _ st2 hr2 r2 p2 => ?_)
  cases r2
  refine n _ _ _ _ _ _ hr2 ((er.mono st1).mono st2) (p2.bnd fun hi' h3 α3 H3 _ st3 hr3 r3 p3 => ?_)
  cases r3
  have rd := (r1.mono st2).mono st3
  have key : Pst Γ (RV Γ) α3 H3 (optR (seqOf h3 d) fun ds => .ok (.ref h3.length) (h3 ++ [.lst (cutD ds lo' hi')])) Q (fun c d H' => W c d σ H') → rSlL X.K v lo' hi' H3 Q := fun p' => by
    obtain ⟨ds, e, p'⟩ := Pst.opt p'
    obtain ⟨b, vs, rfl, s, rs⟩ := hr3.seq rd e
    exact ⟨b, vs, rfl, by rw [hK]; exact s, fun q hq => p' _ _ _ (Step.new' hq) (hr3.new hq (rs.cut lo' hi')) (rep_new hr3)⟩
  cases rd with
  | @tup b vs ds s rs =>
    refine .inr ⟨b, vs, rfl, by rw [hK]; exact s, fun hw => ?_, fun _ q hq => ?_⟩
    · have p' : Pst Γ (RV Γ) α3 H3 (.ok (.tup (cutD ds lo' hi')) h3) Q (fun c d H' => W c d σ H') := p3
      refine p' _ _ _ Step.refl hr3 ?_
      have e : cutD ds lo' hi' = ds := by
        unfold cutD
        exact cut_whole ds lo' hi' (by rw [rs.length]; exact hw)
      rw [e]
      exact .tup s rs
    · have p' : Pst Γ (RV Γ) α3 H3 (.ok (.tup (cutD ds lo' hi')) h3) Q (fun c d H' => W c d σ H') := p3
      exact p' _ _ _ (Step.other hq) (hr3.other hq) (.tup (SqT.of upd_same) ((rs.cut lo' hi').mono (Step.other hq)))
  | _ => exact .inl (key p3)
end
end PD

set_option Elab.async false
set_option linter.all false
set_option maxRecDepth 100000
set_option maxHeartbeats 1000000
namespace PD
open PySem PySem.Spec PyProof.Rows L2
section
variable {Γ : Wd} {X : Cx} {W : WX} {pos p : Pos}
/-! ### built-in functions of one argument -/
def biName : Bi → Str
  | .len => "len" | .abs => "abs" | .int => "int" | .list => "list" | .tuple => "tuple" | .all => "all" | .any => "any" | .sum => "sum"
/-- a call by values -/
def CallS (Γ : Wd) (r : List V → Hp → VK → Prop) (b : Bi) : Prop := ∀ α h H x dx Q E, HR Γ.K α h H → Rep Γ.K α H dx x → Pst Γ (RV Γ) α H (biOp b dx h) Q E → r [x] H Q
theorem de_call1B {id : String} {r : List V → Hp → VK → Prop} {b : Bi} {x : Str} {e : Expr} {f : En → Hh → R D} (hc : CallR X (.builtin id) r) (cs : CallS Γ r b) (hg : Gl X x) (hm : X.mg x = none) (hv : bootBuiltins x = some (.builtin id)) (hn : x ≠ "__name__") (hdb : (x == ("__debug__" : Str)) = false)
    (hs : star e = false) (he : DE Γ X W e f) : DE Γ X W (.Call (.Name x p) [e] [] pos) (fun en h => bnd (f en h) (biOp b)) := by
  obtain ⟨t, pt, k⟩ := he.ex
  refine ⟨_, pe_callB hc hg hm hv (pa_cons pt pa_nil (starEach_cons hs)) hn hdb (starEach_cons hs) rfl, fun α h H en σ Q hr er p => k _ _ _ _ _ _ hr er (p.bnd fun d h1 α1 H1 v st1 hr1 r1 p1 => ?_)⟩
  exact cs _ _ _ _ _ _ _ hr1 r1 p1
theorem de_call1T {id : String} {r : List V → Hp → VK → Prop} {b : Bi} {x : Str} {e : Expr} {f : En → Hh → R D} (hc : CallR X (.type id) r) (cs : CallS Γ r b) (hg : Gl X x) (hm : X.mg x = none) (hv : bootBuiltins x = some (.type id)) (hn : x ≠ "__name__") (hdb : (x == ("__debug__" : Str)) = false)
    (hs : star e = false) (he : DE Γ X W e f) : DE Γ X W (.Call (.Name x p) [e] [] pos) (fun en h => bnd (f en h) (biOp b)) := by
  obtain ⟨t, pt, k⟩ := he.ex
  refine ⟨_, pe_callTy hc hg hm hv (pa_cons pt pa_nil (starEach_cons hs)) hn hdb (starEach_cons hs) rfl, fun α h H en σ Q hr er p => k _ _ _ _ _ _ hr er (p.bnd fun d h1 α1 H1 v st1 hr1 r1 p1 => ?_)⟩
  exact cs _ _ _ _ _ _ _ hr1 r1 p1
theorem seq_post {α : List Addr} {h : Hh} {H : Hp} {x : V} {dx : D} {Q : V → Hp → Prop} {E : XK} {g : List D → R D} (hr : HR Γ.K α h H) (rx : Rep Γ.K α H dx x) (p : Pst Γ (RV Γ) α H (optR (seqOf h dx) g) Q E) :
    ∃ a vs ds, x = .ref a ∧ seqOf h dx = some ds ∧ SqL Γ.K H a vs ∧ Reps Γ.K α H ds vs ∧ Pst Γ (RV Γ) α H (g ds) Q E := by
  obtain ⟨ds, e, p⟩ := Pst.opt p
  obtain ⟨a, vs, rfl, s, rs⟩ := hr.seq rx e
  exact ⟨a, vs, ds, rfl, e, s, rs, p⟩
theorem seq_post2 {A : Type} {α : List Addr} {h : Hh} {H : Hp} {x : V} {dx : D} {Q : V → Hp → Prop} {E : XK} {w : List D → Option A} {g : A → R D} (hr : HR Γ.K α h H) (rx : Rep Γ.K α H dx x) (p : Pst Γ (RV Γ) α H (optR ((seqOf h dx).bind w) g) Q E) :
    ∃ a vs ds y, x = .ref a ∧ w ds = some y ∧ SqL Γ.K H a vs ∧ Reps Γ.K α H ds vs ∧ Pst Γ (RV Γ) α H (g y) Q E := by
  obtain ⟨y, e, p⟩ := Pst.opt p
  obtain ⟨ds, e1, e2⟩ := Option.bind_eq_some_iff.mp e
  obtain ⟨a, vs, rfl, s, rs⟩ := hr.seq rx e1
  exact ⟨a, vs, ds, y, rfl, e2, s, rs, p⟩
theorem reps_bools {K : PySem.W.Frag} {α : List Addr} {H : Hp} : ∀ {ds : List D} {bs : List Bool} {vs : List V}, boolsOf ds = some bs → Reps K α H ds vs → vs = bs.map V.bl
  | [], bs, _, h, .nil => by cases h; rfl
  | d :: ds, bs, _, h, .cons r rs => by
    cases d with
    | bl b =>
      unfold boolsOf at h
      cases q : boolsOf ds with
      | none => rw [q] at h; cases h
      | some bs' =>
        rw [q] at h
        cases h
        cases r
        rw [reps_bools q rs]
        rfl
    | _ => cases h
theorem reps_intsOf {K : PySem.W.Frag} {α : List Addr} {H : Hp} : ∀ {ds : List D} {bs : List Int} {vs : List V}, intsOf ds = some bs → Reps K α H ds vs → vs = bs.map V.int
  | [], bs, _, h, .nil => by cases h; rfl
  | d :: ds, bs, _, h, .cons r rs => by
    cases d with
    | int b =>
      unfold intsOf at h
      cases q : intsOf ds with
      | none => rw [q] at h; cases h
      | some bs' =>
        rw [q] at h
        cases h
        cases r
        rw [reps_intsOf q rs]
        rfl
    | _ => cases h
theorem cs_len (hK : X.K = Γ.K) : CallS Γ (fun xs H Q => ∃ p ys, xs = [.ref p] ∧ (SqL X.K H p ys ∨ SqT X.K H p ys) ∧ Q (.int ys.length) H) .len := fun α h H x dx Q E hr rx p => by
  have key : Pst Γ (RV Γ) α H (optR (seqOf h dx) fun ds => .ok (.int ds.length) h) Q E → ∃ p ys, [x] = [.ref p] ∧ (SqL X.K H p ys ∨ SqT X.K H p ys) ∧ Q (.int ys.length) H := fun p' => by
    obtain ⟨a, vs, ds, rfl, _, s, rs, p''⟩ := seq_post hr rx p'
    refine ⟨a, vs, rfl, .inl (by rw [hK]; exact s), ?_⟩
    rw [← rs.length]
    exact p'' _ _ _ Step.refl hr (.int _)
  cases rx with
  | @tup a vs ds s rs =>
    refine ⟨a, vs, rfl, .inr (by rw [hK]; exact s), ?_⟩
    have p' : Pst Γ (RV Γ) α H (.ok (.int ds.length) h) Q E := p
    rw [← rs.length]
    exact p' _ _ _ Step.refl hr (.int _)
  | _ => exact key p
theorem cs_abs : CallS Γ (fun xs H Q => ∃ i, xs = [.int i] ∧ Q (.int (if i < 0 then -i else i)) H) .abs := fun α h H x dx Q E hr rx p => by
  cases rx <;> first | exact False.elim p | skip
  exact ⟨_, rfl, p _ _ _ Step.refl hr (.int _)⟩
theorem cs_int : CallS Γ (fun xs H Q => (∃ i, xs = [.int i] ∧ Q (.int i) H) ∨ ∃ k, xs = [.bl k] ∧ Q (.int (if k then 1 else 0)) H) .int := fun α h H x dx Q E hr rx p => by
  cases rx <;> first | exact False.elim p | skip
  · exact .inr ⟨_, rfl, p _ _ _ Step.refl hr (.int _)⟩
  · exact .inl ⟨_, rfl, p _ _ _ Step.refl hr (.int _)⟩
theorem cs_list (hK : X.K = Γ.K) : CallS Γ (fun xs H Q => ∃ p ys, xs = [.ref p] ∧ (SqL X.K H p ys ∨ SqT X.K H p ys) ∧ ∀ l, H l = none → Q (.ref l) (upd H l (.lst ys))) .list := fun α h H x dx Q E hr rx p => by
  have key : Pst Γ (RV Γ) α H (optR (seqOf h dx) fun ds => .ok (.ref h.length) (h ++ [.lst ds])) Q E → ∃ p ys, [x] = [.ref p] ∧ (SqL X.K H p ys ∨ SqT X.K H p ys) ∧ ∀ l, H l = none → Q (.ref l) (upd H l (.lst ys)) := fun p' => by
    obtain ⟨a, vs, ds, rfl, _, s, rs, p''⟩ := seq_post hr rx p'
    exact ⟨a, vs, rfl, .inl (by rw [hK]; exact s), fun l hl => p'' _ _ _ (Step.new' hl) (hr.new hl rs) (rep_new hr)⟩
  cases rx with
  | @tup a vs ds s rs =>
    have p' : Pst Γ (RV Γ) α H (.ok (.ref h.length) (h ++ [.lst ds])) Q E := p
    exact ⟨a, vs, rfl, .inr (by rw [hK]; exact s), fun l hl => p' _ _ _ (Step.new' hl) (hr.new hl rs) (rep_new hr)⟩
  | _ => exact key p
theorem cs_tuple (hK : X.K = Γ.K) : CallS Γ (fun xs H Q => ∃ p ys, xs = [.ref p] ∧ ((SqL X.K H p ys ∧ ∀ l, H l = none → Q (.ref l) (upd H l (.tup ys))) ∨ (SqT X.K H p ys ∧ Q (.ref p) H))) .tuple := fun α h H x dx Q E hr rx p => by
  have key : Pst Γ (RV Γ) α H (optR (seqOf h dx) fun ds => .ok (.tup ds) h) Q E → ∃ p ys, [x] = [.ref p] ∧ ((SqL X.K H p ys ∧ ∀ l, H l = none → Q (.ref l) (upd H l (.tup ys))) ∨ (SqT X.K H p ys ∧ Q (.ref p) H)) := fun p' => by
    obtain ⟨a, vs, ds, rfl, _, s, rs, p''⟩ := seq_post hr rx p'
    exact ⟨a, vs, rfl, .inl ⟨by rw [hK]; exact s, fun l hl => p'' _ _ _ (Step.other hl) (hr.other hl) (.tup (SqT.of upd_same) (rs.mono (Step.other hl)))⟩⟩
  cases rx with
  | @tup a vs ds s rs =>
    have p' : Pst Γ (RV Γ) α H (.ok (.tup ds) h) Q E := p
    exact ⟨a, vs, rfl, .inr ⟨by rw [hK]; exact s, p' _ _ _ Step.refl hr (.tup s rs)⟩⟩
  | _ => exact key p
theorem cs_all (hK : X.K = Γ.K) : CallS Γ (rAll X.K) .all := fun α h H x dx Q E hr rx p => by
  have p0 : Pst Γ (RV Γ) α H (optR ((seqOf h dx).bind boolsOf) fun bs => .ok (.bl (bs.all id)) h) Q E := by cases dx <;> exact p
  obtain ⟨a, vs, ds, y, rfl, e, s, rs, p''⟩ := seq_post2 hr rx p0
  rw [reps_bools e rs] at s
  exact ⟨a, y, rfl, by rw [hK]; exact s, p'' _ _ _ Step.refl hr (.bl _)⟩
theorem cs_any (hK : X.K = Γ.K) : CallS Γ (rAny X.K) .any := fun α h H x dx Q E hr rx p => by
  have p0 : Pst Γ (RV Γ) α H (optR ((seqOf h dx).bind boolsOf) fun bs => .ok (.bl (bs.any id)) h) Q E := by cases dx <;> exact p
  obtain ⟨a, vs, ds, y, rfl, e, s, rs, p''⟩ := seq_post2 hr rx p0
  rw [reps_bools e rs] at s
  exact ⟨a, y, rfl, by rw [hK]; exact s, p'' _ _ _ Step.refl hr (.bl _)⟩
theorem cs_sum (hK : X.K = Γ.K) : CallS Γ (rSum X.K) .sum := fun α h H x dx Q E hr rx p => by
  have p0 : Pst Γ (RV Γ) α H (optR ((seqOf h dx).bind intsOf) fun bs => .ok (.int bs.sum) h) Q E := by cases dx <;> exact p
  obtain ⟨a, vs, ds, y, rfl, e, s, rs, p''⟩ := seq_post2 hr rx p0
  rw [reps_intsOf e rs] at s
  exact ⟨a, y, rfl, by rw [hK]; exact s, p'' _ _ _ Step.refl hr (.int _)⟩
theorem de_bi {b : Bi} {e : Expr} {f : En → Hh → R D} (hK : X.K = Γ.K) (hc : X.calm = true) (hg : Gl X (biName b)) (hm : X.mg (biName b) = none) (hs : star e = false) (he : DE Γ X W e f) :
    DE Γ X W (.Call (.Name (biName b) p) [e] [] pos) (fun en h => bnd (f en h) (biOp b)) := by
  cases b with
  | len => exact de_call1B call_len_seq (cs_len hK) hg hm (by decide +kernel) (by decide) (by decide) hs he
  | abs => exact de_call1B call_abs cs_abs hg hm (by decide +kernel) (by decide) (by decide) hs he
  | int => exact de_call1T call_int1 cs_int hg hm (by decide +kernel) (by decide) (by decide) hs he
  | list => exact de_call1T call_list_of (cs_list hK) hg hm (by decide +kernel) (by decide) (by decide) hs he
  | tuple => exact de_call1T call_tuple_of (cs_tuple hK) hg hm (by decide +kernel) (by decide) (by decide) hs he
  | all => exact de_call1B (cr_all hc) (cs_all hK) hg hm (by decide +kernel) (by decide) (by decide) hs he
  | any => exact de_call1B (cr_any hc) (cs_any hK) hg hm (by decide +kernel) (by decide) (by decide) hs he
  | sum => exact de_call1B (cr_sum hc) (cs_sum hK) hg hm (by decide +kernel) (by decide) (by decide) hs he
/-! ### isinstance -/
def tyName : Ty → String
  | .int => "int" | .bool => "bool" | .str => "str" | .tuple => "tuple" | .list => "list" | .dict => "dict"
def kdName : Kd → String
  | .non => "NoneType" | .bool => "bool" | .int => "int" | .str => "str" | .tuple => "tuple" | .list => "list"
theorem kit_kd (t : Ty) (k : Kd) : kitB (kdName k) (tyName t) = some (isK t k) := by cases t <;> cases k <;> decide +kernel
theorem rep_ty {K : PySem.W.Frag} {α : List Addr} {h : Hh} {H : Hp} {d : D} {v : V} (hr : HR K α h H) (r : Rep K α H d v) (hn : ∀ n, d = .ref n → ∃ o, h[n]? = some o) : TyX K H v (.type (kdName (kd d))) := by
  cases r with
  | non => exact .base .non
  | bl b => exact .base (.bl b)
  | int i => exact .base (.int i)
  | str x => exact .base (.str x)
  | @tup a vs ds s rs =>
    rcases s with (s | ⟨o, s⟩) | ⟨o, its, n, e, c, _⟩
    · exact .base (.tup s)
    · exact .fTuple s
    · exact .kTuple e c
  | @ref n a ha =>
    obtain ⟨o, ho⟩ := hn n rfl
    cases o with
    | lst ds =>
      obtain ⟨vs, e, _⟩ := hr.lst ha ho
      exact .base (.lst e)
  | @scr ns a hs =>
    rcases hs with ⟨o, s⟩ | ⟨o, its, n, e, c, _⟩
    · exact .base (.frz s)
    · exact .kList e c
theorem HR.there {K : PySem.W.Frag} {α : List Addr} {h : Hh} {H : Hp} {d : D} {v : V} (hr : HR K α h H) (r : Rep K α H d v) : ∀ n, d = .ref n → ∃ o, h[n]? = some o := fun n e => by
  subst e
  cases r with
  | ref ha =>
    have hl : n < h.length := by rw [← hr.len]; exact (List.getElem?_eq_some_iff.mp ha).1
    exact ⟨_, List.getElem?_eq_getElem hl⟩
theorem de_isi {t : Ty} {e : Expr} {p2 : Pos} {f : En → Hh → R D} (hK : X.K = Γ.K) (hg : Gl X "isinstance") (hm : X.mg "isinstance" = none) (hg2 : Gl X (Str.ofString (tyName t))) (hm2 : X.mg (Str.ofString (tyName t)) = none) (hs : star e = false) (he : DE Γ X W e f) :
    DE Γ X W (.Call (.Name "isinstance" p) [e, .Name (Str.ofString (tyName t)) p2] [] pos) (fun en h => bnd (f en h) fun x h1 => .ok (.bl (isTy t x)) h1) := by
  obtain ⟨z, pz, k⟩ := he.ex
  have pty : PE X (.Name (Str.ofString (tyName t)) p2) (tC (.ty (tyName t))) := by
    cases t <;> exact pe_bltn hg2 hm2 (by decide +kernel) rfl (by decide) (by decide)
  refine ⟨_, pe_callB call_isi hg hm (by decide +kernel) (pa_cons pz (pa_cons pty pa_nil rfl) (starEach_cons hs)) (by decide) (by decide) (starEach_cons hs) rfl, fun α h H en σ Q hr er p => k _ _ _ _ _ _ hr er (p.bnd fun d h1 α1 H1 v st1 hr1 r1 p1 => ?_)⟩
  have ty := rep_ty hr1 r1 (hr1.there r1)
  exact ⟨v, .ty (tyName t), .type (kdName (kd d)), .type (tyName t), isTy t d, rfl, .ty _, by rw [hK]; exact ty, kit_ty (kit_kd t (kd d)), p1 _ _ _ Step.refl hr1 (.bl _)⟩
/-! ### iterables -/
def iSeq (K : PySem.W.Frag) (tl : TE) : TI := fun σ H R => tl σ H fun x H1 => ∃ a, x = .ref a ∧ (((∃ xs, SqL K H1 a xs) ∧ R (Itl K a) H1) ∨ ((∃ xs, SqT K H1 a xs) ∧ R (Itt K a) H1))
theorem pi_seq {tg l : Expr} {tl : TE} (hl : PE X l tl) : PI X tg l (iSeq X.K tl) := by
  refine ⟨fun pins s σ H R I h => thn (hl.run pins s σ H _ I h) fun v s1 ⟨x, H1, I1, r1, a, e, q⟩ => ?_⟩
  subst e
  cases r1
  have fp : ∀ b ∈ [s1.heap.objs.size], FpOk X pins H1 b := fun b hb => by
    rw [List.mem_singleton] at hb
    subst hb
    exact I1.fpOk (Nat.le_refl _) (I1.hok.fresh (Nat.le_refl _))
  rcases q with ⟨⟨xs, hq⟩, q⟩ | ⟨⟨xs, hq⟩, q⟩
  · obtain ⟨its, rv, pl, hz⟩ := I1.list hq
    exact wpAny_pyIter_list pl.isList ⟨_, _, _, _, H1, rfl, I1.kept (t' := s1.toks) (fun b o => Heap.get?_push_of_some _), turn_list a _, ⟨_, Heap.get?_push_size _ rfl, rfl, rfl⟩, fp, q⟩
  · obtain ⟨its, rv, pl, hz⟩ := I1.tuple hq
    exact wpAny_pyIter_tuple (show s1.heap.IsTuple a its.toArray from pl) ⟨_, _, _, _, H1, rfl, I1.kept (t' := s1.toks) (fun b o => Heap.get?_push_of_some _), turn_tuple a _, ⟨_, Heap.get?_push_size _ rfl, rfl, rfl⟩, fp, q⟩
theorem itr_tup {α : List Addr} {H : Hp} {a : Addr} {vs : List V} {ds : List D} (s : SqT Γ.K H a vs) (rs : Reps Γ.K α H ds vs) : ItR Γ α H (.tup ds) (Itt Γ.K a) := by
  intro α' h' H' st hr i
  have s' := st.tup _ _ s
  have rs' := rs.monoE st
  show match (some ds[i]? : Option (Option D)) with | none => True | some none => _ | some (some d) => _
  cases e : ds[i]? with
  | none =>
    refine ⟨vs, s', ?_⟩
    rw [← rs'.length]
    exact List.getElem?_eq_none_iff.mp e
  | some d =>
    obtain ⟨v, ev, rv⟩ := rs'.get e
    refine ⟨⟨vs, v, s', ev⟩, fun x H'' y => ?_⟩
    obtain ⟨rfl, fx⟩ := y
    have := fx vs s'
    rw [ev] at this
    cases this
    exact ⟨Step.refl, hr, rv⟩
theorem itr_lst {α : List Addr} {H : Hp} {dx : D} {a : Addr} (rx : Rep Γ.K α H dx (.ref a)) (hl : ∀ ds, dx ≠ .tup ds) : ItR Γ α H (.lst dx) (Itl Γ.K a) := by
  intro α' h' H' st hr i
  have rx' := rx.monoE st
  show match (seqOf h' dx).map (·[i]?) with | none => True | some none => _ | some (some d) => _
  cases q : seqOf h' dx with
  | none => exact trivial
  | some ds =>
    obtain ⟨b, vs, eb, s, rs⟩ := hr.seq rx' q
    cases eb
    rw [Option.map_some]
    cases e : ds[i]? with
    | none =>
      refine ⟨vs, s, ?_⟩
      rw [← rs.length]
      exact List.getElem?_eq_none_iff.mp e
    | some d =>
      obtain ⟨v, ev, rv⟩ := rs.get e
      refine ⟨⟨vs, v, s, ev⟩, fun x H'' y => ?_⟩
      obtain ⟨rfl, fx⟩ := y
      have := fx vs s
      rw [ev] at this
      cases this
      exact ⟨Step.refl, hr, rv⟩
theorem di_seq {tg e : Expr} {f : En → Hh → R D} (hK : X.K = Γ.K) (he : DE Γ X W e f) : DI Γ X W tg e (fun en h => bnd (f en h) seqIt) := by
  obtain ⟨t, pt, k⟩ := he.ex
  refine ⟨_, pi_seq pt, fun α h H en σ Q hr er p => k _ _ _ _ _ _ hr er (p.bnd fun d h1 α1 H1 v st1 hr1 r1 p1 => ?_)⟩
  have key : (∀ ds, d ≠ .tup ds) → Pst Γ (ItR Γ) α1 H1 (optR (seqOf h1 d) fun _ => .ok (.lst d) h1) Q (fun c d H' => W c d σ H') → ∃ a, v = .ref a ∧ (((∃ xs, SqL X.K H1 a xs) ∧ Q (Itl X.K a) H1) ∨ ((∃ xs, SqT X.K H1 a xs) ∧ Q (Itt X.K a) H1)) := fun hd p' => by
    obtain ⟨ds, e, p'⟩ := Pst.opt p'
    obtain ⟨a, vs, rfl, s, rs⟩ := hr1.seq r1 e
    rw [hK]
    exact ⟨a, rfl, .inl ⟨⟨vs, s⟩, p' _ _ _ Step.refl hr1 (itr_lst r1 hd)⟩⟩
  cases r1 with
  | @tup a vs ds s rs =>
    have p' : Pst Γ (ItR Γ) α1 H1 (.ok (.tup ds) h1) Q (fun c d H' => W c d σ H') := p1
    rw [hK]
    refine ⟨a, rfl, .inr ⟨⟨vs, s⟩, p' _ _ _ Step.refl hr1 (itr_tup s rs)⟩⟩
  | non => exact False.elim p1
  | bl b => exact False.elim p1
  | int b => exact False.elim p1
  | str b => exact False.elim p1
  | ref ha => exact key (fun ds z => nomatch z) p1
  | scr ha => exact key (fun ds z => nomatch z) p1
end
end PD

set_option Elab.async false
set_option linter.all false
set_option maxRecDepth 100000
set_option maxHeartbeats 1000000
namespace PD
open PySem PySem.Spec PyProof.Rows L2
section
variable {Γ : Wd} {X : Cx} {W : WX} {pos p : Pos}
/-! ### ranges, enumerate, zip -/
theorem itr_rng {α : List Addr} {H : Hp} (lo : Int) (n : Nat) : ItR Γ α H (.rng lo n) (Itr lo n) := by
  intro α' h' H' st hr i
  show match (if i < n then some (some (.int (lo + i))) else some none : Option (Option D)) with | none => True | some none => _ | some (some d) => _
  by_cases c : i < n
  · rw [if_pos c]
    refine ⟨c, fun x H'' y => ?_⟩
    obtain ⟨rfl, rfl⟩ := y
    exact ⟨Step.refl, hr, .int _⟩
  · rw [if_neg c]
    exact Nat.le_of_not_lt c
theorem rng_post {α : List Addr} {h : Hh} {H : Hp} {lo : Int} {d : D} {v : V} {Q : L2.It → Hp → Prop} {E : XK} (hr : HR Γ.K α h H) (r : Rep Γ.K α H d v) (p : Pst Γ (ItR Γ) α H (rngIt lo d h) Q E) :
    ∃ hi, v = .int hi ∧ -(2 ^ 62) ≤ lo ∧ lo < 2 ^ 62 ∧ -(2 ^ 62) ≤ hi ∧ hi < 2 ^ 62 ∧ Q (Itr lo (hi - lo).toNat) H := by
  cases r <;> first | exact False.elim p | skip
  rename_i hi
  dsimp only [rngIt] at p
  by_cases c : -(2 ^ 62) ≤ lo ∧ lo < 2 ^ 62 ∧ -(2 ^ 62) ≤ hi ∧ hi < 2 ^ 62
  · rw [if_pos c] at p
    exact ⟨hi, rfl, c.1, c.2.1, c.2.2.1, c.2.2.2, p _ _ _ Step.refl hr (itr_rng _ _)⟩
  · rw [if_neg c] at p
    exact False.elim p
theorem di_rng1 {tg a : Expr} {f : En → Hh → R D} (hg : Gl X "range") (hm : X.mg "range" = none) (hs : star a = false) (ha : DE Γ X W a f) :
    DI Γ X W tg (.Call (.Name "range" p) [a] [] pos) (fun en h => bnd (f en h) fun x h1 => rngIt 0 x h1) := by
  obtain ⟨t, pt, k⟩ := ha.ex
  refine ⟨_, pi_range1 hg hm (pa_cons pt pa_nil (starEach_cons hs)) (starEach_cons hs), fun α h H en σ Q hr er p => k _ _ _ _ _ _ hr er (p.bnd fun d h1 α1 H1 v st1 hr1 r1 p1 => ?_)⟩
  obtain ⟨hi, rfl, _, _, c1, c2, q⟩ := rng_post hr1 r1 p1
  rw [Int.sub_zero] at q
  exact ⟨hi, rfl, c1, c2, q⟩
theorem di_rng2 {tg a b : Expr} {f g : En → Hh → R D} (hg : Gl X "range") (hm : X.mg "range" = none) (hs : star a = false) (hs2 : star b = false) (ha : DE Γ X W a f) (hb : DE Γ X W b g) :
    DI Γ X W tg (.Call (.Name "range" p) [a, b] [] pos) (fun en h => bnd (f en h) fun x h1 => bnd (g en h1) fun y h2 => bnd (toInt x h2) fun lo h3 => rngIt lo y h3) := by
  obtain ⟨t, pt, k⟩ := ha.ex
  obtain ⟨u, pu, l⟩ := hb.ex
  refine ⟨_, pi_range2 hg hm (pa_cons pt (pa_cons pu pa_nil (starEach_cons hs2)) (starEach_cons hs)) (by rw [starEach_cons hs, starEach_cons hs2]; rfl) (starEach_cons hs2), fun α h H en σ Q hr er p => k _ _ _ _ _ _ hr er (p.bnd fun d h1 α1 H1 v st1 hr1 r1 p1 => ?_)⟩
  refine l _ _ _ _ _ _ hr1 (er.mono st1) (p1.bnd fun y h2 α2 H2 yv st2 hr2 r2 p2 => ?_)
  have r1' := r1.mono st2
  cases r1' <;> first | exact False.elim p2 | skip
  obtain ⟨hi, rfl, c1, c2, c3, c4, q⟩ := rng_post hr2 r2 p2
  exact ⟨_, hi, rfl, ⟨c1, c2, c3, c4⟩, q⟩
theorem itr_enum {α : List Addr} {H : Hp} {dx : D} {a : Addr} (rx : Rep Γ.K α H dx (.ref a)) : ItR Γ α H (.enum dx) (Ite Γ.K a) := by
  intro α' h' H' st hr i
  have rx' := rx.monoE st
  show match (seqOf h' dx).map (fun ds => ds[i]?.map fun d => D.tup [.int i, d]) with | none => True | some none => _ | some (some d) => _
  cases q : seqOf h' dx with
  | none => exact trivial
  | some ds =>
    obtain ⟨b, vs, eb, s, rs⟩ := hr.seq rx' q
    cases eb
    rw [Option.map_some]
    cases e : ds[i]? with
    | none =>
      refine ⟨vs, s, ?_⟩
      rw [← rs.length]
      exact List.getElem?_eq_none_iff.mp e
    | some d =>
      obtain ⟨v, ev, rv⟩ := rs.get e
      refine ⟨⟨vs, v, s, ev⟩, fun x H'' y => ?_⟩
      obtain ⟨T, z, rfl, hT, rfl, fx⟩ := y
      have := fx vs s
      rw [ev] at this
      cases this
      exact ⟨Step.other hT, hr.other hT, .tup (SqT.of upd_same) (.cons (.int _) (.cons (rv.mono (Step.other hT)) .nil))⟩
theorem di_enum {a : Expr} {elts : List Expr} {kk : Nat} {tpos : Pos} {f : En → Hh → R D} (hK : X.K = Γ.K) (hg : Gl X "enumerate") (hm : X.mg "enumerate" = none) (hs : star a = false) (ha : DE Γ X W a f) :
    DI Γ X W (.Tuple elts kk tpos) (.Call (.Name "enumerate" p) [a] [] pos) (fun en h => bnd (f en h) enumIt) := by
  obtain ⟨t, pt, k⟩ := ha.ex
  refine ⟨_, pi_enum hg hm (pa_cons pt pa_nil (starEach_cons hs)) (starEach_cons hs), fun α h H en σ Q hr er p => k _ _ _ _ _ _ hr er (p.bnd fun d h1 α1 H1 v st1 hr1 r1 p1 => ?_)⟩
  obtain ⟨ds, e, p1⟩ := Pst.opt p1
  obtain ⟨a, vs, rfl, s, rs⟩ := hr1.seq r1 e
  rw [hK]
  exact ⟨a, vs, rfl, s, p1 _ _ _ Step.refl hr1 (itr_enum r1)⟩
theorem itr_zip {α : List Addr} {H : Hp} {dx dy : D} {a b : Addr} (rx : Rep Γ.K α H dx (.ref a)) (ry : Rep Γ.K α H dy (.ref b)) : ItR Γ α H (.zip dx dy) (Itz2 (isTupD dx) (isTupD dy) Γ.K a b) := by
  intro α' h' H' st hr i
  have rx' := rx.monoE st
  have ry' := ry.monoE st
  cases q1 : itemsOf h' dx with
  | none => dsimp only [It.next]; rw [q1]; exact trivial
  | some ds =>
    cases q2 : itemsOf h' dy with
    | none => dsimp only [It.next]; rw [q1, q2]; exact trivial
    | some es =>
      obtain ⟨_, vs, eb, s, rs⟩ := hr.items rx' q1
      cases eb
      obtain ⟨_, ws, eb, s2, rs2⟩ := hr.items ry' q2
      cases eb
      have stopped : ∀ T : D → Prop, (ds[i]? = none ∨ es[i]? = none) → match (if i ≤ ds.length ∧ i ≤ es.length then some none else none : Option (Option D)) with | none => True | some none => (Itz2 (isTupD dx) (isTupD dy) Γ.K a b).stop i H' | some (some d) => T d := fun T hn => by
        by_cases c : i ≤ ds.length ∧ i ≤ es.length
        · rw [if_pos c]
          refine ⟨vs, ws, s, s2, by rw [← rs.length]; exact c.1, by rw [← rs2.length]; exact c.2, ?_⟩
          rcases hn with z | z
          · exact .inl (by rw [← rs.length]; exact Nat.le_antisymm c.1 (List.getElem?_eq_none_iff.mp z))
          · exact .inr (by rw [← rs2.length]; exact Nat.le_antisymm c.2 (List.getElem?_eq_none_iff.mp z))
        · rw [if_neg c]; exact trivial
      cases e1 : ds[i]? with
      | none =>
        dsimp only [It.next]; rw [q1, q2]; dsimp only; rw [e1]
        exact stopped _ (.inl e1)
      | some d =>
        cases e2 : es[i]? with
        | none =>
          dsimp only [It.next]; rw [q1, q2]; dsimp only; rw [e1, e2]
          exact stopped _ (.inr e2)
        | some e =>
          dsimp only [It.next]; rw [q1, q2]; dsimp only; rw [e1, e2]
          obtain ⟨v, ev, rv⟩ := rs.get e1
          obtain ⟨w, ew, rw'⟩ := rs2.get e2
          refine ⟨⟨vs, ws, v, w, s, s2, ev, ew⟩, fun x H'' y => ?_⟩
          obtain ⟨T, z, z', rfl, hT, rfl, fx, fy⟩ := y
          have t1 := fx vs s
          rw [ev] at t1
          cases t1
          have t2 := fy ws s2
          rw [ew] at t2
          cases t2
          exact ⟨Step.other hT, hr.other hT, .tup (SqT.of upd_same) (.cons (rv.mono (Step.other hT)) (.cons (rw'.mono (Step.other hT)) .nil))⟩
theorem di_zip {a b : Expr} {elts : List Expr} {kk : Nat} {tpos : Pos} {f g : En → Hh → R D} (hK : X.K = Γ.K) (hg : Gl X "zip") (hm : X.mg "zip" = none) (hs : star a = false) (hs2 : star b = false) (ha : DE Γ X W a f) (hb : DE Γ X W b g) :
    DI Γ X W (.Tuple elts kk tpos) (.Call (.Name "zip" p) [a, b] [] pos) (fun en h => bnd (f en h) fun x h1 => bnd (g en h1) fun y h2 => zipIt x y h2) := by
  obtain ⟨t, pt, k⟩ := ha.ex
  obtain ⟨u, pu, l⟩ := hb.ex
  refine ⟨_, pi_zip2 hg hm (pa_cons pt (pa_cons pu pa_nil (starEach_cons hs2)) (starEach_cons hs)) (starEach_cons hs) (starEach_any (by simp [hs2])), fun α h H en σ Q hr er p => k _ _ _ _ _ _ hr er (p.bnd fun d h1 α1 H1 v st1 hr1 r1 p1 => ?_)⟩
  refine l _ _ _ _ _ _ hr1 (er.mono st1) (p1.bnd fun y h2 α2 H2 yv st2 hr2 r2 p2 => ?_)
  obtain ⟨ds, e, p2⟩ := Pst.opt p2
  obtain ⟨es, e', p2⟩ := Pst.opt p2
  have r1' := r1.mono st2
  obtain ⟨a, vs, rfl, s, rs⟩ := hr2.items r1' e
  obtain ⟨b, ws, rfl, s', rs'⟩ := hr2.items r2 e'
  rw [hK]
  exact ⟨_, _, a, b, vs, ws, rfl, s, s', p2 _ _ _ Step.refl hr2 (itr_zip r1' r2)⟩
/-! ### targets -/
theorem dg_name {i : Nat} {x : Str} (hN : X.N.Nodup) (hi : X.N[i]? = some x) (hx : Loc X.env.scope x) (hf : X.fn x = true ∨ X.env.scope.names.lookup x = some .local) : DG Γ X (.Name x pos) [i] (fun d en h => .ok (en.set i (some d)) h) :=
  ⟨_, pg_name hN hi hx hf, fun α h H d v en σ Q hr er rd p => p _ _ _ Step.refl hr ⟨er.set i rd, Agr.set σ i _⟩⟩
theorem dgs_nil : DGs Γ X [] [] (fun ds en h => match ds with | [] => .ok en h | _ => .bad) := by
  refine ⟨_, pgs_nil, fun α h H ds vs en σ Q hr er rd p => ?_⟩
  cases rd with
  | nil => exact ⟨rfl, p _ _ _ Step.refl hr ⟨er, Agr.refl⟩⟩
  | cons _ _ => exact False.elim p
theorem assignEach_cons {e : Expr} {es : List Expr} {env : Env} (h : star e = false) : assignEach (e :: es) env = (false, assign e env) :: assignEach es env := by
  cases e <;> first | rfl | cases h
theorem dgs_cons {e : Expr} {es : List Expr} {sl sl' : List Nat} {f : D → En → Hh → R En} {g : List D → En → Hh → R En} (hs : star e = false) (he : DG Γ X e sl f) (hes : DGs Γ X es sl' g) :
    DGs Γ X (e :: es) (sl ++ sl') (fun ds en h => match ds with | d :: ds => bnd (f d en h) fun en1 h1 => g ds en1 h1 | [] => .bad) := by
  obtain ⟨t, pt, k⟩ := he.ex
  obtain ⟨u, pu, l⟩ := hes.ex
  refine ⟨_, pgs_cons pt pu (by rw [assignEach_cons hs]; rfl), fun α h H ds vs en σ Q hr er rd p => ?_⟩
  cases rd with
  | nil => exact False.elim p
  | cons r rs =>
    dsimp only at p
    rw [noExc_bnd] at p
    refine ⟨_, _, rfl, k _ _ _ _ _ _ _ _ hr er r (p.bnd fun en1 h1 α1 H1 σ1 st1 hr1 r1 p1 => ?_)⟩
    refine l _ _ _ _ _ _ _ _ hr1 r1.1 (rs.mono st1) ?_
    cases e : noExc (g _ en1 h1) with
    | ok en2 h2 =>
      rw [e] at p1
      exact fun α2 H2 σ2 st2 hr2 r2 => p1 _ _ _ st2 hr2 ⟨r2.1, r1.2.trans r2.2⟩
    | exc c x h2 => rw [e] at p1; exact p1
    | bad => rw [e] at p1; exact p1
theorem PG.or {tg : Expr} {t u : TG} (a : PG X tg t) (b : PG X tg u) : PG X tg (fun v σ H Q => t v σ H Q ∨ u v σ H Q) :=
  ⟨fun pins s σ H v w Q I r h => h.elim (a.run pins s σ H v w Q I r) (b.run pins s σ H v w Q I r)⟩
theorem assignEach_len {env : Env} : ∀ {es : List Expr}, (assignEach es env).length = es.length
  | [] => rfl
  | e :: es => by
    cases e <;> (show (assignEach es env).length + 1 = es.length + 1; rw [assignEach_len])
theorem assignEach_idx {env : Env} : ∀ {es : List Expr}, es.any star = false → (assignEach es env).findIdx? (·.1) = none
  | [], _ => rfl
  | e :: es, h => by
    rw [List.any_cons, Bool.or_eq_false_iff] at h
    rw [assignEach_cons h.1, List.findIdx?_cons]
    simp only [Bool.false_eq_true, if_false]
    rw [assignEach_idx h.2]
    rfl
theorem dg_tup {es : List Expr} {sl : List Nat} {kk : Nat} {g : List D → En → Hh → R En} (hK : X.K = Γ.K) (hc : X.calm = true) (hs : es.any star = false) (hx : ∀ ds en h, ds.length ≠ es.length → noExc (g ds en h) = .bad) (hes : DGs Γ X es sl g) :
    DG Γ X (.Tuple es kk pos) sl (fun d en h => match d with | .tup ds => g ds en h | x => optR (seqOf h x) fun ds => g ds en h) := by
  obtain ⟨u, pu, l⟩ := hes.ex
  refine ⟨_, PG.or (pg_tup (n := es.length) hc pu assignEach_len (assignEach_idx hs)) (pg_lst (n := es.length) hc pu assignEach_len (assignEach_idx hs)), fun α h H d v en σ Q hr er rd p => ?_⟩
  have key : Pst Γ (REn Γ sl σ) α H (noExc (optR (seqOf h d) fun ds => g ds en h)) Q (fun _ _ _ => False) → gLst X.K es.length u v σ H Q := fun p' => by
    rw [noExc_opt] at p'
    obtain ⟨ds, e, p'⟩ := Pst.opt p'
    obtain ⟨a, vs, rfl, s, rs⟩ := hr.seq rd e
    have hlen : ds.length = es.length := by
      by_cases c : ds.length = es.length
      · exact c
      · rw [hx ds en h c] at p'
        exact False.elim p'
    exact ⟨a, vs, rfl, by rw [hK]; exact s, by rw [← rs.length]; exact hlen, l _ _ _ _ _ _ _ _ hr er rs p'⟩
  cases rd with
  | @tup a vs ds s rs =>
    have p' : Pst Γ (REn Γ sl σ) α H (noExc (g ds en h)) Q (fun _ _ _ => False) := p
    have hlen : ds.length = es.length := by
      by_cases c : ds.length = es.length
      · exact c
      · rw [hx ds en h c] at p'
        exact False.elim p'
    exact .inl ⟨a, vs, rfl, by rw [hK]; exact s, by rw [← rs.length]; exact hlen, l _ _ _ _ _ _ _ _ hr er rs p'⟩
  | _ => exact .inr (key p)
theorem dg_sub {o i : Expr} {f g : En → Hh → R D} (ho : DE Γ X W o f) (hi : DE Γ X W i g)
    (ha : ∀ v, assign (.Subscript o i pos) X.env v = (do
      let ov ← holding [v] (eval o X.env)
      let iv ← holding [v, ov] (eval i X.env)
      standAt pos
      holding [v, ov, iv] (setItem ov iv v)
      release [v, ov, iv] [])) : DG Γ X (.Subscript o i pos) [] (fun d en h => bnd (f en h) fun x h1 => bnd (g en h1) fun y h2 => bnd (setAt x y d h2) fun _ h3 => .ok en h3) := by
  obtain ⟨t, pt, k⟩ := ho.ex
  obtain ⟨u, pu, l⟩ := hi.ex
  refine ⟨_, pg_sub pt pu set_list ha, fun α h H d v en σ Q hr er rd p => ?_⟩
  rw [noExc_bnd] at p
  refine k _ _ _ _ _ _ hr er (Pst.noExc (p.bnd fun x h1 α1 H1 xv st1 hr1 r1 p1 => ?_))
  rw [noExc_bnd] at p1
  refine l _ _ _ _ _ _ hr1 (er.mono st1) (Pst.noExc (p1.bnd fun y h2 α2 H2 yv st2 hr2 r2 p2 => ?_))
  have r1' := r1.mono st2
  cases r1' <;> first | exact False.elim p2 | skip
  rename_i n a han
  cases r2 <;> first | exact False.elim p2 | skip
  rename_i kk
  have p3 : Pst Γ (REn Γ [] σ) α2 H2 (noExc (bnd (optR (lstOf h2 n) fun ds => optR (L2.ixN ds.length kk) fun j => R.ok () (h2.set n (.lst (ds.set j d)))) fun _ h3 => .ok en h3)) Q (fun _ _ _ => False) := p2
  cases q1 : lstOf h2 n with
  | none => rw [q1] at p3; exact False.elim p3
  | some ds =>
    cases q2 : L2.ixN ds.length kk with
    | none => rw [q1, optR_some, q2] at p3; exact False.elim p3
    | some j =>
      rw [q1, optR_some, q2] at p3
      obtain ⟨vs, e, rs⟩ := hr2.lst han (lstOf_some q1)
      refine ⟨a, vs, kk, j, rfl, rfl, e, by rw [← rs.length]; exact q2, ?_⟩
      have st := Step.set (K := Γ.K) (vs' := vs.set j v) e (List.mem_of_getElem? han)
      exact p3 _ _ _ st (hr2.set han e (Reps.set ((rd.mono st1).mono st2) j rs)) ⟨((er.mono st1).mono st2).mono st, Agr.refl⟩
/-! ### calls -/
def spF (Γ : Wd) (fs : List Fn) (k i n : Nat) : Sp := fun vs H Q E => vs.length = n ∧ ∃ α h ds, HR Γ.K α h H ∧ Reps Γ.K α H ds vs ∧ Pst Γ (RV Γ) α H (callF fs k i ds h) Q E
theorem callF_len {fs : List Fn} {k i : Nat} {ds : List D} {h : Hh} {α : List Addr} {H : Hp} {Q : V → Hp → Prop} {E : XK} {f : Fn} (hf : fget fs i = some f) (p : Pst Γ (RV Γ) α H (callF fs k i ds h) Q E) : ds.length = f.ps.length := by
  cases k with
  | zero => exact False.elim p
  | succ k =>
    unfold callF at p
    rw [hf] at p
    dsimp only at p
    by_cases c : ds.length = f.ps.length
    · exact c
    · rw [if_neg c] at p; exact False.elim p
theorem de_call {fs : List Fn} {k i : Nat} {f : Fn} {a : Addr} {fd : FuncData} {e : Expr} {es : List Expr} {g : En → Hh → R (List D)} (hf : fget fs i = some f) (F : FnOk X.prog X.w X.K X.mg X.base (L2.CX X.prog X.w) k a fd f.ps (spF Γ fs k i f.ps.length)) (hr : Room k X.A) (hg : Gl X f.name)
    (hm : X.mg f.name = some (.ref a)) (hk : PySem.W.keepIn X.K (.ref a) = true) (hb : Binds X.K fd f.ps []) (tk : Takes X W) (hs : (e :: es).any star = false) (hdb : (f.name == ("__debug__" : Str)) = false) (hes : DA Γ X W (e :: es) g) :
    DE Γ X W (.Call (.Name f.name p) (e :: es) [] pos) (fun en h => bnd (g en h) fun ds h1 => callF fs k i ds h1) := by
  obtain ⟨t, pt, l⟩ := hes.ex
  rw [List.any_cons, Bool.or_eq_false_iff] at hs
  refine ⟨_, pe_callS F hr hg hm hk hb (fun σ => passAt tk σ) pt hdb (starEach_cons hs.1) (starEach_any hs.2), fun α h H en σ Q hr er p => l _ _ _ _ _ _ hr er (p.bnd fun ds h1 α1 H1 vs st1 hr1 r1 p1 => ?_)⟩
  exact ⟨by rw [← r1.length]; exact callF_len hf p1, α1, h1, ds, hr1, r1, p1⟩
/-- f() -/
theorem pe_callS0 {CX : CXT} {k : Nat} {f : Addr} {fd : FuncData} {ps : List Str} {sp : Sp} {E : L2.St → XK} {x : Str} (F : FnOk X.prog X.w X.K X.mg X.base CX k f fd ps sp) (hr : Room k X.A) (hg : Gl X x) (hm : X.mg x = some (.ref f)) (hk : PySem.W.keepIn X.K (.ref f) = true) (hb : Binds X.K fd ps [])
    (hx : ∀ σ, PassesAt CX X σ (E σ)) (hdb : (x == ("__debug__" : Str)) = false) : PE X (.Call (.Name x p) [] [] pos) (fun σ H Q => sp [] H Q (E σ)) :=
  ⟨fun pins s σ H Q I h => wpAny_Call_Name_kw (ld_glob I hg hm (PySem.W.callWith_K0 I.kIn hk (run_fnS (us := []) F hr hb (hx σ) I .nil h)) hdb)⟩
theorem de_call0 {fs : List Fn} {k i : Nat} {f : Fn} {a : Addr} {fd : FuncData} (hf : fget fs i = some f) (F : FnOk X.prog X.w X.K X.mg X.base (L2.CX X.prog X.w) k a fd f.ps (spF Γ fs k i f.ps.length)) (hr : Room k X.A) (hg : Gl X f.name)
    (hm : X.mg f.name = some (.ref a)) (hk : PySem.W.keepIn X.K (.ref a) = true) (hb : Binds X.K fd f.ps []) (tk : Takes X W) (hdb : (f.name == ("__debug__" : Str)) = false) :
    DE Γ X W (.Call (.Name f.name p) [] [] pos) (fun en h => bnd (.ok [] h) fun ds h1 => callF fs k i ds h1) := by
  refine ⟨_, pe_callS0 F hr hg hm hk hb (fun σ => passAt tk σ) hdb, fun α h H en σ Q hr er p => ?_⟩
  have p1 : Pst Γ (RV Γ) α H (callF fs k i [] h) Q (fun c d H' => W c d σ H') := p
  exact ⟨callF_len hf p1, α, h, [], hr, .nil, p1⟩
end
end PD

set_option Elab.async false
set_option linter.all false
set_option maxRecDepth 100000
set_option maxHeartbeats 1000000
namespace PD
open PySem PySem.Spec PyProof.Rows L2
section
variable {Γ : Wd} {X : Cx} {W : WX} {pos p : Pos}
/-! ### comprehensions -/
theorem wipe_get {σ : L2.St} {j : Nat} : ∀ {vs : List Nat}, j ∉ vs → (L2.wipe σ vs)[j]? = σ[j]?
  | [], _ => rfl
  | v :: vs, h => by
    unfold L2.wipe
    rw [List.getElem?_set_ne (fun e => h (by simp [e]))]
    exact wipe_get fun z => h (List.mem_cons_of_mem _ z)
theorem wipe_in {σ : L2.St} {j : Nat} : ∀ {vs : List Nat}, j ∈ vs → j < σ.length → (L2.wipe σ vs)[j]? = some none
  | v :: vs, h, hl => by
    unfold L2.wipe
    by_cases e : v = j
    · subst e
      rw [List.getElem?_set_self (by rw [wipe_length]; exact hl)]
    · rw [List.getElem?_set_ne e]
      exact wipe_in ((List.mem_cons.mp h).resolve_left fun z => e z.symm) hl
theorem wipe_agr {sl vs : List Nat} {σ σ2 : L2.St} (a : Agr sl (L2.wipe σ vs) σ2) (hs : ∀ j ∈ sl, j ∈ vs) : L2.wipe σ2 vs = L2.wipe σ vs := by
  have hl : σ2.length = σ.length := by rw [a.1, wipe_length]
  apply List.ext_getElem?
  intro j
  by_cases hj : j ∈ vs
  · by_cases hn : j < σ.length
    · rw [wipe_in hj hn, wipe_in hj (by rw [hl]; exact hn)]
    · rw [List.getElem?_eq_none (by rw [wipe_length]; omega), List.getElem?_eq_none (by rw [wipe_length]; omega)]
  · rw [wipe_get hj, a.2 j fun z => hj (hs j z)]
structure DTs (Γ : Wd) (X : Cx) (W : WX) (es : List Expr) (f : En → Hh → R Bool) : Prop where
  pt : PTs X es (tTD Γ W f)
theorem dts_nil : DTs Γ X W [] (fun _ h => .ok true h) := ⟨⟨fun pins s σ H Q I ⟨α, h, en, hr, er, p⟩ => pts_nil.run pins s σ H Q I (p _ _ _ Step.refl hr rfl)⟩⟩
theorem dts_one {c : Expr} {f : En → Hh → R Bool} (h : DT Γ X W c f) : DTs Γ X W [c] f := ⟨pts_one h.pt⟩
theorem de_comp {elt tg iter : Expr} {ifs : List Expr} {scope : Scope} {own : List (Str × Nat)} {sl : List Nat} {fi : En → Hh → R It} {fg : D → En → Hh → R En} {ft : En → Hh → R Bool} {fe : En → Hh → R D}
    (hc : X.calm = true) (hN : X.N.Nodup) (hi : DI Γ X W tg iter fi) (ok : BlkOk X.N X.env.scope scope own) (hsl : ∀ j ∈ sl, j ∈ own.map (·.2))
    (hg : ∀ (s : Shared) (H : Hp) (C : Addr) (cl : List (Str × Addr)) (fp : List Addr), DG Γ (X.blk s H scope (compEnvC scope cl C X.env) fp) tg sl fg)
    (ht : ∀ (s : Shared) (H : Hp) (C : Addr) (cl : List (Str × Addr)) (fp : List Addr), DTs Γ (X.blk s H scope (compEnvC scope cl C X.env) fp) (fun _ _ _ _ => False) ifs ft)
    (he : ∀ (s : Shared) (H : Hp) (C : Addr) (cl : List (Str × Addr)) (fp : List Addr), DE Γ (X.blk s H scope (compEnvC scope cl C X.env) fp) (fun _ _ _ _ => False) elt fe)
    (hs : ∀ x, foldedSetIterable iter X.env x = pure x) :
    ∃ t, (PE X (.ListComp elt [⟨tg, iter, ifs, 0⟩] scope pos) t ∧
      (∀ {i : Nat} {y : Str} {py spos : Pos}, X.N[i]? = some y → X.env.scope.names.lookup y = some .local → swapsWith (.ListComp elt [⟨tg, iter, ifs, 0⟩] scope pos) (some (.Name y py)) spos.line X.env = pure true →
        PS X (.Assign [.Name y py] (.ListComp elt [⟨tg, iter, ifs, 0⟩] scope pos) spos) (tAsg t (gName i)))) ∧
      ∀ α h H en σ Q, HR Γ.K α h H → ER Γ.K α H en σ → Pst Γ (RV Γ) α H (bnd (fi en h) fun I h1 => bnd (noExc (compLoop I (fun d h2 => bnd (fg d (wipeE en (own.map (·.2))) h2) fun en3 h3 => bnd (ft en3 h3) fun k h4 =>
        if k = true then bnd (fe en3 h4) fun y h5 => .ok (some y) h5 else .ok none h4) turns 0 [] h1)) fun ds h2 => .ok (.ref h2.length) (h2 ++ [.lst ds])) Q (fun c d H' => W c d σ H') → t σ H Q := by
  obtain ⟨ti, pi, ki⟩ := hi.ex
  refine ⟨_, ⟨pe_lc hc hN pi ok (fun s H C cl fp => (hg s H C cl fp).pg) (fun s H C cl fp => (ht s H C cl fp).pt) (fun s H C cl fp => (he s H C cl fp).pe) hs, fun hy hyl hsw => ps_setLc hc hN hy hyl hsw pi ok (fun s H C cl fp => (hg s H C cl fp).pg) (fun s H C cl fp => (ht s H C cl fp).pt) (fun s H C cl fp => (he s H C cl fp).pe) hs⟩, fun α h H en σ Q hr er p => ?_⟩
  refine ki _ _ _ _ _ _ hr er (p.bnd fun I h1 α1 H1 J st1 hr1 itr p1 => ?_)
  intro Dd hD
  generalize hbody : (fun (d : D) (h2 : Hh) => bnd (fg d (wipeE en (own.map (·.2))) h2) fun en3 h3 => bnd (ft en3 h3) fun k h4 => if k = true then bnd (fe en3 h4) fun y h5 => R.ok (some y) h5 else R.ok none h4) = body at p1
  refine ⟨fun i m H' => ∃ α' h' acc accV, Step Γ.K α1 H1 α' H' ∧ Dd ∉ α' ∧ H' Dd = some (.lst accV) ∧ HR Γ.K α' h' H' ∧ Reps Γ.K α' H' acc accV ∧
      Pst Γ (RV Γ) α1 H1 (bnd (noExc (compLoop I body m i acc h')) fun ds h2 => .ok (.ref h2.length) (h2 ++ [.lst ds])) Q (fun c d H' => W c d σ H'),
    ⟨turns, α1, h1, [], [], Step.other hD, hr1.fresh hD, upd_same, hr1.other hD, .nil, p1⟩, ?_⟩
  rintro i m H' ⟨α', h', acc, accV, st, nD, eD, hr', racc, pp⟩
  cases m with
  | zero => exact False.elim pp
  | succ m =>
    have hit := itr α' h' H' st.toExt hr' i
    unfold compLoop at pp
    cases e : I.next i h' with
    | none => rw [e] at pp; exact False.elim pp
    | some o =>
      rw [e] at hit pp
      cases o with
      | none =>
        refine .inl ⟨hit, ?_⟩
        refine pp (α' ++ [Dd]) H' _ ?_ (hr'.adopt eD nD racc) (rep_new hr')
        refine ⟨⟨?_, st.tup, st.ro⟩, fun a ha => ?_, st.frm⟩
        · obtain ⟨β, rfl⟩ := st.pre
          exact ⟨β ++ [Dd], by simp⟩
        · rcases List.mem_append.mp ha with q | q
          · exact st.new a q
          · rw [List.mem_singleton] at q
            subst q
            exact .inr hD
      | some d =>
        refine .inr ⟨hit.1, fun H'' => ∃ α' h' acc accV, Step Γ.K α1 H1 α' H'' ∧ Dd ∉ α' ∧ H'' Dd = some (.lst accV) ∧ HR Γ.K α' h' H'' ∧ Reps Γ.K α' H'' acc accV ∧
          Pst Γ (RV Γ) α1 H1 (bnd (noExc (compLoop I body m (i + 1) acc h')) fun ds h2 => .ok (.ref h2.length) (h2 ++ [.lst ds])) Q (fun c d H' => W c d σ H'), fun H'' hw => ⟨m, Nat.lt_succ_self m, hw⟩, fun x Hx hy => ?_⟩
        obtain ⟨sx, hrx, rx⟩ := hit.2 x Hx hy
        have stx : Step Γ.K α1 H1 α' Hx := st.trans sx
        have eDx : Hx Dd = some (.lst accV) := sx.frm Dd _ nD eD
        have raccx := racc.mono sx
        dsimp only at pp
        subst hbody
        dsimp only at pp
        rw [noExc_bnd, bnd_assoc, noExc_bnd, bnd_assoc] at pp
        -- the target
        refine ⟨α', h', d, wipeE en (own.map (·.2)), hrx, ((er.mono st1).mono stx).wipe _, rx, Pst.noExc' (Pst.bndAt stx pp fun en3 h3 α3 H3 σ3 st3 hr3 r3 p3 => ?_)⟩
        refine ⟨wipe_agr r3.2 hsl, ?_⟩
        have nD3 : Dd ∉ α3 := fun z => (st3.new Dd z).elim nD fun q => by rw [eDx] at q; cases q
        have eD3 : H3 Dd = some (.lst accV) := st3.frm Dd _ nD eDx
        have stB : Step Γ.K α1 H1 α3 H3 := stx.trans st3
        -- the test
        rw [noExc_bnd, bnd_assoc] at p3
        refine ⟨α3, h3, en3, hr3, r3.1, Pst.noExc (Pst.bndAt stB p3 fun k h4 α4 H4 kv st4 hr4 r4 p4 => ?_)⟩
        cases r4
        have nD4 : Dd ∉ α4 := fun z => (st4.new Dd z).elim nD3 fun q => by rw [eD3] at q; cases q
        have eD4 : H4 Dd = some (.lst accV) := st4.frm Dd _ nD3 eD3
        have stA : Step Γ.K α1 H1 α4 H4 := stB.trans st4
        cases k with
        | false =>
          simp only [Bool.false_eq_true, if_false] at p4 ⊢
          exact ⟨α4, h4, acc, accV, stA, nD4, eD4, hr4, (raccx.mono st3).mono st4, p4⟩
        | true =>
          simp only [if_true] at p4 ⊢
          rw [noExc_bnd, bnd_assoc] at p4
          refine ⟨α4, h4, en3, hr4, r3.1.mono st4, Pst.noExc (Pst.bndAt stA p4 fun y h5 α5 H5 yv st5 hr5 r5 p5 => ?_)⟩
          have nD5 : Dd ∉ α5 := fun z => (st5.new Dd z).elim nD4 fun q => by rw [eD4] at q; cases q
          have eD5 : H5 Dd = some (.lst accV) := st5.frm Dd _ nD4 eD4
          have racc5 := ((raccx.mono st3).mono st4).mono st5
          have p6 : Pst Γ (RV Γ) α1 H1 (bnd (noExc (if acc.length < sizeLine then compLoop I (fun (d : D) (h2 : Hh) => bnd (fg d (wipeE en (own.map (·.2))) h2) fun en3 h3 => bnd (ft en3 h3) fun k h4 => if k = true then bnd (fe en3 h4) fun y h5 => R.ok (some y) h5 else R.ok none h4) m (i + 1) (acc ++ [y]) h5 else .bad)) fun ds h2 => .ok (.ref h2.length) (h2 ++ [.lst ds])) Q (fun c d H' => W c d σ H') := p5
          by_cases c : acc.length < sizeLine
          · rw [if_pos c] at p6
            exact ⟨accV, eD5, by rw [← racc.length]; exact c, α5, h5, acc ++ [y], accV ++ [yv], (stA.trans st5).over hD eD5, nD5, upd_same, hr5.over eD5 nD5, (racc5.append (.cons r5 .nil)).monoE (ext_over eD5), p6⟩
          · rw [if_neg c] at p6
            exact False.elim p6
/-! ### statements -/
theorem dss_nil : DSs Γ X W [] (fun en h => .nx en h) := ⟨_, pss_nil, fun _ _ _ _ _ _ hr er p => p _ _ _ Step.refl hr er⟩
theorem thenS_post {α : List Addr} {H : Hp} {r : RS} {f : En → Hh → RS} {Dn : Ends} (p : PstS Γ α H (thenS r f) Dn W) {N : L2.St → Hp → Prop} (k : ∀ en h α' H' σ', Step Γ.K α H α' H' → HR Γ.K α' h H' → ER Γ.K α' H' en σ' → PstS Γ α' H' (f en h) Dn W → N σ' H') : PstS Γ α H r { Dn with nx := N } W := by
  cases r with
  | nx en h => exact fun α' H' σ' st hr er => k en h α' H' σ' st hr er (PstS.step st p)
  | rt d h => exact p
  | bk en h => exact p
  | ct en h => exact p
  | exc c x en h => exact p
  | bad => exact p
theorem dss_cons {st : Stmt} {rest : List Stmt} {f g : En → Hh → RS} (h1 : DS Γ X W st f) (h2 : DSs Γ X W rest g) : DSs Γ X W (st :: rest) (fun en h => thenS (f en h) g) := by
  obtain ⟨t, pt, k⟩ := h1.ex
  obtain ⟨u, pu, l⟩ := h2.ex
  refine ⟨_, pss_cons pt pu, fun α h H en σ Dn hr er p => k _ _ _ _ _ _ hr er (thenS_post p fun en1 h1 α1 H1 σ1 st1 hr1 er1 p1 => l _ _ _ _ _ _ hr1 er1 p1)⟩
theorem ds_expr {e : Expr} {f : En → Hh → R D} (hs : swapsWith e none pos.line X.env = pure false) (he : DE Γ X W e f) : DS Γ X W (.Expr e pos) (fun en h => bndS (f en h) en fun _ h1 => .nx en h1) := by
  obtain ⟨t, pt, k⟩ := he.ex
  exact ⟨_, ps_expr pt hs, fun α h H en σ Dn hr er p => k _ _ _ _ _ _ hr er (PstS.bnd p er fun d h1 α1 H1 v st1 hr1 r1 p1 => p1 _ _ _ Step.refl hr1 (er.mono st1))⟩
theorem ds_doc {x j pos'} : DS Γ X W (.Expr (.Constant (.str x) j pos') pos) (fun en h => .nx en h) := ⟨_, ps_doc, fun _ _ _ _ _ _ hr er p => p _ _ _ Step.refl hr er⟩
theorem ds_ret {e : Expr} {f : En → Hh → R D} (he : DE Γ X W e f) : DS Γ X W (.Return (some e) pos) (fun en h => bndS (f en h) en fun d h1 => .rt d h1) := by
  obtain ⟨t, pt, k⟩ := he.ex
  exact ⟨_, ps_ret pt, fun α h H en σ Dn hr er p => k _ _ _ _ _ _ hr er (PstS.bnd p er fun d h1 α1 H1 v st1 hr1 r1 p1 => p1 _ _ _ Step.refl hr1 r1)⟩
theorem ds_retN : DS Γ X W (.Return none pos) (fun _ h => .rt .non h) := ⟨_, ps_retN, fun _ _ _ _ _ _ hr er p => p _ _ _ Step.refl hr .non⟩
theorem ds_pass : DS Γ X W (.Pass pos) (fun en h => .nx en h) := ⟨_, ps_pass, fun _ _ _ _ _ _ hr er p => p _ _ _ Step.refl hr er⟩
theorem ds_break : DS Γ X W (.Break pos) (fun en h => .bk en h) := ⟨_, ps_break, fun _ _ _ _ _ _ hr er p => p _ _ _ Step.refl hr er⟩
theorem ds_cont : DS Γ X W (.Continue pos) (fun en h => .ct en h) := ⟨_, ps_continue, fun _ _ _ _ _ _ hr er p => p _ _ _ Step.refl hr er⟩
theorem ds_if {c : Expr} {a b : List Stmt} {w : En → Hh → R Bool} {f g : En → Hh → RS} (hc : DT Γ X W c w) (ha : DSs Γ X W a f) (hb : DSs Γ X W b g) : DS Γ X W (.If c a b pos) (fun en h => bndS (w en h) en fun k h1 => if k = true then f en h1 else g en h1) := by
  obtain ⟨z, pz, n⟩ := hc.ex
  obtain ⟨t, pt, k⟩ := ha.ex
  obtain ⟨u, pu, l⟩ := hb.ex
  refine ⟨_, ps_if pz pt pu, fun α h H en σ Dn hr er p => n _ _ _ _ _ _ hr er (PstS.bnd p er fun d h1 α1 H1 v st1 hr1 r1 p1 => ?_)⟩
  cases r1
  cases d with
  | true => rw [if_pos rfl] at p1 ⊢; exact k _ _ _ _ _ _ hr1 (er.mono st1) p1
  | false => rw [if_neg (by decide)] at p1 ⊢; exact l _ _ _ _ _ _ hr1 (er.mono st1) p1
theorem ds_asg {tg e : Expr} {sl : List Nat} {f : En → Hh → R D} {g : D → En → Hh → R En} (hs : swapsWithSole [tg] e pos.line X.env = pure false) (hw : swappedStores [tg] e X.env = pure none) (h1 : star tg = false) (he : DE Γ X W e f) (hg : DG Γ X tg sl g) :
    DS Γ X W (.Assign [tg] e pos) (fun en h => bndS (f en h) en fun d h1 => bndS (noExc (g d en h1)) en fun en2 h2 => .nx en2 h2) := by
  obtain ⟨t, pt, k⟩ := he.ex
  obtain ⟨u, pu, l⟩ := hg.ex
  refine ⟨_, ps_asg pt pu hs hw (by rw [assignEach_cons h1]; rfl), fun α h H en σ Dn hr er p => k _ _ _ _ _ _ hr er (PstS.bnd p er fun d h1 α1 H1 v st1 hr1 r1 p1 => ?_)⟩
  refine l _ _ _ _ _ _ _ _ hr1 (er.mono st1) r1 ?_
  cases e : noExc (g d en h1) with
  | ok en2 h2 => rw [e] at p1; exact fun α2 H2 σ2 st2 hr2 r2 => p1 _ _ _ st2 hr2 r2.1
  | exc c x h2 =>
    exfalso
    revert e
    cases g d en h1 <;> intro e <;> cases e
  | bad => rw [e] at p1; exact p1
theorem ds_set {i : Nat} {x : Str} {e : Expr} {pos' : Pos} {f : En → Hh → R D} (hN : X.N.Nodup) (hi : X.N[i]? = some x) (hx : Loc X.env.scope x) (hf : X.fn x = true ∨ X.env.scope.names.lookup x = some .local) (hs : swapsWith e (some (.Name x pos')) pos.line X.env = pure false) (he : DE Γ X W e f) :
    DS Γ X W (.Assign [.Name x pos'] e pos) (fun en h => bndS (f en h) en fun d h1 => .nx (en.set i (some d)) h1) := by
  obtain ⟨t, pt, k⟩ := he.ex
  exact ⟨_, ps_set hN hi hx pt hs hf, fun α h H en σ Dn hr er p => k _ _ _ _ _ _ hr er (PstS.bnd p er fun d h1 α1 H1 v st1 hr1 r1 p1 => p1 _ _ _ Step.refl hr1 ((er.mono st1).set i r1))⟩
/-- name = [..], the comprehension's own store -/
theorem ds_setLc {i : Nat} {x : Str} {e : Expr} {pos' : Pos} {f : En → Hh → R D} (h : ∃ t, PS X (.Assign [.Name x pos'] e pos) (tAsg t (gName i)) ∧ ∀ α h H en σ Q, HR Γ.K α h H → ER Γ.K α H en σ → Pst Γ (RV Γ) α H (f en h) Q (fun c d H' => W c d σ H') → t σ H Q) :
    DS Γ X W (.Assign [.Name x pos'] e pos) (fun en h => bndS (f en h) en fun d h1 => .nx (en.set i (some d)) h1) := by
  obtain ⟨t, pt, k⟩ := h
  exact ⟨_, pt, fun α h H en σ Dn hr er p => k _ _ _ _ _ _ hr er (PstS.bnd p er fun d h1 α1 H1 v st1 hr1 r1 p1 => p1 _ _ _ Step.refl hr1 ((er.mono st1).set i r1))⟩
theorem ds_par2 {i j : Nat} {x y : Str} {a b : Expr} {px py pt : Pos} {kt k2 pt2} {g : En → Hh → R (List D)} (hc : X.calm = true) (hN : X.N.Nodup) (hi : X.N[i]? = some x) (hj : X.N[j]? = some y) (hij : i ≠ j) (hx : X.env.scope.names.lookup x = some .local) (hy : X.env.scope.names.lookup y = some .local)
    (hw : swappedStores [.Tuple [.Name x px, .Name y py] kt pt] (.Tuple [a, b] k2 pt2) X.env = pure (some [x, y])) (ha : DA Γ X W [a, b] g) :
    DS Γ X W (.Assign [.Tuple [.Name x px, .Name y py] kt pt] (.Tuple [a, b] k2 pt2) pos) (fun en h => bndS (g en h) en fun ds h1 => match parSet [i, j] ds en with | some en' => .nx en' h1 | none => .bad) := by
  obtain ⟨t, pt, k⟩ := ha.ex
  refine ⟨_, ps_par hc hN hi hj hij hx hy pt hw rfl, fun α h H en σ Dn hr er p => k _ _ _ _ _ _ hr er (PstS.bnd p er fun ds h1 α1 H1 vs st1 hr1 r1 p1 => ?_)⟩
  cases r1 with
  | nil => exact False.elim p1
  | cons r1 rs =>
    cases rs with
    | nil => exact False.elim p1
    | cons r2 rs =>
      cases rs with
      | nil => exact ⟨_, _, rfl, p1 _ _ _ Step.refl hr1 (((er.mono st1).set i r1).set j r2)⟩
      | cons _ _ => exact False.elim p1
theorem ds_par3 {i j l : Nat} {x y z : Str} {a b c : Expr} {px py pz pt : Pos} {kt k2 pt2} {g : En → Hh → R (List D)} (hc : X.calm = true) (hN : X.N.Nodup) (hi : X.N[i]? = some x) (hj : X.N[j]? = some y) (hl : X.N[l]? = some z) (hij : i ≠ j) (hil : i ≠ l) (hjl : j ≠ l)
    (hx : X.env.scope.names.lookup x = some .local) (hy : X.env.scope.names.lookup y = some .local) (hz : X.env.scope.names.lookup z = some .local)
    (hw : swappedStores [.Tuple [.Name x px, .Name y py, .Name z pz] kt pt] (.Tuple [a, b, c] k2 pt2) X.env = pure (some [x, y, z])) (ha : DA Γ X W [a, b, c] g) :
    DS Γ X W (.Assign [.Tuple [.Name x px, .Name y py, .Name z pz] kt pt] (.Tuple [a, b, c] k2 pt2) pos) (fun en h => bndS (g en h) en fun ds h1 => match parSet [i, j, l] ds en with | some en' => .nx en' h1 | none => .bad) := by
  obtain ⟨t, pt, k⟩ := ha.ex
  refine ⟨_, ps_par3 hc hN hi hj hl hij hil hjl hx hy hz pt hw rfl, fun α h H en σ Dn hr er p => k _ _ _ _ _ _ hr er (PstS.bnd p er fun ds h1 α1 H1 vs st1 hr1 r1 p1 => ?_)⟩
  cases r1 with
  | nil => exact False.elim p1
  | cons r1 rs =>
    cases rs with
    | nil => exact False.elim p1
    | cons r2 rs =>
      cases rs with
      | nil => exact False.elim p1
      | cons r3 rs =>
        cases rs with
        | nil => exact ⟨_, _, _, rfl, p1 _ _ _ Step.refl hr1 ((((er.mono st1).set i r1).set j r2).set l r3)⟩
        | cons _ _ => exact False.elim p1
theorem loop_post {α : List Addr} {H : Hp} {r : RS} {g : En → Hh → RS} {Dn : Ends} {N : L2.St → Hp → Prop}
    (p : PstS Γ α H (match r with | .nx en' h' => g en' h' | .ct en' h' => g en' h' | .bk en' h' => .nx en' h' | r => r) Dn W)
    (k : ∀ en h α' H' σ', Step Γ.K α H α' H' → HR Γ.K α' h H' → ER Γ.K α' H' en σ' → PstS Γ α' H' (g en h) Dn W → N σ' H') : PstS Γ α H r { Dn with nx := N, ct := N, bk := Dn.nx } W := by
  cases r with
  | nx en h => exact fun α' H' σ' st hr er => k en h α' H' σ' st hr er (PstS.step st p)
  | ct en h => exact fun α' H' σ' st hr er => k en h α' H' σ' st hr er (PstS.step st p)
  | bk en h => exact p
  | rt d h => exact p
  | exc c x en h => exact p
  | bad => exact p
theorem ds_while {c : Expr} {b : List Stmt} {w : En → Hh → R Bool} {f : En → Hh → RS} (hp : PassesOwn (model X.prog X.w) X.A X.env X.xe) (hc : DT Γ X W c w) (hb : DSs Γ X W b f) : DS Γ X W (.While c b [] pos) (fun en h => whileLoop w f turns en h) := by
  obtain ⟨z, pz, n⟩ := hc.ex
  obtain ⟨t, pt, k⟩ := hb.ex
  refine ⟨_, ps_while hp pz pt, fun α h H en σ Dn hr er p => ?_⟩
  refine ⟨fun m σ' H' => ∃ α' h' en', HR Γ.K α' h' H' ∧ ER Γ.K α' H' en' σ' ∧ PstS Γ α' H' (whileLoop w f m en' h') Dn W, ⟨turns, α, h, en, hr, er, p⟩, ?_⟩
  rintro m σ' H' ⟨α', h', en', hr', er', p'⟩
  cases m with
  | zero => exact False.elim p'
  | succ m =>
    unfold whileLoop at p'
    refine n _ _ _ _ _ _ hr' er' (PstS.bnd p' er' fun d h1 α1 H1 v st1 hr1 r1 p1 => ?_)
    cases r1
    cases d with
    | true =>
      rw [if_pos rfl] at p1 ⊢
      refine ⟨fun σ2 H2 => ∃ α' h' en', HR Γ.K α' h' H2 ∧ ER Γ.K α' H2 en' σ2 ∧ PstS Γ α' H2 (whileLoop w f m en' h') Dn W, fun σ2 H2 q => ⟨m, Nat.lt_succ_self m, q⟩, ?_⟩
      exact k _ _ _ _ _ _ hr1 (er'.mono st1) (loop_post p1 fun en2 h2 α2 H2 σ2 st2 hr2 er2 p2 => ⟨α2, h2, en2, hr2, er2, p2⟩)
    | false =>
      rw [if_neg (by decide)] at p1 ⊢
      exact p1 _ _ _ Step.refl hr1 (er'.mono st1)
theorem ds_for {tg iter : Expr} {b : List Stmt} {sl : List Nat} {fi : En → Hh → R It} {g : D → En → Hh → R En} {f : En → Hh → RS} (hp : PassesOwn (model X.prog X.w) X.A X.env X.xe) (hc : X.calm = true) (hfs : ∀ x, foldedSetIterable iter X.env x = pure x) (hi : DI Γ X W tg iter fi) (hg : DG Γ X tg sl g) (hb : DSs Γ X W b f) :
    DS Γ X W (.For tg iter b [] pos) (fun en h => bndS (fi en h) en fun I h1 => forLoop I g f turns 0 en h1) := by
  obtain ⟨z, pz, n⟩ := hi.ex
  obtain ⟨u, pu, l⟩ := hg.ex
  obtain ⟨t, pt, k⟩ := hb.ex
  refine ⟨_, ps_for hp hc pz pu pt hfs, fun α h H en σ Dn hr er p => n _ _ _ _ _ _ hr er (PstS.bnd p er fun I h1 α1 H1 J st1 hr1 itr p1 => ?_)⟩
  refine ⟨fun i m σ' H' => ∃ α' h' en', Step Γ.K α1 H1 α' H' ∧ HR Γ.K α' h' H' ∧ ER Γ.K α' H' en' σ' ∧ PstS Γ α' H' (forLoop I g f m i en' h') Dn W, ⟨turns, α1, h1, en, Step.refl, hr1, er.mono st1, p1⟩, ?_⟩
  rintro i m σ' H' ⟨α', h', en', st', hr', er', p'⟩
  cases m with
  | zero => exact False.elim p'
  | succ m =>
    unfold forLoop at p'
    have hit := itr α' h' H' st'.toExt hr' i
    cases e : I.next i h' with
    | none => rw [e] at p'; exact False.elim p'
    | some o =>
      rw [e] at hit p'
      cases o with
      | none => exact .inl ⟨hit, p' _ _ _ Step.refl hr' er'⟩
      | some d =>
        refine .inr ⟨hit.1, fun σ2 H2 => ∃ α' h' en', Step Γ.K α1 H1 α' H2 ∧ HR Γ.K α' h' H2 ∧ ER Γ.K α' H2 en' σ2 ∧ PstS Γ α' H2 (forLoop I g f m (i + 1) en' h') Dn W, fun σ2 H2 q => ⟨m, Nat.lt_succ_self m, q⟩, fun x Hx hy => ?_⟩
        obtain ⟨sx, hrx, rx⟩ := hit.2 x Hx hy
        have px := PstS.step sx p'
        refine l _ _ _ _ _ _ _ _ hrx (er'.mono sx) rx ?_
        dsimp only at px
        cases q : noExc (g d en' h') with
        | ok en3 h3 =>
          rw [q] at px
          intro α3 H3 σ3 st3 hr3 r3
          exact k _ _ _ _ _ _ hr3 r3.1 (loop_post (PstS.step st3 px) fun en4 h4 α4 H4 σ4 st4 hr4 er4 p4 => ⟨α4, h4, en4, ((st'.trans sx).trans st3).trans st4, hr4, er4, p4⟩)
        | exc c x h2 =>
          exfalso
          revert q
          cases g d en' h' <;> intro q <;> cases q
        | bad => rw [q] at px; exact px
end
end PD

set_option Elab.async false
set_option linter.all false
set_option maxRecDepth 100000
set_option maxHeartbeats 1000000
namespace PD
open PySem PySem.Spec PyProof.Rows L2
section
variable {Γ : Wd} {X : Cx} {W : WX} {pos p : Pos}
/-! ### methods of lists -/
def meName : Me → Str
  | .append => "append"
  | .extend => "extend"
  | .insert => "insert"
  | .pop => "pop"
def meId : Me → String
  | .append => "list.append"
  | .extend => "list.extend"
  | .insert => "list.insert"
  | .pop => "list.pop"
def meR : Me → V → List V → Hp → VK → Prop
  | .append => rAppend
  | .extend => rExtend
  | .insert => fun x vs H Q => ∃ (l : Addr) (xs : List V) (i : Int) (y : V), x = .ref l ∧ vs = [.int i, y] ∧ H l = some (.lst xs) ∧ xs.length < sizeLine ∧ 0 ≤ i ∧ i < 2 ^ 63 ∧
    Q .non (upd H l (.lst (xs.take i.toNat ++ [y] ++ xs.drop i.toNat)))
  | .pop => fun x xs H Q => rPop x xs H Q ∨ rPopAt x xs H Q
theorem me_mt : ∀ m : Me, MtR X (meId m) (meR m)
  | .append => mt_append
  | .extend => mt_extend
  | .insert => mt_insert
  | .pop => MtR.or mt_pop mt_popAt
theorem me_slot : ∀ m : Me, Slot "list" (meName m) (meId m)
  | .append => PySem.F.slot_list_append
  | .extend => PySem.F.slot_list_extend
  | .insert => PySem.F.slot_list_insert
  | .pop => PySem.F.slot_list_pop
theorem me_ty : ∀ m : Me, typeOf (.builtin (meId m)) = pure (.type "method_descriptor")
  | .append => PySem.F.type_list_append
  | .extend => PySem.F.type_list_extend
  | .insert => PySem.F.type_list_insert
  | .pop => PySem.F.type_list_pop
theorem Reps.erase {K : PySem.W.Frag} {α : List Addr} {H : Hp} : ∀ {ds : List D} {vs : List V} (i : Nat), Reps K α H ds vs → Reps K α H (ds.eraseIdx i) (vs.eraseIdx i)
  | _, _, _, .nil => .nil
  | _, _, 0, .cons _ t => t
  | _, _, i + 1, .cons r t => .cons r (Reps.erase i t)
theorem Reps.dropLast {K : PySem.W.Frag} {α : List Addr} {H : Hp} : ∀ {ds : List D} {vs : List V}, Reps K α H ds vs → Reps K α H ds.dropLast vs.dropLast
  | _, _, .nil => .nil
  | _, _, .cons _ .nil => .nil
  | _, _, .cons r (.cons q t) => .cons r (Reps.dropLast (.cons q t))
theorem me_post {m : Me} {α : List Addr} {h : Hh} {H : Hp} {dx : D} {x : V} {ds : List D} {vs : List V} {Q : VK} {E : XK} (hr : HR Γ.K α h H) (rx : Rep Γ.K α H dx x) (rs : Reps Γ.K α H ds vs) (p : Pst Γ (RV Γ) α H (metOp m dx ds h) Q E) : meR m x vs H Q := by
  cases rx <;> first | (cases m <;> exact False.elim p) | skip
  rename_i n a ha
  have hm : a ∈ α := List.mem_of_getElem? ha
  cases m with
  | append =>
    cases rs with
    | nil => exact False.elim p
    | cons r1 rs =>
      cases rs with
      | cons _ _ => exact False.elim p
      | nil =>
        obtain ⟨xs, q1, p⟩ := Pst.opt p
        by_cases c : xs.length < sizeLine
        · rw [if_pos c] at p
          obtain ⟨ws, e1, w1⟩ := hr.lst ha (lstOf_some q1)
          exact ⟨_, _, _, rfl, rfl, e1, by rw [← w1.length]; exact c, p _ _ _ (Step.set e1 hm) (hr.set ha e1 (w1.append (.cons r1 .nil))) .non⟩
        · rw [if_neg c] at p; exact False.elim p
  | extend =>
    cases rs with
    | nil => exact False.elim p
    | cons r1 rs =>
      cases rs with
      | cons _ _ => cases r1 <;> exact False.elim p
      | nil =>
        cases r1 <;> first | exact False.elim p | skip
        rename_i n2 a2 ha2
        obtain ⟨xs, q1, p⟩ := Pst.opt p
        obtain ⟨zs, q2, p⟩ := Pst.opt p
        by_cases c : xs.length + zs.length ≤ sizeLine
        · rw [if_pos c] at p
          obtain ⟨ws, e1, w1⟩ := hr.lst ha (lstOf_some q1)
          obtain ⟨us, e2, w2⟩ := hr.lst ha2 (lstOf_some q2)
          exact ⟨_, _, _, _, rfl, rfl, e1, e2, by rw [← w1.length, ← w2.length]; exact c, p _ _ _ (Step.set e1 hm) (hr.set ha e1 (w1.append w2)) .non⟩
        · rw [if_neg c] at p; exact False.elim p
  | insert =>
    cases rs with
    | nil => exact False.elim p
    | cons r1 rs =>
      cases rs with
      | nil => cases r1 <;> exact False.elim p
      | cons r2 rs =>
        cases rs with
        | cons _ _ => cases r1 <;> exact False.elim p
        | nil =>
          cases r1 <;> first | exact False.elim p | skip
          rename_i i
          obtain ⟨xs, q1, p⟩ := Pst.opt p
          by_cases c : xs.length < sizeLine ∧ 0 ≤ i ∧ i < 2 ^ 63
          · rw [if_pos c] at p
            obtain ⟨ws, e1, w1⟩ := hr.lst ha (lstOf_some q1)
            exact ⟨_, _, _, _, rfl, rfl, e1, by rw [← w1.length]; exact c.1, c.2.1, c.2.2, p _ _ _ (Step.set e1 hm) (hr.set ha e1 (((w1.take _).append (.cons r2 .nil)).append (w1.drop _))) .non⟩
          · rw [if_neg c] at p; exact False.elim p
  | pop =>
    cases rs with
    | nil =>
      obtain ⟨xs, q1, p⟩ := Pst.opt p
      obtain ⟨y, q2, p⟩ := Pst.opt p
      obtain ⟨ws, e1, w1⟩ := hr.lst ha (lstOf_some q1)
      obtain ⟨yv, q3, ry⟩ := w1.get q2
      exact .inl ⟨_, _, _, rfl, rfl, e1, by rw [← w1.length]; exact q3, p _ _ _ (Step.set e1 hm) (hr.set ha e1 w1.dropLast) (ry.mono (Step.set e1 hm))⟩
    | cons r1 rs =>
      cases rs with
      | cons _ _ => cases r1 <;> exact False.elim p
      | nil =>
        cases r1 <;> first | exact False.elim p | skip
        rename_i i
        obtain ⟨xs, q1, p⟩ := Pst.opt p
        by_cases c : -(2 ^ 63) ≤ i ∧ i < 2 ^ 63
        · rw [if_pos c] at p
          obtain ⟨k, q2, p⟩ := Pst.opt p
          obtain ⟨y, q3, p⟩ := Pst.opt p
          obtain ⟨ws, e1, w1⟩ := hr.lst ha (lstOf_some q1)
          obtain ⟨yv, q4, ry⟩ := w1.get q3
          exact .inr ⟨_, _, _, _, _, rfl, rfl, e1, c.1, c.2, by rw [← w1.length]; exact q2, q4, p _ _ _ (Step.set e1 hm) (hr.set ha e1 (w1.erase _)) (ry.mono (Step.set e1 hm))⟩
        · rw [if_neg c] at p; exact False.elim p
theorem me_list {α : List Addr} {h : Hh} {H : Hp} {dx : D} {x : V} {xs : List D} (hK : X.K = Γ.K) (hr : HR Γ.K α h H) (rx : Rep Γ.K α H dx x) (e : refOf h dx = some xs) : tyV X.K "list" x H := by
  cases rx <;> first | (cases e; done) | skip
  rename_i n a ha
  obtain ⟨ws, e1, w1⟩ := hr.lst ha (lstOf_some e)
  exact .inl ⟨rfl, _, SqL.of e1⟩
theorem de_met0 {m : Me} {o : Expr} {f : En → Hh → R D} {apos cpos : Pos} (hK : X.K = Γ.K) (hb : attributeBase o (meName m) X.env (eval o X.env) = eval o X.env) (hl : (apos.endLine == cpos.line) = true) (ho : DE Γ X W o f) :
    DE Γ X W (.Call (.Attribute o (meName m) apos) [] [] cpos) (fun en h => bnd (f en h) fun x h1 => optR (refOf h1 x) fun _ => bnd (.ok [] h1) fun ds h2 => metOp m x ds h2) := by
  obtain ⟨t, pt, k⟩ := ho.ex
  refine ⟨_, pe_bm0 PySem.F.plainAttrs_list (me_slot m) (me_ty m) (me_mt m) pt hb hl, fun α h H en σ Q hr er p => k _ _ _ _ _ _ hr er (p.bnd fun d h1 α1 H1 v st1 hr1 r1 p1 => ?_)⟩
  obtain ⟨xs, e, p1⟩ := Pst.opt p1
  exact ⟨me_list hK hr1 r1 e, me_post hr1 r1 .nil p1⟩
theorem de_met {m : Me} {o e : Expr} {es : List Expr} {f : En → Hh → R D} {g : En → Hh → R (List D)} {apos cpos : Pos} (hK : X.K = Γ.K) (hb : attributeBase o (meName m) X.env (eval o X.env) = eval o X.env) (hl : (apos.endLine == cpos.line) = true) (hs : (e :: es).any star = false) (hn : (e :: es).length < 30)
    (ho : DE Γ X W o f) (ha : DA Γ X W (e :: es) g) : DE Γ X W (.Call (.Attribute o (meName m) apos) (e :: es) [] cpos) (fun en h => bnd (f en h) fun x h1 => optR (refOf h1 x) fun _ => bnd (g en h1) fun ds h2 => metOp m x ds h2) := by
  obtain ⟨t, pt, k⟩ := ho.ex
  obtain ⟨u, pu, l⟩ := ha.ex
  have hs' := hs
  rw [List.any_cons, Bool.or_eq_false_iff] at hs'
  have few : ((backTo cpos (starEach (e :: es) X.env)).all (fun x => !x.1) && (backToKw cpos (keywordEach [] X.env)).all (fun x => x.1.isSome) && decide ((e :: es).length + ([] : List Keyword).length + (if ([] : List Keyword).isEmpty then 0 else 1) < 30)) = true := by
    have h1 : (backTo cpos (starEach (e :: es) X.env)).all (fun x => !x.1) = true := by
      have := starEach_any (pos := cpos) (env := X.env) hs
      rw [List.any_eq_false] at this
      rw [List.all_eq_true]
      exact fun x hx => by
        have := this x hx
        simpa using this
    rw [h1]
    show (true && true && decide ((e :: es).length + 0 + 0 < 30)) = true
    simpa using hn
  refine ⟨_, pe_bm PySem.F.plainAttrs_list (me_slot m) (me_ty m) (me_mt m) pt pu hb few hl (starEach_cons hs'.1) (starEach_any hs'.2), fun α h H en σ Q hr er p => k _ _ _ _ _ _ hr er (p.bnd fun d h1 α1 H1 v st1 hr1 r1 p1 => ?_)⟩
  obtain ⟨xs, ee, p1⟩ := Pst.opt p1
  exact ⟨me_list hK hr1 r1 ee, l _ _ _ _ _ _ hr1 (er.mono st1) (p1.bnd fun ds h2 α2 H2 vs st2 hr2 r2 p2 => me_post hr2 (r1.mono st2) r2 p2)⟩
/-! ### a range that goes down -/
theorem di_rng3 {tg a b c : Expr} {g : En → Hh → R (List D)} (hg : Gl X "range") (hm : X.mg "range" = none) (hs : [a, b, c].any star = false) (ha : DA Γ X W [a, b, c] g) : DI Γ X W tg (.Call (.Name "range" p) [a, b, c] [] pos) (fun en h => bnd (g en h) rngIt3) := by
  obtain ⟨t, pt, k⟩ := ha.ex
  rw [List.any_cons, Bool.or_eq_false_iff] at hs
  refine ⟨_, pi_range3 hg hm pt (starEach_cons hs.1) (starEach_any hs.2), fun α h H en σ Q hr er p => k _ _ _ _ _ _ hr er (p.bnd fun ds h1 α1 H1 vs st1 hr1 r1 p1 => ?_)⟩
  cases r1 with
  | nil => exact False.elim p1
  | cons r1 rs =>
    cases rs with
    | nil => cases r1 <;> exact False.elim p1
    | cons r2 rs =>
      cases rs with
      | nil => cases r1 <;> cases r2 <;> exact False.elim p1
      | cons r3 rs =>
        cases rs with
        | cons _ _ => cases r1 <;> cases r2 <;> cases r3 <;> exact False.elim p1
        | nil =>
          cases r1 <;> first | exact False.elim p1 | skip
          cases r2 <;> first | exact False.elim p1 | skip
          cases r3 <;> first | exact False.elim p1 | skip
          rename_i lo hi st
          simp only [rngIt3] at p1
          by_cases cc : -(2 ^ 62) ≤ lo ∧ lo < 2 ^ 62 ∧ -(2 ^ 62) ≤ hi ∧ hi < 2 ^ 62 ∧ st = -1
          · rw [if_pos cc] at p1
            obtain ⟨c1, c2, c3, c4, rfl⟩ := cc
            refine ⟨_, _, _, _, rfl, RgC.neg c1 c2 c3 c4, p1 _ _ _ Step.refl hr1 ?_⟩
            intro α' h' H' st' hr' i
            show match (if i < (lo - hi).toNat then some (some (D.int (lo + i * -1))) else some none) with | none => True | some none => _ | some (some d) => _
            by_cases hi' : i < (lo - hi).toNat
            · rw [if_pos hi']
              refine ⟨hi', fun x H'' y => ?_⟩
              obtain ⟨rfl, rfl⟩ := y
              exact ⟨Step.refl, hr', .int _⟩
            · rw [if_neg hi']
              exact Nat.le_of_not_lt hi'
          · rw [if_neg cc] at p1; exact False.elim p1
/-! ### x += e -/
def augX (i : Nat) (op : Operator) (f : En → Hh → R D) (en : En) (h : Hh) : RS := match getE en i with
  | some x => bndS (f en h) en fun y h1 => match augOp op x y with
    | some z => .nx (en.set i (some z)) h1
    | none => .bad
  | none => .bad
theorem ds_augI {i : Nat} {x : Str} {e : Expr} {op : Operator} {pos' : Pos} {f : En → Hh → R D} (g : Int → Int → Int) (ho : PIp X op (ipI g)) (hh : ∀ dx dy z, augOp op dx dy = some z → ∃ a b, dx = .int a ∧ dy = .int b ∧ z = .int (g a b)) (hN : X.N.Nodup) (hi : X.N[i]? = some x) (hx : Loc X.env.scope x) (hf : X.fn x = true ∨ X.env.scope.names.lookup x = some .local) (he : DE Γ X W e f) :
    DS Γ X W (.AugAssign (.Name x pos') op e pos) (augX i op f) := by
  obtain ⟨t, pt, k⟩ := he.ex
  refine ⟨_, ps_aug hN hi hx pt ho hf, fun α h H en σ Dn hr er p => ?_⟩
  unfold augX at p
  cases q : getE en i with
  | none => rw [q] at p; exact False.elim p
  | some d =>
    rw [q] at p
    obtain ⟨v, e1, rv⟩ := er.get i d (getE_some q)
    refine ⟨v, e1, k _ _ _ _ _ _ hr er (PstS.bnd p er fun y h1 α1 H1 yv st1 hr1 r1 p1 => ?_)⟩
    cases q2 : augOp op d y with
    | none => rw [q2] at p1; exact False.elim p1
    | some z =>
      rw [q2] at p1
      obtain ⟨a, b, rfl, rfl, rfl⟩ := hh _ _ _ q2
      cases rv
      cases r1
      exact ⟨_, _, rfl, rfl, p1 _ _ _ Step.refl hr1 ((er.mono st1).set i (.int _))⟩
theorem aug_add (dx dy z : D) (h : augOp .Add dx dy = some z) : ∃ a b, dx = .int a ∧ dy = .int b ∧ z = .int (a + b) := by
  cases dx <;> cases dy <;> first | (cases h; done) | skip
  cases h
  exact ⟨_, _, rfl, rfl, rfl⟩
theorem aug_sub (dx dy z : D) (h : augOp .Sub dx dy = some z) : ∃ a b, dx = .int a ∧ dy = .int b ∧ z = .int (a - b) := by
  cases dx <;> cases dy <;> first | (cases h; done) | skip
  cases h
  exact ⟨_, _, rfl, rfl, rfl⟩
theorem ds_aug {i : Nat} {x : Str} {e : Expr} {op : Operator} {pos' : Pos} {f : En → Hh → R D} (hop : op = .Add ∨ op = .Sub) (hN : X.N.Nodup) (hi : X.N[i]? = some x) (hx : Loc X.env.scope x) (hf : X.fn x = true ∨ X.env.scope.names.lookup x = some .local) (he : DE Γ X W e f) :
    DS Γ X W (.AugAssign (.Name x pos') op e pos) (augX i op f) := by
  rcases hop with rfl | rfl
  · exact ds_augI _ ip_add aug_add hN hi hx hf he
  · exact ds_augI _ ip_sub aug_sub hN hi hx hf he
/-! ### starred displays -/
theorem da_star {e : Expr} {es : List Expr} {sp : Pos} {f : En → Hh → R D} {g : En → Hh → R (List D)} (hK : X.K = Γ.K) (he : DE Γ X W e f) (hes : DA Γ X W es g) :
    DA Γ X W (.Starred e sp :: es) (fun en h => bnd (f en h) fun d h1 => optR (itemsOf h1 d) fun xs => bnd (g en h1) fun ds h2 => .ok (xs ++ ds) h2) := by
  obtain ⟨t, pt, k⟩ := he.ex
  obtain ⟨u, pu, l⟩ := hes.ex
  refine ⟨_, StX.pa_star pt pu rfl, fun α h H en σ Q hr er p => k _ _ _ _ _ _ hr er (p.bnd fun d h1 α1 H1 v st1 hr1 r1 p1 => ?_)⟩
  obtain ⟨xs, e1, p1⟩ := Pst.opt p1
  have key : ∃ a ws, v = V.ref a ∧ (SqT X.K H1 a ws ∨ SqL X.K H1 a ws) ∧ Reps Γ.K α1 H1 xs ws := by
    rw [hK]
    cases r1 with
    | @tup a vs ds s rs => cases e1; exact ⟨_, _, rfl, .inl s, rs⟩
    | @ref n a ha =>
      obtain ⟨a', vs, e2, s, rs⟩ := hr1.seq (.ref ha) e1
      exact ⟨a', vs, e2, .inr s, rs⟩
    | @scr ns a hs =>
      obtain ⟨a', vs, e2, s, rs⟩ := hr1.seq (.scr hs) e1
      exact ⟨a', vs, e2, .inr s, rs⟩
    | _ => cases e1
  obtain ⟨a, ws, rfl, hw, rw_⟩ := key
  exact ⟨a, ws, rfl, hw, l _ _ _ _ _ _ hr1 (er.mono st1) (p1.bnd fun ds h2 α2 H2 vs st2 hr2 r2 p2 => p2 _ _ _ Step.refl hr2 ((rw_.mono st2).append r2))⟩
/-! ### isinstance(e, (T, ..)) -/
theorem pa_tys {ts : List Ty} {p2 : Pos} (hg : ∀ t ∈ ts, Gl X (Str.ofString (tyName t))) (hm : ∀ t ∈ ts, X.mg (Str.ofString (tyName t)) = none) : PA X (ts.map fun t => .Name (Str.ofString (tyName t)) p2) (fun _ H Q => Q (ts.map fun t => V.ty (tyName t)) H) := by
  induction ts with
  | nil => exact pa_nil
  | cons t ts ih =>
    have pty : PE X (.Name (Str.ofString (tyName t)) p2) (tC (.ty (tyName t))) := by
      have h1 := hg t (List.mem_cons_self ..)
      have h2 := hm t (List.mem_cons_self ..)
      cases t <;> exact pe_bltn h1 h2 (by decide +kernel) rfl (by decide) (by decide)
    exact pa_cons pty (ih (fun t ht => hg t (List.mem_cons_of_mem _ ht)) (fun t ht => hm t (List.mem_cons_of_mem _ ht))) rfl
theorem kit_any {K : PySem.W.Frag} (k : Kd) : ∀ ts : List Ty, PySem.W.kitAny K (.type (kdName k)) (ts.map fun t => Value.type (tyName t)) = some (ts.any fun t => isK t k)
  | [] => kitAny_nil
  | t :: ts => by
    have ih := kit_any (K := K) k ts
    refine kitAny_cons (b := isK t k) (kit_ty (kit_kd t k)) (fun hb => ?_) fun hb => ?_
    · rw [ih, List.any_cons, hb, Bool.false_or]
    · rw [List.any_cons, hb, Bool.true_or]
theorem pair_tys : ∀ ts : List Ty, Paired ClsV (ts.map fun t => V.ty (tyName t)) (ts.map fun t => Value.type (tyName t))
  | [] => .nil
  | t :: ts => .cons (.ty _) (pair_tys ts)
theorem de_isis {ts : List Ty} {es : List Expr} {e : Expr} {kk : Nat} {p2 : Pos} {f : En → Hh → R D} (hK : X.K = Γ.K) (hg : Gl X "isinstance") (hm : X.mg "isinstance" = none) (hes : PA X es (fun _ H Q => Q (ts.map fun t => V.ty (tyName t)) H)) (hl : ts.length ≤ 30) (hs : star e = false) (he : DE Γ X W e f) :
    DE Γ X W (.Call (.Name "isinstance" p) [e, .Tuple es kk p2] [] pos) (fun en h => bnd (f en h) fun x h1 => .ok (.bl (ts.any fun t => isTy t x)) h1) := by
  obtain ⟨z, pz, k⟩ := he.ex
  refine ⟨_, pe_callB call_isiT hg hm (by decide +kernel) (pa_cons pz (pa_cons (pe_tup hes) pa_nil rfl) (starEach_cons hs)) (by decide) (by decide) (starEach_cons hs) rfl, fun α h H en σ Q hr er p => k _ _ _ _ _ _ hr er (p.bnd fun d h1 α1 H1 v st1 hr1 r1 p1 => ?_)⟩
  refine ⟨by rw [List.length_map, sizeLine_eq]; omega, fun q hq => ?_⟩
  have hr2 := hr1.other (o := .tup (ts.map fun t => V.ty (tyName t))) hq
  have r2 := r1.mono (Step.other (o := .tup (ts.map fun t => V.ty (tyName t))) hq)
  have ty := rep_ty hr2 r2 (hr2.there r2)
  exact ⟨v, q, _, .type (kdName (kd d)), _, (ts.any fun t => isTy t d), rfl, upd_same, pair_tys ts, by rw [hK]; exact ty, kit_any (kd d) ts, p1 _ _ _ (Step.other hq) hr2 (.bl _)⟩
end
end PD

set_option Elab.async false
set_option linter.all false
set_option maxRecDepth 100000
set_option maxHeartbeats 2000000
namespace PD
open PySem PySem.Spec PyProof.Rows L2
section
variable {Γ : Wd} {X : Cx} {W : WX} {pos p : Pos}
/-! ### comprehensions with two loops -/
theorem wipe_agr1 {sl vs : List Nat} {σ σ2 : L2.St} (a : Agr sl (L2.wipe σ vs) σ2) (hs : ∀ j ∈ sl, j ∈ vs) : L2.wipe σ2 vs = L2.wipe σ vs := wipe_agr a hs
abbrev hd2 (fg : D → En → Hh → R En) (fi1 : En → Hh → R It) (own : List Nat) (en : En) : D → Hh → R (En × It) := fun d h2 => bnd (fg d (wipeE en own) h2) fun en3 h3 => bnd (fi1 en3 h3) fun J h4 => .ok (en3, J) h4
abbrev bd2 (fg1 : D → En → Hh → R En) (ft : En → Hh → R Bool) (fe : En → Hh → R D) (own1 : List Nat) : En → D → Hh → R (Option D) := fun en3 d h2 => bnd (fg1 d (wipeE en3 own1) h2) fun en4 h4 => bnd (ft en4 h4) fun k h5 =>
      if k = true then bnd (fe en4 h5) fun y h6 => .ok (some y) h6 else .ok none h5
theorem de_comp2 {elt tg iter tg1 iter1 : Expr} {ifs1 : List Expr} {scope : Scope} {own : List (Str × Nat)} {own1 sl sl1 : List Nat} {fi fi1 : En → Hh → R It} {fg fg1 : D → En → Hh → R En} {ft : En → Hh → R Bool} {fe : En → Hh → R D}
    (hc : X.calm = true) (hN : X.N.Nodup) (hi : DI Γ X W tg iter fi) (ok : BlkOk X.N X.env.scope scope own) (hsl : ∀ j ∈ sl, j ∈ own.map (·.2)) (hsl1 : ∀ j ∈ sl1, j ∈ own1) (hv : ∀ j ∈ own1, j ∈ own.map (·.2))
    (hg : ∀ (s : Shared) (H : Hp) (C : Addr) (cl : List (Str × Addr)) (fp : List Addr), DG Γ (X.blk s H scope (compEnvC scope cl C X.env) fp) tg sl fg)
    (hi1 : ∀ (s : Shared) (H : Hp) (C : Addr) (cl : List (Str × Addr)) (fp : List Addr), DI Γ (X.blk s H scope (compEnvC scope cl C X.env) fp) (fun _ _ _ _ => False) tg1 iter1 fi1)
    (hg1 : ∀ (s : Shared) (H : Hp) (C : Addr) (cl : List (Str × Addr)) (fp : List Addr), DG Γ (X.blk s H scope (compEnvC scope cl C X.env) fp) tg1 sl1 fg1)
    (ht : ∀ (s : Shared) (H : Hp) (C : Addr) (cl : List (Str × Addr)) (fp : List Addr), DTs Γ (X.blk s H scope (compEnvC scope cl C X.env) fp) (fun _ _ _ _ => False) ifs1 ft)
    (he : ∀ (s : Shared) (H : Hp) (C : Addr) (cl : List (Str × Addr)) (fp : List Addr), DE Γ (X.blk s H scope (compEnvC scope cl C X.env) fp) (fun _ _ _ _ => False) elt fe)
    (hs : ∀ x, foldedSetIterable iter X.env x = pure x) (hs1 : ∀ env x, foldedSetIterable iter1 env x = pure x) :
    ∃ t, (PE X (.ListComp elt [⟨tg, iter, [], 0⟩, ⟨tg1, iter1, ifs1, 0⟩] scope pos) t ∧
      (∀ {i : Nat} {y : Str} {py spos : Pos}, X.N[i]? = some y → X.env.scope.names.lookup y = some .local → swapsWith (.ListComp elt [⟨tg, iter, [], 0⟩, ⟨tg1, iter1, ifs1, 0⟩] scope pos) (some (.Name y py)) spos.line X.env = pure true →
        PS X (.Assign [.Name y py] (.ListComp elt [⟨tg, iter, [], 0⟩, ⟨tg1, iter1, ifs1, 0⟩] scope pos) spos) (tAsg t (gName i)))) ∧
      ∀ α h H en σ Q, HR Γ.K α h H → ER Γ.K α H en σ → Pst Γ (RV Γ) α H (bnd (fi en h) fun I h1 => bnd (noExc (comp2Loop I (hd2 fg fi1 (own.map (·.2)) en) (bd2 fg1 ft fe own1) turns 0 [] h1)) fun ds h2 => R.ok (D.ref h2.length) (h2 ++ [O.lst ds])) Q (fun c d H' => W c d σ H') → t σ H Q := by
  obtain ⟨ti, pi, ki⟩ := hi.ex
  have htt : ∀ (s : Shared) (H : Hp) (C : Addr) (cl : List (Str × Addr)) (fp : List Addr), PTs (X.blk s H scope (compEnvC scope cl C X.env) fp) [] (tTD Γ (fun _ _ _ _ => False) fun _ h => .ok true h) := fun s H C cl fp => dts_nil.pt
  refine ⟨_, ⟨pe_lc2 hc hN pi ok hv (fun s H C cl fp => (hg s H C cl fp).pg) htt (fun s H C cl fp => (hi1 s H C cl fp).pi) (fun s H C cl fp => (hg1 s H C cl fp).pg) (fun s H C cl fp => (ht s H C cl fp).pt) (fun s H C cl fp => (he s H C cl fp).pe) hs hs1,
    fun hy hyl hsw => ps_setLc2 hc hN hy hyl hsw pi ok hv (fun s H C cl fp => (hg s H C cl fp).pg) htt (fun s H C cl fp => (hi1 s H C cl fp).pi) (fun s H C cl fp => (hg1 s H C cl fp).pg) (fun s H C cl fp => (ht s H C cl fp).pt) (fun s H C cl fp => (he s H C cl fp).pe) hs hs1⟩, fun α h H en σ Q hr er p => ?_⟩
  refine ki _ _ _ _ _ _ hr er (p.bnd fun I h1 α1 H1 J st1 hr1 itr p1 => ?_)
  intro Dd hD
  refine ⟨fun i m H' => ∃ α' h' acc accV, Step Γ.K α1 H1 α' H' ∧ Dd ∉ α' ∧ H' Dd = some (.lst accV) ∧ HR Γ.K α' h' H' ∧ Reps Γ.K α' H' acc accV ∧
      Pst Γ (RV Γ) α1 H1 (bnd (noExc (comp2Loop I (hd2 fg fi1 (own.map (·.2)) en) (bd2 fg1 ft fe own1) m i acc h')) fun ds h2 => R.ok (D.ref h2.length) (h2 ++ [O.lst ds])) Q (fun c d H' => W c d σ H'),
    ⟨turns, α1, h1, [], [], Step.other hD, hr1.fresh hD, upd_same, hr1.other hD, .nil, p1⟩, ?_⟩
  rintro i m H' ⟨α', h', acc, accV, st, nD, eD, hr', racc, pp⟩
  cases m with
  | zero => exact False.elim pp
  | succ m =>
    have hit := itr α' h' H' st.toExt hr' i
    unfold comp2Loop at pp
    cases e : I.next i h' with
    | none => rw [e] at pp; exact False.elim pp
    | some o =>
      rw [e] at hit pp
      cases o with
      | none =>
        refine .inl ⟨hit, ?_⟩
        refine pp (α' ++ [Dd]) H' _ ?_ (hr'.adopt eD nD racc) (rep_new hr')
        refine ⟨⟨?_, st.tup, st.ro⟩, fun a ha => ?_, st.frm⟩
        · obtain ⟨β, rfl⟩ := st.pre
          exact ⟨β ++ [Dd], by simp⟩
        · rcases List.mem_append.mp ha with q | q
          · exact st.new a q
          · rw [List.mem_singleton] at q
            subst q
            exact .inr hD
      | some d =>
        refine .inr ⟨hit.1, fun H'' => ∃ α' h' acc accV, Step Γ.K α1 H1 α' H'' ∧ Dd ∉ α' ∧ H'' Dd = some (.lst accV) ∧ HR Γ.K α' h' H'' ∧ Reps Γ.K α' H'' acc accV ∧
          Pst Γ (RV Γ) α1 H1 (bnd (noExc (comp2Loop I (hd2 fg fi1 (own.map (·.2)) en) (bd2 fg1 ft fe own1) m (i + 1) acc h')) fun ds h2 => R.ok (D.ref h2.length) (h2 ++ [O.lst ds])) Q (fun c d H' => W c d σ H'), fun H'' hw => ⟨m, Nat.lt_succ_self m, hw⟩, fun x Hx hy => ?_⟩
        obtain ⟨sx, hrx, rx⟩ := hit.2 x Hx hy
        have stx : Step Γ.K α1 H1 α' Hx := st.trans sx
        have eDx : Hx Dd = some (.lst accV) := sx.frm Dd _ nD eD
        have raccx := racc.mono sx
        dsimp only at pp
        rw [noExc_bnd, bnd_assoc, noExc_bnd, bnd_assoc] at pp
        -- the target
        refine ⟨α', h', d, wipeE en (own.map (·.2)), hrx, ((er.mono st1).mono stx).wipe _, rx, Pst.noExc' (Pst.bndAt stx pp fun en3 h3 α3 H3 σ3 st3 hr3 r3 p3 => ?_)⟩
        refine ⟨wipe_agr r3.2 hsl, ?_⟩
        have nD3 : Dd ∉ α3 := fun z => (st3.new Dd z).elim nD fun q => by rw [eDx] at q; cases q
        have eD3 : H3 Dd = some (.lst accV) := st3.frm Dd _ nD eDx
        have stB : Step Γ.K α1 H1 α3 H3 := stx.trans st3
        -- no test
        refine ⟨α3, h3, en3, hr3, r3.1, fun αt Ht bt stt hrt rt => ?_⟩
        cases rt
        simp only [if_true]
        have nDt : Dd ∉ αt := fun z => (stt.new Dd z).elim nD3 fun q => by rw [eD3] at q; cases q
        have eDt : Ht Dd = some (.lst accV) := stt.frm Dd _ nD3 eD3
        have stT : Step Γ.K α1 H1 αt Ht := stB.trans stt
        -- the inner iterable
        rw [noExc_bnd, bnd_assoc] at p3
        refine ⟨αt, h3, en3, hrt, r3.1.mono stt, Pst.noExc (Pst.bndAt stT p3 fun J1 h4 α4 H4 K1 st4 hr4 itr4 p4 => ?_)⟩
        have nD4 : Dd ∉ α4 := fun z => (st4.new Dd z).elim nDt fun q => by rw [eDt] at q; cases q
        have eD4 : H4 Dd = some (.lst accV) := st4.frm Dd _ nDt eDt
        have st4' : Step Γ.K α1 H1 α4 H4 := stT.trans st4
        have er4 : ER Γ.K α4 H4 en3 σ3 := (r3.1.mono stt).mono st4
        refine ⟨fun j k H' => ∃ α' h' acc accV, Step Γ.K α1 H1 α' H' ∧ Ext Γ.K α4 H4 α' H' ∧ Dd ∉ α' ∧ H' Dd = some (.lst accV) ∧ HR Γ.K α' h' H' ∧ Reps Γ.K α' H' acc accV ∧
          Pst Γ (RV Γ) α1 H1 (bnd (noExc (bnd (compLoop J1 (bd2 fg1 ft fe own1 en3) k j acc h') fun acc' h2 => comp2Loop I (hd2 fg fi1 (own.map (·.2)) en) (bd2 fg1 ft fe own1) m (i + 1) acc' h2)) fun ds h2 => R.ok (D.ref h2.length) (h2 ++ [O.lst ds])) Q (fun c d H' => W c d σ H'),
          ⟨m, α4, h4, acc, accV, st4', Ext.refl, nD4, eD4, hr4, ((raccx.mono st3).mono stt).mono st4, p4⟩, ?_⟩
        clear p4 p3 pp hit
        rintro j k H5 ⟨α5, h5, acc5, accV5, st5, ex5, nD5, eD5, hr5, racc5, p5⟩
        cases k with
        | zero => exact False.elim p5
        | succ k =>
          have hit5 := itr4 α5 h5 H5 ex5 hr5 j
          unfold compLoop at p5
          cases e5 : J1.next j h5 with
          | none => rw [e5] at p5; exact False.elim p5
          | some o5 =>
            rw [e5] at hit5 p5
            cases o5 with
            | none => exact .inl ⟨hit5, α5, h5, acc5, accV5, st5, nD5, eD5, hr5, racc5, p5⟩
            | some d5 =>
              refine .inr ⟨hit5.1, fun H' => ∃ α' h' acc accV, Step Γ.K α1 H1 α' H' ∧ Ext Γ.K α4 H4 α' H' ∧ Dd ∉ α' ∧ H' Dd = some (.lst accV) ∧ HR Γ.K α' h' H' ∧ Reps Γ.K α' H' acc accV ∧
                Pst Γ (RV Γ) α1 H1 (bnd (noExc (bnd (compLoop J1 (bd2 fg1 ft fe own1 en3) k (j + 1) acc h') fun acc' h2 => comp2Loop I (hd2 fg fi1 (own.map (·.2)) en) (bd2 fg1 ft fe own1) m (i + 1) acc' h2)) fun ds h2 => R.ok (D.ref h2.length) (h2 ++ [O.lst ds])) Q (fun c d H' => W c d σ H'),
                fun H'' hw => ⟨k, Nat.lt_succ_self k, hw⟩, fun x6 H6 hy6 => ?_⟩
              obtain ⟨s6, hr6, r6⟩ := hit5.2 x6 H6 hy6
              have st6 : Step Γ.K α1 H1 α5 H6 := st5.trans s6
              have eD6 : H6 Dd = some (.lst accV5) := s6.frm Dd _ nD5 eD5
              have racc6 := racc5.mono s6
              have ex6 : Ext Γ.K α4 H4 α5 H6 := ex5.trans s6.toExt
              dsimp only at p5
              rw [bnd_assoc, noExc_bnd, bnd_assoc, noExc_bnd, bnd_assoc] at p5
              refine ⟨α5, h5, d5, wipeE en3 own1, hr6, (er4.monoE ex6).wipe _, r6, Pst.noExc' (Pst.bndAt st6 p5 fun en7 h7 α7 H7 σ7 st7 hr7 r7 p7 => ?_)⟩
              refine ⟨wipe_agr r7.2 hsl1, ?_⟩
              have nD7 : Dd ∉ α7 := fun z => (st7.new Dd z).elim nD5 fun q => by rw [eD6] at q; cases q
              have eD7 : H7 Dd = some (.lst accV5) := st7.frm Dd _ nD5 eD6
              have stC : Step Γ.K α1 H1 α7 H7 := st6.trans st7
              rw [noExc_bnd, bnd_assoc] at p7
              refine ⟨α7, h7, en7, hr7, r7.1, Pst.noExc (Pst.bndAt stC p7 fun kb h8 α8 H8 kv st8 hr8 r8 p8 => ?_)⟩
              cases r8
              have nD8 : Dd ∉ α8 := fun z => (st8.new Dd z).elim nD7 fun q => by rw [eD7] at q; cases q
              have eD8 : H8 Dd = some (.lst accV5) := st8.frm Dd _ nD7 eD7
              have stE : Step Γ.K α1 H1 α8 H8 := stC.trans st8
              have ex8 : Ext Γ.K α4 H4 α8 H8 := (ex6.trans st7.toExt).trans st8.toExt
              cases kb with
              | false =>
                simp only [Bool.false_eq_true, if_false] at p8 ⊢
                exact ⟨α8, h8, acc5, accV5, stE, ex8, nD8, eD8, hr8, (racc6.mono st7).mono st8, p8⟩
              | true =>
                simp only [if_true] at p8 ⊢
                rw [noExc_bnd, bnd_assoc] at p8
                refine ⟨α8, h8, en7, hr8, r7.1.mono st8, Pst.noExc (Pst.bndAt stE p8 fun y h9 α9 H9 yv st9 hr9 r9 p9 => ?_)⟩
                have nD9 : Dd ∉ α9 := fun z => (st9.new Dd z).elim nD8 fun q => by rw [eD8] at q; cases q
                have eD9 : H9 Dd = some (.lst accV5) := st9.frm Dd _ nD8 eD8
                have racc9 := ((racc6.mono st7).mono st8).mono st9
                have p10 : Pst Γ (RV Γ) α1 H1 (bnd (noExc (bnd (if acc5.length < sizeLine then compLoop J1 (bd2 fg1 ft fe own1 en3) k (j + 1) (acc5 ++ [y]) h9 else .bad) fun acc' h2 => comp2Loop I (hd2 fg fi1 (own.map (·.2)) en) (bd2 fg1 ft fe own1) m (i + 1) acc' h2)) fun ds h2 => R.ok (D.ref h2.length) (h2 ++ [O.lst ds])) Q (fun c d H' => W c d σ H') := p9
                by_cases c : acc5.length < sizeLine
                · rw [if_pos c] at p10
                  exact ⟨accV5, eD9, by rw [← racc5.length]; exact c, α9, h9, acc5 ++ [y], accV5 ++ [yv], (stE.trans st9).over hD eD9, (ex8.trans st9.toExt).trans (ext_over eD9), nD9, upd_same, hr9.over eD9 nD9, (racc9.append (.cons r9 .nil)).monoE (ext_over eD9), p10⟩
                · rw [if_neg c] at p10
                  exact False.elim p10
end
end PD

set_option Elab.async false
set_option linter.all false
set_option maxRecDepth 100000
set_option maxHeartbeats 2000000
/-! The text becomes our language; what is said of the latter holds of the former. -/
namespace PD
open PySem PySem.Spec PyProof.Rows L2
def ixOf : List Str → Str → Option Nat
  | [], _ => none
  | y :: ys, x => if y = x then some 0 else (ixOf ys x).map (· + 1)
theorem ixOf_get : ∀ {N : List Str} {x : Str} {i : Nat}, ixOf N x = some i → N[i]? = some x
  | [], _, _, h => by cases h
  | y :: ys, x, i, h => by
    unfold ixOf at h
    by_cases e : y = x
    · rw [if_pos e] at h
      cases h
      simp [e]
    · rw [if_neg e] at h
      cases q : ixOf ys x with
      | none => rw [q] at h; cases h
      | some j =>
        rw [q] at h
        cases h
        simpa using ixOf_get q
structure GT where
  fns : List (Str × Nat)
  cons : List (Str × D)
def exs : List Ex → Exs
  | [] => .nil
  | e :: es => .cons e (exs es)
def odd (x : Str) : Bool := x == ("__debug__" : Str) || x == ("__classdict__" : Str)
def trName (g : GT) (N : List Str) (sc : Scope) (x : Str) : Ex :=
  if odd x = true then .bad else match sc.names.lookup x with
  | some .local | some .cell | some .free => match ixOf N x with
    | some i => .var i
    | none => .bad
  | some .globalImplicit => match g.cons.lookup x with
    | some d => .con d
    | none => .bad
  | _ => .bad
def trC : Const → Ex
  | .int i => .con (.int i)
  | .bool b => .con (.bl b)
  | .str s => .con (.str s)
  | .none => .con .non
  | _ => .bad
def trB (op : BoolOp) : List Ex → Ex
  | [] => .bad
  | [a] => a
  | a :: r => match op with
    | .And => .and a (trB op r)
    | .Or => .or a (trB op r)
def biOf (x : Str) : Option Bi := [Bi.len, .abs, .int, .list, .tuple, .all, .any, .sum].find? fun b => decide (biName b = x)
theorem biOf_name {x : Str} {b : Bi} (h : biOf x = some b) : biName b = x := by
  have := List.find?_some (p := fun b => decide (biName b = x)) h
  exact of_decide_eq_true this
def tyOf (x : Str) : Option Ty := [Ty.int, .bool, .str, .tuple, .list, .dict].find? fun b => decide (Str.ofString (tyName b) = x)
theorem tyOf_name {x : Str} {b : Ty} (h : tyOf x = some b) : Str.ofString (tyName b) = x := by
  have := List.find?_some (p := fun b => decide (Str.ofString (tyName b) = x)) h
  exact of_decide_eq_true this
def meOf (x : Str) : Option Me := [Me.append, .extend, .insert, .pop].find? fun b => decide (meName b = x)
theorem meOf_name {x : Str} {b : Me} (h : meOf x = some b) : meName b = x := by
  have := List.find?_some (p := fun b => decide (meName b = x)) h
  exact of_decide_eq_true this
def isGl (sc : Scope) (x : Str) : Bool := decide (sc.names.lookup x = some .globalImplicit) && !(x == ("__debug__" : Str))
/-- the classes of a tuple of classes -/
def tysOf (sc : Scope) : List Expr → Option (List Ty)
  | [] => some []
  | .Name T _ :: r => if isGl sc T = true then match tyOf T, tysOf sc r with
      | some t, some ts => some (t :: ts)
      | _, _ => none
    else none
  | _ => none
/-- what a method may be asked of -/
def plainO : Expr → Bool
  | .Name .. => true
  | .Subscript .. => true
  | _ => false
def trMet (o : Expr) (m : Str) (apos cpos : Pos) (args : List Expr) (t : Ex) (ts : List Ex) : Ex :=
  if plainO o = true ∧ (apos.endLine == cpos.line) = true ∧ args.any star = false ∧ args.length < 30 then match meOf m with
    | some me => .met me t (exs ts)
    | none => .bad
  else .bad
def unstar : Expr → Expr
  | .Starred e _ => e
  | e => e
def trCall (g : GT) (sc : Scope) (f : Str) (args : List Expr) (ts : List Ex) : Ex :=
  if isGl sc f = false ∨ args.any star = true then .bad else match g.fns.lookup f with
  | some i => .call i (exs ts)
  | none => match args, ts with
    | [_], [e] => match biOf f with
      | some b => .bi b e
      | none => .bad
    | [_, .Name T _], [e, _] => if decide (f = "isinstance") && isGl sc T then match tyOf T with
        | some t => .isi e t
        | none => .bad
      else .bad
    | [_, .Tuple cs _ _], [e, _] => if decide (f = "isinstance") then match tysOf sc cs with
        | some ts => if ts.length ≤ 30 then .isis e ts else .bad
        | none => .bad
      else .bad
    | _, _ => .bad
def isSlice : Expr → Bool
  | .Slice .. => true
  | _ => false
def isSet : Expr → Bool
  | .Set .. => true
  | _ => false
def isTuple : Expr → Bool
  | .Tuple .. => true
  | _ => false
def isComp : Expr → Bool
  | .ListComp .. => true
  | .SetComp .. => true
  | .DictComp .. => true
  | _ => false
def ownOf (N : List Str) (scope : Scope) : List (Str × Nat) := N.zipIdx.filterMap fun p => match scope.names.lookup p.1 with
  | some .local => some p
  | some .cell => some p
  | _ => none
def tgs : List Tg → Tgs
  | [] => .nil
  | t :: ts => .cons t (tgs ts)
mutual
def slots : Tg → List Nat
  | .name i => [i]
  | .tup ts => slotss ts
  | .sub _ _ => []
def slotss : Tgs → List Nat
  | .nil => []
  | .cons t ts => slots t ++ slotss ts
end
def badT : Tg := .tup (.cons (.sub .bad .bad) .nil)
def trT (g : GT) (N : List Str) (tr : Expr → Ex) : Nat → Scope → Scope → Expr → Tg
  | 0, _, _, _ => .sub .bad .bad
  | n + 1, sc0, sc, e => match e with
    | .Name x _ => match ixOf N x with
      | some i => if sc.names.lookup x = some .local ∨ (sc.names.lookup x = some .cell ∧ sc0.names.lookup x = some .cell) then .name i else .sub .bad .bad
      | none => .sub .bad .bad
    | .Tuple es _ _ => if es.any star = true then .sub .bad .bad else .tup (tgs (es.map (trT g N tr n sc0 sc)))
    | .Subscript o i _ => if isSlice i = true then .sub .bad .bad else .sub (tr o) (tr i)
    | _ => .sub .bad .bad
def trI (tg : Expr) (sc : Scope) (tr : Expr → Ex) (e : Expr) : Ix :=
  match e with
  | .Call (.Name f _) [a] [] _ => if star a = true then .seq .bad else if decide (f = "range") && isGl sc f then .rng1 (tr a) else if decide (f = "enumerate") && isGl sc f && isTuple tg then .enum (tr a) else .seq (tr e)
  | .Call (.Name f _) [a, b] [] _ => if star a = true ∨ star b = true then .seq .bad else if decide (f = "range") && isGl sc f then .rng2 (tr a) (tr b) else if decide (f = "zip") && isGl sc f && isTuple tg then .zip (tr a) (tr b) else .seq (tr e)
  | .Call (.Name f _) [a, b, c] [] _ => if [a, b, c].any star = true then .seq .bad else if decide (f = "range") && isGl sc f then .rng3 (exs ([a, b, c].map tr)) else .seq (tr e)
  | e => .seq (tr e)
/-- two loops -/
def trC2 (N : List Str) (sc scope : Scope) (iter iter1 : Expr) (it it1 : Ix) (t t1 : Tg) (c e : Ex) : Ex :=
  if blkC N sc scope (ownOf N scope) = true ∧ isSet iter = false ∧ isSet iter1 = false ∧ (slots t).all (fun j => ((ownOf N scope).map (·.2)).contains j) = true ∧ (slots t1).all (fun j => ((ownOf N scope).map (·.2)).contains j) = true then
    .comp2 it t it1 t1 c e ((ownOf N scope).map (·.2)) (slots t1) else .bad
def trE (g : GT) (N : List Str) : Nat → Scope → Scope → Expr → Ex
  | 0, _, _, _ => .bad
  | n + 1, sc0, sc, e => match e with
    | .Constant c _ _ => trC c
    | .Name x _ => trName g N sc x
    | .Tuple es _ _ => if es.any star = true then .tupS (es.map star) (exs (es.map fun e => trE g N n sc0 sc (unstar e))) else .tup (exs (es.map (trE g N n sc0 sc)))
    | .List es _ => if es.any star = true then .lstS (es.map star) (exs (es.map fun e => trE g N n sc0 sc (unstar e))) else .lst (exs (es.map (trE g N n sc0 sc)))
    | .BinOp a op b _ => .bin op (trE g N n sc0 sc a) (trE g N n sc0 sc b)
    | .UnaryOp .USub a _ => .neg (trE g N n sc0 sc a)
    | .UnaryOp .Not a _ => .not (trE g N n sc0 sc a)
    | .BoolOp op es _ => trB op (es.map (trE g N n sc0 sc))
    | .Compare a [op] [b] _ => if behindInMarks op b = true then .bad else .cmp op (trE g N n sc0 sc a) (trE g N n sc0 sc b)
    | .Compare a [op, op'] [b, c] _ => if lastMarks [op, op'] [b, c] = true then .bad else .chain op op' (trE g N n sc0 sc a) (trE g N n sc0 sc b) (trE g N n sc0 sc c)
    | .IfExp c a b _ => .ite (trE g N n sc0 sc c) (trE g N n sc0 sc a) (trE g N n sc0 sc b)
    | .Subscript a (.Slice lo hi none _) _ => .sl (trE g N n sc0 sc a) (match lo with | some l => .some (trE g N n sc0 sc l) | none => .none) (match hi with | some l => .some (trE g N n sc0 sc l) | none => .none)
    | .Subscript a b _ => if isSlice b = true then .bad else .ix (trE g N n sc0 sc a) (trE g N n sc0 sc b)
    | .Call (.Name f _) args [] _ => trCall g sc f args (args.map (trE g N n sc0 sc))
    | .Call (.Attribute o m apos) args [] cpos => trMet o m apos cpos args (trE g N n sc0 sc o) (args.map (trE g N n sc0 sc))
    | .ListComp elt [⟨tg, iter, [], 0⟩] scope _ => if blkC N sc scope (ownOf N scope) = true ∧ isSet iter = false ∧ (slots (trT g N (trE g N n scope (relS scope sc)) n scope (relS scope sc) tg)).all (fun j => ((ownOf N scope).map (·.2)).contains j) = true then
        .comp (trI tg sc (trE g N n sc0 sc) iter) (trT g N (trE g N n scope (relS scope sc)) n scope (relS scope sc) tg) (.con (.bl true)) (trE g N n scope (relS scope sc) elt) ((ownOf N scope).map (·.2)) else .bad
    | .ListComp elt [⟨tg, iter, [c], 0⟩] scope _ => if blkC N sc scope (ownOf N scope) = true ∧ isSet iter = false ∧ (slots (trT g N (trE g N n scope (relS scope sc)) n scope (relS scope sc) tg)).all (fun j => ((ownOf N scope).map (·.2)).contains j) = true then
        .comp (trI tg sc (trE g N n sc0 sc) iter) (trT g N (trE g N n scope (relS scope sc)) n scope (relS scope sc) tg) (trE g N n scope (relS scope sc) c) (trE g N n scope (relS scope sc) elt) ((ownOf N scope).map (·.2)) else .bad
    | .ListComp elt [⟨tg, iter, [], 0⟩, ⟨tg1, iter1, [], 0⟩] scope _ => trC2 N sc scope iter iter1 (trI tg sc (trE g N n sc0 sc) iter) (trI tg1 (relS scope sc) (trE g N n scope (relS scope sc)) iter1) (trT g N (trE g N n scope (relS scope sc)) n scope (relS scope sc) tg) (trT g N (trE g N n scope (relS scope sc)) n scope (relS scope sc) tg1) (.con (.bl true)) (trE g N n scope (relS scope sc) elt)
    | .ListComp elt [⟨tg, iter, [], 0⟩, ⟨tg1, iter1, [c], 0⟩] scope _ => trC2 N sc scope iter iter1 (trI tg sc (trE g N n sc0 sc) iter) (trI tg1 (relS scope sc) (trE g N n scope (relS scope sc)) iter1) (trT g N (trE g N n scope (relS scope sc)) n scope (relS scope sc) tg) (trT g N (trE g N n scope (relS scope sc)) n scope (relS scope sc) tg1) (trE g N n scope (relS scope sc) c) (trE g N n scope (relS scope sc) elt)
    | _ => .bad
/-! ### what the place of a text must be -/
def bnames : List Str := ["len", "abs", "int", "list", "tuple", "all", "any", "sum", "isinstance", "bool", "str", "dict", "range", "enumerate", "zip"]
structure Cok (g : GT) (fs : List Fn) (Γ : Wd) (N : List Str) (k : Nat) (X : Cx) (sc0 sc : Scope) (W : WX) : Prop where
  hN : X.N = N
  nd : N.Nodup
  hsc : X.env.scope = sc
  kind : sc.kind = .function
  hfn : ∀ x, sc0.names.lookup x = some .cell → X.fn x = true
  calm : X.calm = true
  room : Room k X.A
  hK : X.K = Γ.K
  cons : ∀ x d, g.cons.lookup x = some d → ∃ u v, X.mg x = some u ∧ RelV v u ∧ ∀ α H, Rep Γ.K α H d v
  bi : ∀ x ∈ bnames, X.mg x = none
  fns : ∀ (i : Nat) x, g.fns.lookup x = some i → ∃ f a fd, fget fs i = some f ∧ f.name = x ∧ X.mg x = some (.ref a) ∧ PySem.W.keepIn X.K (.ref a) = true ∧ Binds X.K fd f.ps [] ∧ FnOk X.prog X.w X.K X.mg X.base (L2.CX X.prog X.w) k a fd f.ps (spF Γ fs k i f.ps.length)
  tk : Takes X W
section
variable {g : GT} {fs : List Fn} {Γ : Wd} {N : List Str} {k : Nat}
theorem Cok.blk {X : Cx} {sc0 sc : Scope} {W : WX} (c : Cok g fs Γ N k X sc0 sc W) (s : Shared) (H : Hp) (scope : Scope) (C : Addr) (cl : List (Str × Addr)) (fp : List Addr) (hk : scope.kind = .function) :
    Cok g fs Γ N k (X.blk s H scope (compEnvC scope cl C X.env) fp) scope (relS scope sc) (fun _ _ _ _ => False) := by
  refine ⟨c.hN, c.nd, ?_, hk, fun x hx => ?_, c.calm, c.room, c.hK, c.cons, c.bi, c.fns, takes0⟩
  · rw [← c.hsc]
    rfl
  · show (scope.names.lookup x == some NameKind.cell) = true
    rw [hx]
    rfl
theorem Cok.gl {X : Cx} {sc0 sc : Scope} {W : WX} (c : Cok g fs Γ N k X sc0 sc W) {x : Str} (h : isGl sc x = true) : Gl X x ∧ (x == ("__debug__" : Str)) = false := by
  unfold isGl at h
  rw [Bool.and_eq_true] at h
  refine ⟨?_, by simpa using h.2⟩
  show X.env.scope.names.lookup x = _
  rw [c.hsc]
  exact of_decide_eq_true h.1
/-- a value that is no not, and, or, ite: its test is its value's truth -/
def plainX : Ex → Bool
  | .not _ | .and _ _ | .or _ _ | .ite _ _ _ => false
  | _ => true
theorem test_plain {cl : Nat → List D → Hh → R D} {e : Ex} (h : plainX e = true) : test cl e = fun en hh => bnd (ev cl e en hh) toBool := by
  funext en hh
  cases e <;> first | exact Bool.noConfusion h | rfl
theorem plain_name {sc : Scope} {x : Str} : plainX (trName g N sc x) = true := by
  unfold trName
  split
  · rfl
  · split <;> first | rfl | (split <;> rfl)
theorem plain_c {c : Const} : plainX (trC c) = true := by cases c <;> rfl
theorem plain_call {sc : Scope} {f : Str} {args : List Expr} {ts : List Ex} : plainX (trCall g sc f args ts) = true := by
  unfold trCall
  split
  · rfl
  · split
    · rfl
    · split
      · split <;> rfl
      · split
        · split <;> rfl
        · rfl
      · split
        · split
          · split <;> rfl
          · rfl
        · rfl
      · rfl
theorem plain_met {o : Expr} {m : Str} {apos cpos : Pos} {args : List Expr} {t : Ex} {ts : List Ex} : plainX (trMet o m apos cpos args t ts) = true := by
  unfold trMet
  split
  · split <;> rfl
  · rfl
theorem plain_c2 {sc scope : Scope} {iter iter1 : Expr} {it it1 : Ix} {t t1 : Tg} {c e : Ex} : plainX (trC2 N sc scope iter iter1 it it1 t t1 c e) = true := by
  unfold trC2
  split <;> rfl
end
end PD

set_option Elab.async false
set_option linter.all false
set_option maxRecDepth 100000
set_option maxHeartbeats 2000000
namespace PD
open PySem PySem.Spec PyProof.Rows L2
section
variable {cl : Nat → List D → Hh → R D}
theorem ev_con {d} : ev cl (.con d) = fun _ h => .ok d h := rfl
theorem ev_var {i} : ev cl (.var i) = fun en h => optR (getE en i) fun d => .ok d h := rfl
theorem ev_tup {es} : ev cl (.tup es) = fun en h => bnd (evs cl es en h) fun ds h1 => if ds.length ≤ sizeLine then .ok (.tup ds) h1 else .bad := rfl
theorem ev_lst {es} : ev cl (.lst es) = fun en h => bnd (evs cl es en h) fun ds h1 => if ds.length ≤ sizeLine then .ok (.ref h1.length) (h1 ++ [.lst ds]) else .bad := rfl
theorem ev_bin {op a b} : ev cl (.bin op a b) = fun en h => bnd (ev cl a en h) fun x h1 => bnd (ev cl b en h1) fun y h2 => binOp op x y h2 := rfl
theorem ev_neg {a} : ev cl (.neg a) = fun en h => bnd (ev cl a en h) unNeg := rfl
theorem ev_not {a} : ev cl (.not a) = fun en h => bnd (ev cl a en h) fun x h1 => bnd (toBool x h1) fun b h2 => .ok (.bl (!b)) h2 := rfl
theorem ev_cmp {op a b} : ev cl (.cmp op a b) = fun en h => bnd (ev cl a en h) fun x h1 => bnd (ev cl b en h1) fun y h2 => cmpOp op x y h2 := rfl
theorem ev_chain {op op' a b c} : ev cl (.chain op op' a b c) = fun en h => bnd (ev cl a en h) fun x h1 => bnd (ev cl b en h1) fun y h2 => bnd (cmpOp op x y h2) fun z h3 => bnd (toBool z h3) fun k h4 =>
      if k = true then bnd (ev cl c en h4) fun w h5 => cmpOp op' y w h5 else .ok (.bl false) h4 := rfl
theorem ev_and {a b} : ev cl (.and a b) = fun en h => bnd (ev cl a en h) fun x h1 => bnd (toBool x h1) fun k h2 => if k = true then ev cl b en h2 else .ok (.bl false) h2 := rfl
theorem ev_or {a b} : ev cl (.or a b) = fun en h => bnd (ev cl a en h) fun x h1 => bnd (toBool x h1) fun k h2 => if k = true then .ok (.bl true) h2 else ev cl b en h2 := rfl
theorem ev_ite {c a b} : ev cl (.ite c a b) = fun en h => bnd (test cl c en h) fun k h1 => if k = true then ev cl a en h1 else ev cl b en h1 := rfl
theorem ev_call {f es} : ev cl (.call f es) = fun en h => bnd (evs cl es en h) fun ds h1 => cl f ds h1 := rfl
theorem ev_bi {b e} : ev cl (.bi b e) = fun en h => bnd (ev cl e en h) (biOp b) := rfl
theorem ev_isi {e t} : ev cl (.isi e t) = fun en h => bnd (ev cl e en h) fun x h1 => .ok (.bl (isTy t x)) h1 := rfl
theorem ev_ix {a i} : ev cl (.ix a i) = fun en h => bnd (ev cl a en h) fun x h1 => bnd (ev cl i en h1) fun y h2 => ixOp x y h2 := rfl
theorem ev_sl {a lo hi} : ev cl (.sl a lo hi) = fun en h => bnd (ev cl a en h) fun x h1 => bnd (evo cl lo en h1) fun l h2 => bnd (evo cl hi en h2) fun u h3 => slOp x l u h3 := rfl
theorem ev_comp {it t c e own} : ev cl (.comp it t c e own) = fun en h => bnd (evi cl it en h) fun I h1 => bnd (noExc (compLoop I (fun d h2 => bnd (asgn cl t d (wipeE en own) h2) fun en3 h3 => bnd (test cl c en3 h3) fun k h4 =>
      if k = true then bnd (ev cl e en3 h4) fun y h5 => .ok (some y) h5 else .ok none h4) turns 0 [] h1)) fun ds h2 => .ok (.ref h2.length) (h2 ++ [.lst ds]) := rfl
theorem ev_comp2 {it t it1 t1 c e own own1} : ev cl (.comp2 it t it1 t1 c e own own1) = fun en h => bnd (evi cl it en h) fun I h1 => bnd (noExc (comp2Loop I (hd2 (asgn cl t) (evi cl it1) own en) (bd2 (asgn cl t1) (test cl c) (ev cl e) own1) turns 0 [] h1)) fun ds h2 => .ok (.ref h2.length) (h2 ++ [.lst ds]) := rfl
theorem ev_met {m o es} : ev cl (.met m o es) = fun en h => bnd (ev cl o en h) fun x h1 => optR (refOf h1 x) fun _ => bnd (evs cl es en h1) fun ds h2 => metOp m x ds h2 := rfl
theorem ev_isis {e ts} : ev cl (.isis e ts) = fun en h => bnd (ev cl e en h) fun x h1 => .ok (.bl (ts.any fun t => isTy t x)) h1 := rfl
theorem ev_tupS {fl es} : ev cl (.tupS fl es) = fun en h => bnd (evS cl es fl en h) fun ds h1 => if ds.length ≤ sizeLine then .ok (.tup ds) h1 else .bad := rfl
theorem ev_lstS {fl es} : ev cl (.lstS fl es) = fun en h => bnd (evS cl es fl en h) fun ds h1 => if ds.length ≤ sizeLine then .ok (.ref h1.length) (h1 ++ [.lst ds]) else .bad := rfl
theorem evS_nil {fl} : evS cl .nil fl = fun _ h => .ok [] h := rfl
theorem evS_star {e es fl} : evS cl (.cons e es) (true :: fl) = fun en h => bnd (ev cl e en h) fun d h1 => optR (itemsOf h1 d) fun xs => bnd (evS cl es fl en h1) fun ds h2 => .ok (xs ++ ds) h2 := rfl
theorem evS_cons {e es fl} : evS cl (.cons e es) (false :: fl) = fun en h => bnd (ev cl e en h) fun d h1 => bnd (evS cl es fl en h1) fun ds h2 => .ok (d :: ds) h2 := rfl
theorem ev_bad : ev cl .bad = fun _ _ => .bad := rfl
theorem evs_nil : evs cl .nil = fun _ h => .ok [] h := rfl
theorem evs_cons {e es} : evs cl (.cons e es) = fun en h => bnd (ev cl e en h) fun d h1 => bnd (evs cl es en h1) fun ds h2 => .ok (d :: ds) h2 := rfl
theorem evo_none : evo cl .none = fun _ h => .ok none h := rfl
theorem evo_some {e} : evo cl (.some e) = fun en h => bnd (ev cl e en h) fun d h1 => bnd (toInt d h1) fun i h2 => .ok (some i) h2 := rfl
theorem test_not {a} : test cl (.not a) = fun en h => bnd (test cl a en h) fun b h1 => .ok (!b) h1 := rfl
theorem test_and {a b} : test cl (.and a b) = fun en h => bnd (test cl a en h) fun k h1 => if k = true then test cl b en h1 else .ok false h1 := rfl
theorem test_or {a b} : test cl (.or a b) = fun en h => bnd (test cl a en h) fun k h1 => if k = true then .ok true h1 else test cl b en h1 := rfl
theorem test_ite {c a b} : test cl (.ite c a b) = fun _ _ => .bad := rfl
theorem test_bad : test cl .bad = fun _ _ => .bad := by rw [test_plain rfl, ev_bad]; rfl
theorem test_true : test cl (.con (.bl true)) = fun _ h => .ok true h := by rw [test_plain rfl, ev_con]; rfl
theorem evi_seq {e} : evi cl (.seq e) = fun en h => bnd (ev cl e en h) seqIt := rfl
theorem evi_rng1 {e} : evi cl (.rng1 e) = fun en h => bnd (ev cl e en h) fun x h1 => rngIt 0 x h1 := rfl
theorem evi_rng2 {a b} : evi cl (.rng2 a b) = fun en h => bnd (ev cl a en h) fun x h1 => bnd (ev cl b en h1) fun y h2 => bnd (toInt x h2) fun lo h3 => rngIt lo y h3 := rfl
theorem evi_rng3 {es} : evi cl (.rng3 es) = fun en h => bnd (evs cl es en h) rngIt3 := rfl
theorem evi_enum {e} : evi cl (.enum e) = fun en h => bnd (ev cl e en h) enumIt := rfl
theorem evi_zip {a b} : evi cl (.zip a b) = fun en h => bnd (ev cl a en h) fun x h1 => bnd (ev cl b en h1) fun y h2 => zipIt x y h2 := rfl
theorem asgn_name {i} : asgn cl (.name i) = fun d en h => .ok (en.set i (some d)) h := rfl
theorem asgn_tup {ts} : asgn cl (.tup ts) = fun d en h => match d with | .tup ds => asgns cl ts ds en h | x => optR (seqOf h x) fun ds => asgns cl ts ds en h := by
  funext d en h
  cases d <;> rfl
theorem asgn_sub {o i} : asgn cl (.sub o i) = fun d en h => bnd (ev cl o en h) fun x h1 => bnd (ev cl i en h1) fun y h2 => bnd (setAt x y d h2) fun _ h3 => .ok en h3 := rfl
theorem asgn_bad : asgn cl (.sub .bad .bad) = fun _ _ _ => .bad := by rw [asgn_sub, ev_bad]; rfl
theorem asgns_nil : asgns cl .nil = fun ds en h => match ds with | [] => .ok en h | _ => .bad := by
  funext d en h
  cases d <;> rfl
theorem asgns_cons {t ts} : asgns cl (.cons t ts) = fun ds en h => match ds with | d :: ds => bnd (asgn cl t d en h) fun en1 h1 => asgns cl ts ds en1 h1 | [] => .bad := by
  funext d en h
  cases d <;> rfl
theorem asgns_len : ∀ (ts : List Tg) (ds : List D) (en : En) (h : Hh), ds.length ≠ ts.length → noExc (asgns cl (tgs ts) ds en h) = .bad
  | [], [], _, _, hl => absurd rfl hl
  | [], d :: ds, en, h, _ => by
    show noExc (asgns cl .nil (d :: ds) en h) = .bad
    rw [asgns_nil]
    rfl
  | t :: ts, [], en, h, _ => by
    show noExc (asgns cl (.cons t (tgs ts)) [] en h) = .bad
    rw [asgns_cons]
    rfl
  | t :: ts, d :: ds, en, h, hl => by
    show noExc (asgns cl (.cons t (tgs ts)) (d :: ds) en h) = .bad
    rw [asgns_cons]
    dsimp only
    rw [noExc_bnd]
    cases e : asgn cl t d en h with
    | ok en1 h1 => exact asgns_len ts ds en1 h1 fun z => hl (by rw [List.length_cons, List.length_cons, z])
    | exc c x h1 => rfl
    | bad => rfl
end
section
variable {g : GT} {fs : List Fn} {Γ : Wd} {N : List Str} {k : Nat} {X : Cx} {W : WX}
abbrev Both (fs : List Fn) (Γ : Wd) (k : Nat) (X : Cx) (W : WX) (e : Expr) (t : Ex) : Prop := DE Γ X W e (ev (callF fs k) t) ∧ DT Γ X W e (test (callF fs k) t)
theorem bad2 {e : Expr} : Both fs Γ k X W e .bad := ⟨by rw [ev_bad]; exact de_bad, by rw [test_bad]; exact dt_bad⟩
theorem both_plain {e : Expr} {t : Ex} (h : DE Γ X W e (ev (callF fs k) t)) (hp : plainX t = true) (hi : ∀ whole, isTrue e X.env whole = (do let v ← whole; standAt e.pos; holding [v] (truthy v))) : Both fs Γ k X W e t :=
  ⟨h, by rw [test_plain hp]; exact dt_val h hi⟩
theorem sound_args {tr : Expr → Ex} (ih : ∀ e, DE Γ X W e (ev (callF fs k) (tr e))) : ∀ {es : List Expr}, es.any star = false → DA Γ X W es (evs (callF fs k) (exs (es.map tr)))
  | [], _ => by
    show DA Γ X W [] (evs _ .nil)
    rw [evs_nil]
    exact da_nil
  | e :: es, h => by
    rw [List.any_cons, Bool.or_eq_false_iff] at h
    show DA Γ X W (e :: es) (evs _ (.cons (tr e) (exs (es.map tr))))
    rw [evs_cons]
    exact da_cons h.1 (ih e) (sound_args ih h.2)
theorem sound_stars {tr : Expr → Ex} (hK : X.K = Γ.K) (ih : ∀ e, DE Γ X W e (ev (callF fs k) (tr e))) : ∀ {es : List Expr}, DA Γ X W es (evS (callF fs k) (exs (es.map fun e => tr (unstar e))) (es.map star))
  | [] => by
    show DA Γ X W [] (evS _ .nil [])
    rw [evS_nil]
    exact da_nil
  | e :: es => by
    have r := sound_stars hK ih (es := es)
    by_cases h : star e = true
    · cases e <;> first | (cases h; done) | skip
      rename_i e' sp
      show DA Γ X W (.Starred e' sp :: es) (evS _ (.cons (tr e') _) (true :: _))
      rw [evS_star]
      exact da_star hK (ih e') r
    · have h' : star e = false := by simpa using h
      have eu : unstar e = e := by cases e <;> first | rfl | (cases h'; done)
      show DA Γ X W (e :: es) (evS _ (.cons (tr (unstar e)) _) (star e :: _))
      rw [h', eu, evS_cons]
      exact da_cons h' (ih e) r
theorem sound_tys {sc0 sc : Scope} (c : Cok g fs Γ N k X sc0 sc W) : ∀ {es : List Expr} {ts : List Ty}, tysOf sc es = some ts → PA X es (fun _ H Q => Q (ts.map fun t => V.ty (tyName t)) H)
  | [], ts, h => by
    cases h
    exact pa_nil
  | e :: es, ts, h => by
    cases e <;> first | (cases h; done) | skip
    rename_i T p2
    unfold tysOf at h
    by_cases hg : isGl sc T = true
    · rw [if_pos hg] at h
      cases q1 : tyOf T with
      | none => rw [q1] at h; cases h
      | some t =>
        cases q2 : tysOf sc es with
        | none => rw [q1, q2] at h; cases h
        | some ts' =>
          rw [q1, q2] at h
          cases h
          have e1 := tyOf_name q1
          subst e1
          have h1 := (c.gl hg).1
          have h2 : X.mg (Str.ofString (tyName t)) = none := c.bi _ (by cases t <;> decide)
          have pty : PE X (.Name (Str.ofString (tyName t)) p2) (tC (.ty (tyName t))) := by
            cases t <;> exact pe_bltn h1 h2 (by decide +kernel) rfl (by decide) (by decide)
          exact pa_cons pty (sound_tys c q2) rfl
    · rw [if_neg hg] at h; cases h
theorem plainO_base {o : Expr} {m : Str} {env : Env} (h : plainO o = true) : attributeBase o m env (eval o env) = eval o env := by
  cases o <;> first | rfl | (cases h; done)
theorem sound_met {tr : Expr → Ex} {o : Expr} {m : Str} {apos cpos : Pos} {args : List Expr} (hK : X.K = Γ.K) (ih : ∀ e, DE Γ X W e (ev (callF fs k) (tr e))) : DE Γ X W (.Call (.Attribute o m apos) args [] cpos) (ev (callF fs k) (trMet o m apos cpos args (tr o) (args.map tr))) := by
  unfold trMet
  by_cases h : plainO o = true ∧ (apos.endLine == cpos.line) = true ∧ args.any star = false ∧ args.length < 30
  · rw [if_pos h]
    cases q : meOf m with
    | none => exact bad2.1
    | some me =>
      dsimp only
      have e := meOf_name q
      subst e
      rw [ev_met]
      cases args with
      | nil =>
        show DE Γ X W _ (fun en h => bnd (ev (callF fs k) (tr o) en h) fun x h1 => optR (refOf h1 x) fun _ => bnd (evs (callF fs k) .nil en h1) fun ds h2 => metOp me x ds h2)
        rw [evs_nil]
        exact de_met0 hK (plainO_base h.1) h.2.1 (ih o)
      | cons a r => exact de_met hK (plainO_base h.1) h.2.1 h.2.2.1 h.2.2.2 (ih o) (sound_args ih h.2.2.1)
  · rw [if_neg h]; exact bad2.1
theorem sound_bool {tr : Expr → Ex} (ih : ∀ e, Both fs Γ k X W e (tr e)) (op : BoolOp) (pos : Pos) : ∀ es : List Expr, DE Γ X W (.BoolOp op es pos) (ev (callF fs k) (trB op (es.map tr))) ∧ (es ≠ [] → DW Γ X W (.BoolOp op es pos) (test (callF fs k) (trB op (es.map tr))))
  | [] => ⟨bad2.1, fun z => absurd rfl z⟩
  | [a] => ⟨de_one (ih a).1, fun _ => dw_one (ih a).2⟩
  | a :: b :: r => by
    have h2 := sound_bool ih op pos (b :: r)
    cases op with
    | And =>
      show DE Γ X W _ (ev _ (.and (tr a) (trB .And ((b :: r).map tr)))) ∧ (_ → DW Γ X W _ (test _ (.and (tr a) (trB .And ((b :: r).map tr)))))
      rw [ev_and, test_and]
      exact ⟨de_and (ih a).1 h2.1, fun _ => dt_and (ih a).2 (h2.2 (by simp))⟩
    | Or =>
      show DE Γ X W _ (ev _ (.or (tr a) (trB .Or ((b :: r).map tr)))) ∧ (_ → DW Γ X W _ (test _ (.or (tr a) (trB .Or ((b :: r).map tr)))))
      rw [ev_or, test_or]
      exact ⟨de_or (ih a).1 h2.1, fun _ => dt_or (ih a).2 (h2.2 (by simp))⟩
theorem sound_name {sc0 sc : Scope} {x : Str} {pos : Pos} (c : Cok g fs Γ N k X sc0 sc W) : DE Γ X W (.Name x pos) (ev (callF fs k) (trName g N sc x)) := by
  unfold trName
  by_cases ho : odd x = true
  · rw [if_pos ho]; exact bad2.1
  · rw [if_neg ho]
    have hd : (x == ("__debug__" : Str)) = false ∧ (x == ("__classdict__" : Str)) = false := by
      unfold odd at ho
      simpa using ho
    have hv : Vis X.env.scope x → DE Γ X W (.Name x pos) (ev (callF fs k) (match ixOf N x with | some i => .var i | none => .bad)) := fun v => by
      cases q : ixOf N x with
      | none => exact bad2.1
      | some i =>
        dsimp only
        rw [ev_var]
        exact de_var (by rw [c.hN]; exact ixOf_get q) v hd.1 hd.2
    have hsc := c.hsc
    cases q : sc.names.lookup x with
    | none => exact bad2.1
    | some kd =>
      cases kd with
      | «local» => exact hv (.inl (by rw [hsc]; exact q))
      | cell => exact hv (.inr (.inl (by rw [hsc]; exact q)))
      | free => exact hv (.inr (.inr (by rw [hsc]; exact q)))
      | globalImplicit =>
        dsimp only
        cases q2 : g.cons.lookup x with
        | none => exact bad2.1
        | some d =>
          dsimp only
          rw [ev_con]
          obtain ⟨u, v, hm, rv, rep⟩ := c.cons x d q2
          exact de_glob (by show X.env.scope.names.lookup x = _; rw [hsc]; exact q) hm rv hd.1 rep
      | globalExplicit => exact bad2.1
theorem sound_call {sc0 sc : Scope} {tr : Expr → Ex} {f : Str} {args : List Expr} {p pos : Pos} (c : Cok g fs Γ N k X sc0 sc W) (ih : ∀ e, DE Γ X W e (ev (callF fs k) (tr e))) : DE Γ X W (.Call (.Name f p) args [] pos) (ev (callF fs k) (trCall g sc f args (args.map tr))) := by
  unfold trCall
  by_cases h : isGl sc f = false ∨ args.any star = true
  · rw [if_pos h]; exact bad2.1
  · rw [if_neg h]
    have h1 : isGl sc f = true := by
      cases q : isGl sc f with
      | true => rfl
      | false => exact absurd (.inl q) h
    have h2 : args.any star = false := by
      cases q : args.any star with
      | false => rfl
      | true => exact absurd (.inr q) h
    obtain ⟨hg, hdb⟩ := c.gl h1
    cases q : g.fns.lookup f with
    | some i =>
      dsimp only
      obtain ⟨fn, a, fd, e1, e2, e3, e4, e5, e6⟩ := c.fns i f q
      subst e2
      rw [ev_call]
      cases args with
      | nil =>
        show DE Γ X W _ (fun en h => bnd (evs (callF fs k) .nil en h) fun ds h1 => callF fs k i ds h1)
        rw [evs_nil]
        exact de_call0 e1 e6 c.room hg e3 e4 e5 c.tk hdb
      | cons e es => exact de_call e1 e6 c.room hg e3 e4 e5 c.tk h2 hdb (sound_args ih h2)
    | none =>
      dsimp only
      rcases args with _ | ⟨a, _ | ⟨b, _ | ⟨_, _⟩⟩⟩
      · exact bad2.1
      · show DE Γ X W _ (ev _ (match biOf f with | some b => .bi b (tr a) | none => .bad))
        cases q2 : biOf f with
        | none => exact bad2.1
        | some b =>
          dsimp only
          rw [ev_bi]
          have e := biOf_name q2
          subst e
          have hs : star a = false := by simpa using h2
          exact de_bi c.hK c.calm hg (c.bi _ (by cases b <;> decide)) hs (ih a)
      · cases b with
        | Name T p2 =>
          show DE Γ X W _ (ev _ (if decide (f = "isinstance") && isGl sc T then match tyOf T with | some t => .isi (tr a) t | none => .bad else .bad))
          by_cases h3 : (decide (f = "isinstance") && isGl sc T) = true
          · rw [if_pos h3]
            rw [Bool.and_eq_true] at h3
            have e := of_decide_eq_true h3.1
            subst e
            cases q3 : tyOf T with
            | none => exact bad2.1
            | some t =>
              dsimp only
              rw [ev_isi]
              have e := tyOf_name q3
              subst e
              have hs : star a = false := by
                rw [List.any_cons, Bool.or_eq_false_iff] at h2
                exact h2.1
              exact de_isi c.hK hg (c.bi _ (by decide)) (c.gl h3.2).1 (c.bi _ (by cases t <;> decide)) hs (ih a)
          · rw [if_neg h3]; exact bad2.1
        | Tuple cs kk p2 =>
          show DE Γ X W _ (ev _ (if decide (f = "isinstance") then match tysOf sc cs with | some ts => if ts.length ≤ 30 then .isis (tr a) ts else .bad | none => .bad else .bad))
          by_cases h3 : decide (f = "isinstance") = true
          · rw [if_pos h3]
            have e := of_decide_eq_true h3
            subst e
            cases q3 : tysOf sc cs with
            | none => exact bad2.1
            | some ts =>
              dsimp only
              by_cases h4 : ts.length ≤ 30
              · rw [if_pos h4, ev_isis]
                have hs : star a = false := by
                  rw [List.any_cons, Bool.or_eq_false_iff] at h2
                  exact h2.1
                exact de_isis c.hK hg (c.bi _ (by decide)) (sound_tys c q3) h4 hs (ih a)
              · rw [if_neg h4]; exact bad2.1
          · rw [if_neg h3]; exact bad2.1
        | _ => exact bad2.1
      · cases b <;> exact bad2.1
theorem sound_T {sc0 sc : Scope} {tr : Expr → Ex} (c : Cok g fs Γ N k X sc0 sc W) (ih : ∀ e, DE Γ X W e (ev (callF fs k) (tr e))) : ∀ (n : Nat) (tg : Expr), DG Γ X tg (slots (trT g N tr n sc0 sc tg)) (asgn (callF fs k) (trT g N tr n sc0 sc tg)) := by
  have bad : ∀ tg, DG Γ X tg (slots (.sub .bad .bad)) (asgn (callF fs k) (.sub .bad .bad)) := fun tg => by rw [asgn_bad]; exact dg_bad
  intro n
  induction n with
  | zero => exact bad
  | succ n ihn =>
    intro tg
    cases tg with
    | Name x p =>
      show DG Γ X _ (slots (match ixOf N x with | some i => if sc.names.lookup x = some .local ∨ (sc.names.lookup x = some .cell ∧ sc0.names.lookup x = some .cell) then .name i else .sub .bad .bad | none => .sub .bad .bad)) (asgn _ (match ixOf N x with | some i => if sc.names.lookup x = some .local ∨ (sc.names.lookup x = some .cell ∧ sc0.names.lookup x = some .cell) then .name i else .sub .bad .bad | none => .sub .bad .bad))
      cases q : ixOf N x with
      | none => exact bad _
      | some i =>
        dsimp only
        by_cases h : sc.names.lookup x = some .local ∨ (sc.names.lookup x = some .cell ∧ sc0.names.lookup x = some .cell)
        · rw [if_pos h, asgn_name]
          have hsc := c.hsc
          refine dg_name (by rw [c.hN]; exact c.nd) (by rw [c.hN]; exact ixOf_get q) ?_ ?_
          · rcases h with h | h
            · exact .inl (by rw [hsc]; exact h)
            · exact .inr (by rw [hsc]; exact h.1)
          · rcases h with h | h
            · exact .inr (by rw [hsc]; exact h)
            · exact .inl (c.hfn x h.2)
        · rw [if_neg h]; exact bad _
    | Tuple es kk p =>
      show DG Γ X _ (slots (if es.any star = true then .sub .bad .bad else .tup (tgs (es.map (trT g N tr n sc0 sc))))) (asgn _ (if es.any star = true then .sub .bad .bad else .tup (tgs (es.map (trT g N tr n sc0 sc)))))
      by_cases h : es.any star = true
      · rw [if_pos h]; exact bad _
      · rw [if_neg h, asgn_tup]
        have h' : es.any star = false := by simpa using h
        refine dg_tup c.hK c.calm h' (fun ds en hh hl => asgns_len _ ds en hh (by rw [List.length_map]; exact hl)) ?_
        have all : ∀ es : List Expr, es.any star = false → DGs Γ X es (slotss (tgs (es.map (trT g N tr n sc0 sc)))) (asgns (callF fs k) (tgs (es.map (trT g N tr n sc0 sc)))) := by
          intro es
          induction es with
          | nil =>
            intro _
            show DGs Γ X [] [] (asgns _ .nil)
            rw [asgns_nil]
            exact dgs_nil
          | cons e es ihe =>
            intro h
            rw [List.any_cons, Bool.or_eq_false_iff] at h
            show DGs Γ X (e :: es) (slots _ ++ slotss _) (asgns _ (.cons (trT g N tr n sc0 sc e) (tgs (es.map (trT g N tr n sc0 sc)))))
            rw [asgns_cons]
            exact dgs_cons h.1 (ihn e) (ihe h.2)
        exact all es h'
    | Subscript o i p =>
      show DG Γ X _ (slots (if isSlice i = true then .sub .bad .bad else .sub (tr o) (tr i))) (asgn _ (if isSlice i = true then .sub .bad .bad else .sub (tr o) (tr i)))
      by_cases h : isSlice i = true
      · rw [if_pos h]; exact bad _
      · rw [if_neg h, asgn_sub]
        exact dg_sub (ih o) (ih i) (fun v => by cases i <;> first | rfl | exact absurd rfl h)
    | _ => exact bad _
theorem sound_I {sc0 sc : Scope} {tr : Expr → Ex} (c : Cok g fs Γ N k X sc0 sc W) (ih : ∀ e, DE Γ X W e (ev (callF fs k) (tr e))) (tg e : Expr) : DI Γ X W tg e (evi (callF fs k) (trI tg sc tr e)) := by
  have sq : DI Γ X W tg e (evi (callF fs k) (.seq (tr e))) := by
    rw [evi_seq]
    exact di_seq c.hK (ih e)
  have bad : DI Γ X W tg e (evi (callF fs k) (.seq .bad)) := by
    rw [evi_seq, ev_bad]
    exact di_bad
  unfold trI
  split
  · rename_i f p a pos
    by_cases hs : star a = true
    · rw [if_pos hs]; exact bad
    · rw [if_neg hs]
      have hs' : star a = false := by simpa using hs
      by_cases h1 : (decide (f = "range") && isGl sc f) = true
      · rw [if_pos h1, evi_rng1]
        rw [Bool.and_eq_true] at h1
        have e := of_decide_eq_true h1.1
        subst e
        exact di_rng1 (c.gl h1.2).1 (c.bi _ (by decide)) hs' (ih a)
      · rw [if_neg h1]
        by_cases h2 : (decide (f = "enumerate") && isGl sc f && isTuple tg) = true
        · rw [if_pos h2, evi_enum]
          rw [Bool.and_eq_true, Bool.and_eq_true] at h2
          have e := of_decide_eq_true h2.1.1
          subst e
          cases tg <;> first | exact Bool.noConfusion h2.2 | exact di_enum c.hK (c.gl h2.1.2).1 (c.bi _ (by decide)) hs' (ih a)
        · rw [if_neg h2]; exact sq
  · rename_i f p a b pos
    by_cases hs : star a = true ∨ star b = true
    · rw [if_pos hs]; exact bad
    · rw [if_neg hs]
      have hs' : star a = false ∧ star b = false := by simpa using hs
      by_cases h1 : (decide (f = "range") && isGl sc f) = true
      · rw [if_pos h1, evi_rng2]
        rw [Bool.and_eq_true] at h1
        have e := of_decide_eq_true h1.1
        subst e
        exact di_rng2 (c.gl h1.2).1 (c.bi _ (by decide)) hs'.1 hs'.2 (ih a) (ih b)
      · rw [if_neg h1]
        by_cases h2 : (decide (f = "zip") && isGl sc f && isTuple tg) = true
        · rw [if_pos h2, evi_zip]
          rw [Bool.and_eq_true, Bool.and_eq_true] at h2
          have e := of_decide_eq_true h2.1.1
          subst e
          cases tg <;> first | exact Bool.noConfusion h2.2 | exact di_zip c.hK (c.gl h2.1.2).1 (c.bi _ (by decide)) hs'.1 hs'.2 (ih a) (ih b)
        · rw [if_neg h2]; exact sq
  · rename_i f p a b d pos
    by_cases hs : [a, b, d].any star = true
    · rw [if_pos hs]; exact bad
    · rw [if_neg hs]
      have hs' : [a, b, d].any star = false := by simpa using hs
      by_cases h1 : (decide (f = "range") && isGl sc f) = true
      · rw [if_pos h1, evi_rng3]
        rw [Bool.and_eq_true] at h1
        have e := of_decide_eq_true h1.1
        subst e
        exact di_rng3 (c.gl h1.2).1 (c.bi _ (by decide)) hs' (sound_args ih hs')
      · rw [if_neg h1]; exact sq
  · exact sq
end
end PD

set_option Elab.async false
set_option linter.all false
set_option maxRecDepth 100000
set_option maxHeartbeats 4000000
namespace PD
open PySem PySem.Spec PyProof.Rows L2
section
variable {g : GT} {fs : List Fn} {Γ : Wd} {N : List Str} {k : Nat}
theorem plainIx {b : Expr} (h : ¬ isSlice b = true) : PlainIx b := fun o i => by cases b <;> first | rfl | exact absurd rfl h
theorem notSet {iter : Expr} {env : Env} (h : isSet iter = false) : ∀ x, foldedSetIterable iter env x = pure x := fun x => by cases iter <;> first | rfl | exact Bool.noConfusion h
theorem slots_sub {sl : List Nat} {own : List (Str × Nat)} (h : sl.all (fun j => (own.map (·.2)).contains j) = true) : ∀ j ∈ sl, j ∈ own.map (·.2) := fun j hj => by
  have := List.all_eq_true.mp h j hj
  simpa using this
/-- the comprehension, as a value and as what a name is set to -/
theorem sound_comp {X : Cx} {sc0 sc : Scope} {W : WX} {n : Nat} {elt tg iter : Expr} {ifs : List Expr} {scope : Scope} {pos : Pos} {ct : Ex} (c : Cok g fs Γ N k X sc0 sc W)
    (ih : ∀ X sc0 sc W e, Cok g fs Γ N k X sc0 sc W → Both fs Γ k X W e (trE g N n sc0 sc e))
    (hts : ∀ X', Cok g fs Γ N k X' scope (relS scope sc) (fun _ _ _ _ => False) → DTs Γ X' (fun _ _ _ _ => False) ifs (test (callF fs k) ct))
    (hh : blkC N sc scope (ownOf N scope) = true ∧ isSet iter = false ∧ (slots (trT g N (trE g N n scope (relS scope sc)) n scope (relS scope sc) tg)).all (fun j => ((ownOf N scope).map (·.2)).contains j) = true) :
    ∃ t, (PE X (.ListComp elt [⟨tg, iter, ifs, 0⟩] scope pos) t ∧
      (∀ {i : Nat} {y : Str} {py spos : Pos}, X.N[i]? = some y → X.env.scope.names.lookup y = some .local → swapsWith (.ListComp elt [⟨tg, iter, ifs, 0⟩] scope pos) (some (.Name y py)) spos.line X.env = pure true →
        PS X (.Assign [.Name y py] (.ListComp elt [⟨tg, iter, ifs, 0⟩] scope pos) spos) (tAsg t (gName i)))) ∧
      ∀ α h H en σ Q, HR Γ.K α h H → ER Γ.K α H en σ → Pst Γ (RV Γ) α H (ev (callF fs k) (.comp (trI tg sc (trE g N n sc0 sc) iter) (trT g N (trE g N n scope (relS scope sc)) n scope (relS scope sc) tg) ct (trE g N n scope (relS scope sc) elt) ((ownOf N scope).map (·.2))) en h) Q (fun c d H' => W c d σ H') → t σ H Q := by
  have ok : BlkOk X.N X.env.scope scope (ownOf N scope) := by
    rw [c.hN, c.hsc]
    exact blkOk_by hh.1
  have cb := fun s H C cl fp => c.blk s H scope C cl fp ok.kind
  rw [ev_comp]
  exact de_comp c.calm (by rw [c.hN]; exact c.nd) (sound_I c (fun e => (ih X sc0 sc W e c).1) tg iter) ok (slots_sub hh.2.2)
    (fun s H C cl fp => sound_T (cb s H C cl fp) (fun e => (ih _ _ _ _ e (cb s H C cl fp)).1) n tg)
    (fun s H C cl fp => hts _ (cb s H C cl fp))
    (fun s H C cl fp => (ih _ _ _ _ elt (cb s H C cl fp)).1) (notSet hh.2.1)
theorem sound_comp2 {X : Cx} {sc0 sc : Scope} {W : WX} {n : Nat} {elt tg iter tg1 iter1 : Expr} {ifs1 : List Expr} {scope : Scope} {pos : Pos} {ct : Ex} (c : Cok g fs Γ N k X sc0 sc W)
    (ih : ∀ X sc0 sc W e, Cok g fs Γ N k X sc0 sc W → Both fs Γ k X W e (trE g N n sc0 sc e))
    (hts : ∀ X', Cok g fs Γ N k X' scope (relS scope sc) (fun _ _ _ _ => False) → DTs Γ X' (fun _ _ _ _ => False) ifs1 (test (callF fs k) ct)) :
    ∃ t, (PE X (.ListComp elt [⟨tg, iter, [], 0⟩, ⟨tg1, iter1, ifs1, 0⟩] scope pos) t ∧
      (∀ {i : Nat} {y : Str} {py spos : Pos}, X.N[i]? = some y → X.env.scope.names.lookup y = some .local → swapsWith (.ListComp elt [⟨tg, iter, [], 0⟩, ⟨tg1, iter1, ifs1, 0⟩] scope pos) (some (.Name y py)) spos.line X.env = pure true →
        PS X (.Assign [.Name y py] (.ListComp elt [⟨tg, iter, [], 0⟩, ⟨tg1, iter1, ifs1, 0⟩] scope pos) spos) (tAsg t (gName i)))) ∧
      ∀ α h H en σ Q, HR Γ.K α h H → ER Γ.K α H en σ → Pst Γ (RV Γ) α H (ev (callF fs k) (trC2 N sc scope iter iter1 (trI tg sc (trE g N n sc0 sc) iter) (trI tg1 (relS scope sc) (trE g N n scope (relS scope sc)) iter1) (trT g N (trE g N n scope (relS scope sc)) n scope (relS scope sc) tg) (trT g N (trE g N n scope (relS scope sc)) n scope (relS scope sc) tg1) ct (trE g N n scope (relS scope sc) elt)) en h) Q (fun c d H' => W c d σ H') → t σ H Q := by
  unfold trC2
  split
  · rename_i hh
    have ok : BlkOk X.N X.env.scope scope (ownOf N scope) := by
      rw [c.hN, c.hsc]
      exact blkOk_by hh.1
    have cb := fun s H C cl fp => c.blk s H scope C cl fp ok.kind
    rw [ev_comp2]
    exact de_comp2 c.calm (by rw [c.hN]; exact c.nd) (sound_I c (fun e => (ih X sc0 sc W e c).1) tg iter) ok (slots_sub hh.2.2.2.1) (fun j hj => hj) (slots_sub hh.2.2.2.2)
      (fun s H C cl fp => sound_T (cb s H C cl fp) (fun e => (ih _ _ _ _ e (cb s H C cl fp)).1) n tg)
      (fun s H C cl fp => sound_I (cb s H C cl fp) (fun e => (ih _ _ _ _ e (cb s H C cl fp)).1) tg1 iter1)
      (fun s H C cl fp => sound_T (cb s H C cl fp) (fun e => (ih _ _ _ _ e (cb s H C cl fp)).1) n tg1)
      (fun s H C cl fp => hts _ (cb s H C cl fp))
      (fun s H C cl fp => (ih _ _ _ _ elt (cb s H C cl fp)).1) (notSet hh.2.1) (fun env => notSet hh.2.2.1)
  · exact ⟨fun _ _ _ => False, ⟨⟨fun _ _ _ _ _ _ h => h.elim⟩, fun _ _ _ => ⟨fun _ _ _ _ _ _ h => h.elim⟩⟩, fun α h H en σ Q _ _ q => by rw [ev_bad] at q; exact q⟩
theorem tr_c2_bad {n : Nat} {sc0 sc : Scope} {elt tg iter tg1 iter1 : Expr} {ifs ifs1 : List Expr} {ay ay1 : Int} {scope : Scope} {pos : Pos} (h : ¬ (ay = 0 ∧ ay1 = 0 ∧ ifs = [] ∧ ifs1.length ≤ 1)) :
    trE g N (n + 1) sc0 sc (.ListComp elt [⟨tg, iter, ifs, ay⟩, ⟨tg1, iter1, ifs1, ay1⟩] scope pos) = .bad := by
  unfold trE
  split <;> simp_all
theorem tr_c3_bad {n : Nat} {sc0 sc : Scope} {elt tg iter : Expr} {ifs : List Expr} {ay : Int} {g2 g3 : Comprehension} {gs : List Comprehension} {scope : Scope} {pos : Pos} :
    trE g N (n + 1) sc0 sc (.ListComp elt (⟨tg, iter, ifs, ay⟩ :: g2 :: g3 :: gs) scope pos) = .bad := by
  unfold trE
  split <;> simp_all
theorem sound : ∀ (n : Nat) (X : Cx) (sc0 sc : Scope) (W : WX) (e : Expr), Cok g fs Γ N k X sc0 sc W → Both fs Γ k X W e (trE g N n sc0 sc e) := by
  intro n
  induction n with
  | zero => exact fun X sc0 sc W e c => bad2
  | succ n ih =>
    intro X sc0 sc W e c
    have ihE : ∀ e, DE Γ X W e (ev (callF fs k) (trE g N n sc0 sc e)) := fun e => (ih X sc0 sc W e c).1
    cases e with
    | Constant cc j pos =>
      refine both_plain ?_ plain_c (fun _ => rfl)
      cases cc with
      | int i => show DE Γ X W _ (ev _ (.con _)); rw [ev_con]; exact de_int
      | bool i => show DE Γ X W _ (ev _ (.con _)); rw [ev_con]; exact de_bl
      | str i => show DE Γ X W _ (ev _ (.con _)); rw [ev_con]; exact de_str
      | none => show DE Γ X W _ (ev _ (.con _)); rw [ev_con]; exact de_non
      | _ => exact bad2.1
    | Name x pos => exact both_plain (sound_name c) plain_name (fun _ => rfl)
    | Tuple es kk pos =>
      show Both fs Γ k X W _ (if es.any star = true then .tupS (es.map star) (exs (es.map fun e => trE g N n sc0 sc (unstar e))) else .tup (exs (es.map (trE g N n sc0 sc))))
      by_cases h : es.any star = true
      · rw [if_pos h]
        refine both_plain ?_ rfl (fun _ => rfl)
        rw [ev_tupS]
        exact de_tup (sound_stars c.hK ihE)
      · rw [if_neg h]
        refine both_plain ?_ rfl (fun _ => rfl)
        rw [ev_tup]
        exact de_tup (sound_args ihE (by simpa using h))
    | List es pos =>
      show Both fs Γ k X W _ (if es.any star = true then .lstS (es.map star) (exs (es.map fun e => trE g N n sc0 sc (unstar e))) else .lst (exs (es.map (trE g N n sc0 sc))))
      by_cases h : es.any star = true
      · rw [if_pos h]
        refine both_plain ?_ rfl (fun _ => rfl)
        rw [ev_lstS]
        exact de_lst (sound_stars c.hK ihE)
      · rw [if_neg h]
        refine both_plain ?_ rfl (fun _ => rfl)
        rw [ev_lst]
        exact de_lst (sound_args ihE (by simpa using h))
    | BinOp a op b pos =>
      refine both_plain ?_ rfl (fun _ => rfl)
      show DE Γ X W _ (ev _ (.bin op _ _))
      rw [ev_bin]
      exact de_bin (ops_bin c.hK op) (ihE a) (ihE b)
    | UnaryOp op a pos =>
      cases op with
      | USub =>
        refine both_plain ?_ rfl (fun _ => rfl)
        show DE Γ X W _ (ev _ (.neg _))
        rw [ev_neg]
        exact de_neg (ihE a)
      | Not =>
        show Both fs Γ k X W _ (.not _)
        refine ⟨?_, ?_⟩
        · rw [ev_not]; exact de_not (ihE a)
        · rw [test_not]; exact dt_not (ih X sc0 sc W a c).2
      | _ => exact bad2
    | BoolOp op es pos =>
      have h := sound_bool (fun e => ih X sc0 sc W e c) op pos es
      refine ⟨h.1, ?_⟩
      cases es with
      | nil => exact bad2.2
      | cons a r => exact (h.2 (by simp)).dt
    | Compare a ops bs pos =>
      rcases ops with _ | ⟨op, _ | ⟨op', _ | ⟨_, _⟩⟩⟩
      · exact bad2
      · rcases bs with _ | ⟨b, _ | ⟨_, _⟩⟩
        · exact bad2
        · show Both fs Γ k X W _ (if behindInMarks op b = true then .bad else .cmp op _ _)
          by_cases h : behindInMarks op b = true
          · rw [if_pos h]; exact bad2
          · rw [if_neg h]
            have h' : behindInMarks op b = false := by simpa using h
            have o : OpS Γ X (compareOp op) (cmpOp op) := ops_cmp c.hK c.room op
            refine ⟨?_, ?_⟩
            · rw [ev_cmp]; exact de_cmp h' o (ihE a) (ihE b)
            · rw [test_plain rfl, ev_cmp]; exact dt_cmp h' o (ihE a) (ihE b)
        · exact bad2
      · rcases bs with _ | ⟨b, _ | ⟨d, _ | ⟨_, _⟩⟩⟩
        · exact bad2
        · exact bad2
        · show Both fs Γ k X W _ (if lastMarks [op, op'] [b, d] = true then .bad else .chain op op' _ _ _)
          by_cases h : lastMarks [op, op'] [b, d] = true
          · rw [if_pos h]; exact bad2
          · rw [if_neg h]
            have h' : lastMarks [op, op'] [b, d] = false := by simpa using h
            have o : OpS Γ X (compareOp op) (cmpOp op) := ops_cmp c.hK c.room op
            have o' : OpS Γ X (compareOp op') (cmpOp op') := ops_cmp c.hK c.room op'
            refine ⟨?_, ?_⟩
            · rw [ev_chain]; exact de_chain h' o o' (ihE a) (ihE b) (ihE d)
            · rw [test_plain rfl, ev_chain]; exact dt_chain h' o o' (ihE a) (ihE b) (ihE d)
        · exact bad2
      · rcases bs with _ | ⟨b, _ | ⟨d, _ | ⟨_, _⟩⟩⟩ <;> exact bad2
    | IfExp t a b pos =>
      show Both fs Γ k X W _ (.ite _ _ _)
      refine ⟨?_, ?_⟩
      · rw [ev_ite]; exact de_ite (ih X sc0 sc W t c).2 (ihE a) (ihE b)
      · rw [test_ite]; exact dt_bad
    | Subscript a b pos =>
      have key : ¬ isSlice b = true → Both fs Γ k X W (.Subscript a b pos) (.ix (trE g N n sc0 sc a) (trE g N n sc0 sc b)) := fun h => by
        refine both_plain ?_ rfl (fun _ => rfl)
        rw [ev_ix]
        exact de_ix c.hK (plainIx h) (ihE a) (ihE b)
      cases b with
      | Slice lo hi st p2 =>
        cases st with
        | none =>
          refine both_plain ?_ rfl (fun _ => rfl)
          show DE Γ X W _ (ev _ (.sl _ _ _))
          rw [ev_sl]
          refine de_sl c.hK (ihE a) ?_ ?_
          · cases lo with
            | none => dsimp only; rw [evo_none]; exact do_none
            | some l => dsimp only; rw [evo_some]; exact do_some (ihE l)
          · cases hi with
            | none => dsimp only; rw [evo_none]; exact do_none
            | some l => dsimp only; rw [evo_some]; exact do_some (ihE l)
        | some s => exact bad2
      | _ => exact key (fun z => by cases z)
    | Call f args kws pos =>
      cases f with
      | Name x p =>
        cases kws with
        | nil => exact both_plain (sound_call c ihE) plain_call (fun _ => rfl)
        | cons _ _ => exact bad2
      | Attribute o m apos =>
        cases kws with
        | nil => exact both_plain (sound_met c.hK ihE) plain_met (fun _ => rfl)
        | cons _ _ => exact bad2
      | _ => exact bad2
    | ListComp elt gens scope pos =>
      rcases gens with _ | ⟨⟨tg, iter, ifs, ay⟩, _ | ⟨_, _⟩⟩
      · exact bad2
      · by_cases ha : ay = 0
        · subst ha
          rcases ifs with _ | ⟨t, _ | ⟨_, _⟩⟩
          · show Both fs Γ k X W _ (if _ then _ else _)
            by_cases hh : blkC N sc scope (ownOf N scope) = true ∧ isSet iter = false ∧ (slots (trT g N (trE g N n scope (relS scope sc)) n scope (relS scope sc) tg)).all (fun j => ((ownOf N scope).map (·.2)).contains j) = true
            · rw [if_pos hh]
              refine both_plain ?_ rfl (fun _ => rfl)
              obtain ⟨tt, p1, p2⟩ := sound_comp (elt := elt) (ifs := []) (pos := pos) (ct := .con (.bl true)) c ih (fun X' _ => by rw [test_true]; exact dts_nil) hh
              exact ⟨tt, p1.1, p2⟩
            · rw [if_neg hh]; exact bad2
          · show Both fs Γ k X W _ (if _ then _ else _)
            by_cases hh : blkC N sc scope (ownOf N scope) = true ∧ isSet iter = false ∧ (slots (trT g N (trE g N n scope (relS scope sc)) n scope (relS scope sc) tg)).all (fun j => ((ownOf N scope).map (·.2)).contains j) = true
            · rw [if_pos hh]
              refine both_plain ?_ rfl (fun _ => rfl)
              obtain ⟨tt, p1, p2⟩ := sound_comp (elt := elt) (ifs := [t]) (pos := pos) (ct := trE g N n scope (relS scope sc) t) c ih (fun X' cx => dts_one (ih _ _ _ _ t cx).2) hh
              exact ⟨tt, p1.1, p2⟩
            · rw [if_neg hh]; exact bad2
          · exact bad2
        · have e : trE g N (n + 1) sc0 sc (.ListComp elt [⟨tg, iter, ifs, ay⟩] scope pos) = .bad := by
            rcases ifs with _ | ⟨t, _ | ⟨_, _⟩⟩ <;> (unfold trE; split <;> first | rfl | (rename_i z; simp_all))
          rw [e]
          exact bad2
      · rename_i g2 gs
        rcases gs with _ | ⟨g3, gs⟩
        · obtain ⟨tg1, iter1, ifs1, ay1⟩ := g2
          by_cases ha : ay = 0 ∧ ay1 = 0 ∧ ifs = [] ∧ ifs1.length ≤ 1
          · obtain ⟨rfl, rfl, rfl, hl⟩ := ha
            rcases ifs1 with _ | ⟨t, _ | ⟨_, _⟩⟩
            · refine both_plain ?_ plain_c2 (fun _ => rfl)
              obtain ⟨tt, p1, p2⟩ := sound_comp2 (elt := elt) (tg := tg) (iter := iter) (tg1 := tg1) (iter1 := iter1) (ifs1 := []) (scope := scope) (pos := pos) (ct := .con (.bl true)) c ih (fun X' _ => by rw [test_true]; exact dts_nil)
              exact ⟨tt, p1.1, p2⟩
            · refine both_plain ?_ plain_c2 (fun _ => rfl)
              obtain ⟨tt, p1, p2⟩ := sound_comp2 (elt := elt) (tg := tg) (iter := iter) (tg1 := tg1) (iter1 := iter1) (ifs1 := [t]) (scope := scope) (pos := pos) (ct := trE g N n scope (relS scope sc) t) c ih (fun X' cx => dts_one (ih _ _ _ _ t cx).2)
              exact ⟨tt, p1.1, p2⟩
            · simp at hl
          · rw [tr_c2_bad ha]
            exact bad2
        · rw [tr_c3_bad]
          exact bad2
    | _ => exact bad2
end
end PD

set_option Elab.async false
set_option linter.all false
set_option maxRecDepth 100000
set_option maxHeartbeats 4000000
namespace PD
open PySem PySem.Spec PyProof.Rows L2
/-! ### statements of the text -/
def swN (sc : Scope) (x : Str) (pline vline : Nat) (scope : Scope) : Bool := sc.names.lookup x == some .local && pline == vline && !(scope.names.any fun (n, k) => n == x && (k == .local || k == .cell))
def namesOf (sc : Scope) (line : Nat) (ts : List Expr) : List Str := ts.filterMap fun
  | .Name id pos => if sc.names.lookup id == some .local && pos.line == line then some id else none
  | _ => none
def swS (sc : Scope) (ts vs : List Expr) : Option (Option (List Str)) :=
  if (!(ts.length == 2 || ts.length == 3) || vs.length != ts.length) = true then some none
  else if vs.any star = true then some none
  else if ((namesOf sc ((ts.head?.map (·.pos.line)).getD 0) ts).length != ts.length || (namesOf sc ((ts.head?.map (·.pos.line)).getD 0) ts).eraseDups.length != (namesOf sc ((ts.head?.map (·.pos.line)).getD 0) ts).length) = true then some none
  else if vs.all (foldedForSure 8) = true then some none
  else if vs.all (constantsAlone 8) = true then none
  else some (some (namesOf sc ((ts.head?.map (·.pos.line)).getD 0) ts))
theorem kind_block {env : Env} {sc : Scope} (h : env.scope = sc) (hk : sc.kind = .function) : env.blockKind = .function := by
  unfold Env.blockKind
  rw [h, hk]
  rfl
theorem sw_ok {env : Env} {sc : Scope} {ts vs : List Expr} {k1 k2 : Nat} {p1 p2 : Pos} {r : Option (List Str)} (h : env.scope = sc) (hk : sc.kind = .function) (e : swS sc ts vs = some r) : swappedStores [.Tuple ts k1 p1] (.Tuple vs k2 p2) env = pure r := by
  have hb := kind_block h hk
  subst h
  unfold swS at e
  unfold swappedStores
  simp only [hb, bne_self_eq_false, Bool.or_false]
  change (if (!(ts.length == 2 || ts.length == 3) || vs.length != ts.length) = true then (pure none : Sem (Option (List Str))) else if vs.any star = true then pure none
    else if ((namesOf env.scope ((ts.head?.map (·.pos.line)).getD 0) ts).length != ts.length || (namesOf env.scope ((ts.head?.map (·.pos.line)).getD 0) ts).eraseDups.length != (namesOf env.scope ((ts.head?.map (·.pos.line)).getD 0) ts).length) = true then pure none
    else if vs.all (foldedForSure 8) = true then pure none else if vs.all (constantsAlone 8) = true then _ else _) = _
  by_cases c1 : (!(ts.length == 2 || ts.length == 3) || vs.length != ts.length) = true
  · rw [if_pos c1] at e ⊢; cases e; rfl
  · rw [if_neg c1] at e ⊢
    by_cases c2 : vs.any star = true
    · rw [if_pos c2] at e ⊢; cases e; rfl
    · rw [if_neg c2] at e ⊢
      by_cases c3 : ((namesOf env.scope ((ts.head?.map (·.pos.line)).getD 0) ts).length != ts.length || (namesOf env.scope ((ts.head?.map (·.pos.line)).getD 0) ts).eraseDups.length != (namesOf env.scope ((ts.head?.map (·.pos.line)).getD 0) ts).length) = true
      · rw [if_pos c3] at e ⊢; cases e; rfl
      · rw [if_neg c3] at e ⊢
        by_cases c4 : vs.all (foldedForSure 8) = true
        · rw [if_pos c4] at e ⊢; cases e; rfl
        · rw [if_neg c4] at e ⊢
          by_cases c5 : vs.all (constantsAlone 8) = true
          · rw [if_pos c5] at e; cases e
          · rw [if_neg c5] at e ⊢; cases e; rfl
theorem sw_name {env : Env} {sc : Scope} {x : Str} {p pos : Pos} {elt : Expr} {gens : List Comprehension} {scope : Scope} {line : Nat} (h : env.scope = sc) (hk : sc.kind = .function) :
    swapsWith (.ListComp elt gens scope pos) (some (.Name x p)) line env = pure (swN sc x p.line pos.line scope) := by
  have hb := kind_block h hk
  subst h
  unfold swapsWith
  simp only [hb]
  rfl
theorem sw_else {env : Env} {tg : Option Expr} {e : Expr} {line : Nat} (h : isComp e = false) : swapsWith e tg line env = pure false := by
  cases e <;> first | rfl | exact Bool.noConfusion h
def isName : Expr → Bool
  | .Name .. => true
  | _ => false
theorem sw_tg {env : Env} {tg e : Expr} {line : Nat} (h : isName tg = false) : swapsWithSole [tg] e line env = pure false := by
  show swapsWith e (some tg) line env = pure false
  cases e <;> first | rfl | (cases tg <;> first | rfl | exact Bool.noConfusion h)
theorem stores_none {env : Env} {tg e : Expr} (h : isTuple tg = false ∨ isTuple e = false) : (∀ es p, tg ≠ .List es p) → swappedStores [tg] e env = pure none := fun hl => by
  rcases h with h | h
  · cases tg <;> first | exact Bool.noConfusion h | rfl | exact absurd rfl (hl _ _)
  · cases e <;> first | exact Bool.noConfusion h | (cases tg <;> rfl)
def isListX : Expr → Bool
  | .List .. => true
  | _ => false
def trPar2 (sc : Scope) (N : List Str) (x y : Str) (es : Exs) : Sx := match ixOf N x, ixOf N y with
  | some i, some j => if i ≠ j ∧ sc.names.lookup x = some .local ∧ sc.names.lookup y = some .local then .par [i, j] es else .bad
  | _, _ => .bad
def trPar3 (sc : Scope) (N : List Str) (x y z : Str) (es : Exs) : Sx := match ixOf N x, ixOf N y, ixOf N z with
  | some i, some j, some l => if i ≠ j ∧ i ≠ l ∧ j ≠ l ∧ sc.names.lookup x = some .local ∧ sc.names.lookup y = some .local ∧ sc.names.lookup z = some .local then .par [i, j, l] es else .bad
  | _, _, _ => .bad
def trAsg (g : GT) (N : List Str) (n : Nat) (sc0 sc : Scope) (tg e : Expr) : Sx :=
  if star tg = true ∨ isListX tg = true then .bad else
  match tg, e with
  | .Tuple ts _ _, .Tuple vs _ _ => match swS sc ts vs with
    | none => .bad
    | some none => .asg (trT g N (trE g N n sc0 sc) n sc0 sc tg) (trE g N n sc0 sc e)
    | some (some names) => if vs.any star = true then .bad else match ts, vs with
      | [.Name x _, .Name y _], [_, _] => if names = [x, y] then trPar2 sc N x y (exs (vs.map (trE g N n sc0 sc))) else .bad
      | [.Name x _, .Name y _, .Name z _], [_, _, _] => if names = [x, y, z] then trPar3 sc N x y z (exs (vs.map (trE g N n sc0 sc))) else .bad
      | _, _ => .bad
  | .Name x p, .ListComp _ _ scope pos => if swN sc x p.line pos.line scope = true then (match ixOf N x with
      | some i => if sc.names.lookup x = some .local then .asg (.name i) (trE g N n sc0 sc e) else .bad
      | none => .bad) else .asg (trT g N (trE g N n sc0 sc) n sc0 sc tg) (trE g N n sc0 sc e)
  | tg, e => if (isComp e && isName tg) = true then .bad else .asg (trT g N (trE g N n sc0 sc) n sc0 sc tg) (trE g N n sc0 sc e)
def trAug (N : List Str) (sc0 sc : Scope) (x : Str) (op : Operator) (e : Ex) : Sx := match ixOf N x with
  | some i => if (op = .Add ∨ op = .Sub) ∧ (sc.names.lookup x = some .local ∨ (sc.names.lookup x = some .cell ∧ sc0.names.lookup x = some .cell)) then .aug i op e else .bad
  | none => .bad
def isStrC : Expr → Bool
  | .Constant (.str _) _ _ => true
  | _ => false
mutual
def trS (g : GT) (N : List Str) : Nat → Scope → Scope → Stmt → Sx
  | 0, _, _, _ => .bad
  | n + 1, sc0, sc, st => match st with
    | .Expr e _ => if isStrC e = true then .skip else if isComp e = true then .bad else .expr (trE g N n sc0 sc e)
    | .Return (some e) _ => .ret (trE g N n sc0 sc e)
    | .Return none _ => .retN
    | .Pass _ => .skip
    | .Break _ => .brk
    | .Continue _ => .cont
    | .If c a b _ => .ife (trE g N n sc0 sc c) (trSs g N n sc0 sc a) (trSs g N n sc0 sc b)
    | .While c b [] _ => .whl (trE g N n sc0 sc c) (trSs g N n sc0 sc b)
    | .For tg it b [] _ => if isSet it = true then .bad else .for_ (trI tg sc (trE g N n sc0 sc) it) (trT g N (trE g N n sc0 sc) n sc0 sc tg) (trSs g N n sc0 sc b)
    | .Assign [tg] e _ => trAsg g N n sc0 sc tg e
    | .AugAssign (.Name x _) op e _ => trAug N sc0 sc x op (trE g N n sc0 sc e)
    | _ => .bad
def trSs (g : GT) (N : List Str) : Nat → Scope → Scope → List Stmt → Sx
  | 0, _, _, _ => .bad
  | n + 1, sc0, sc, sts => match sts with
    | [] => .skip
    | st :: r => .seq (trS g N n sc0 sc st) (trSs g N n sc0 sc r)
end
section
variable {cl : Nat → List D → Hh → R D}
theorem exec_asg {t e} : exec cl (.asg t e) = fun en h => bndS (ev cl e en h) en fun d h1 => bndS (noExc (asgn cl t d en h1)) en fun en2 h2 => .nx en2 h2 := by funext en h; rw [exec]
theorem exec_par {is es} : exec cl (.par is es) = fun en h => bndS (evs cl es en h) en fun ds h1 => match parSet is ds en with | some en' => .nx en' h1 | none => .bad := by funext en h; rw [exec] <;> rfl
theorem exec_aug {i op e} : exec cl (.aug i op e) = augX i op (ev cl e) := by funext en h; rw [exec] <;> rfl
theorem exec_expr {e} : exec cl (.expr e) = fun en h => bndS (ev cl e en h) en fun _ h1 => .nx en h1 := by funext en h; rw [exec]
theorem exec_ret {e} : exec cl (.ret e) = fun en h => bndS (ev cl e en h) en fun d h1 => .rt d h1 := by funext en h; rw [exec]
theorem exec_retN : exec cl .retN = fun _ h => .rt .non h := by funext en h; rw [exec]
theorem exec_ife {c a b} : exec cl (.ife c a b) = fun en h => bndS (test cl c en h) en fun k h1 => if k = true then exec cl a en h1 else exec cl b en h1 := by funext en h; rw [exec]
theorem exec_whl {c b} : exec cl (.whl c b) = fun en h => whileLoop (test cl c) (exec cl b) turns en h := by funext en h; rw [exec]
theorem exec_for {it t b} : exec cl (.for_ it t b) = fun en h => bndS (evi cl it en h) en fun I h1 => forLoop I (asgn cl t) (exec cl b) turns 0 en h1 := by funext en h; rw [exec]
theorem exec_brk : exec cl .brk = fun en h => .bk en h := by funext en h; rw [exec]
theorem exec_cont : exec cl .cont = fun en h => .ct en h := by funext en h; rw [exec]
theorem exec_skip : exec cl .skip = fun en h => .nx en h := by funext en h; rw [exec]
theorem exec_seq {a b} : exec cl (.seq a b) = fun en h => thenS (exec cl a en h) (exec cl b) := by funext en h; rw [exec]
theorem exec_bad : exec cl .bad = fun _ _ => .bad := by funext en h; rw [exec]
end
section
variable {g : GT} {fs : List Fn} {Γ : Wd} {N : List Str} {k : Nat} {X : Cx} {W : WX} {sc0 sc : Scope}
theorem badS {st : Stmt} : DS Γ X W st (exec (callF fs k) .bad) := by rw [exec_bad]; exact ds_bad
theorem sound_set_comp {i : Nat} {x : Str} {p pos pc : Pos} {elt : Expr} {gens : List Comprehension} {scope : Scope} (c : Cok g fs Γ N k X sc0 sc W) (hi : X.N[i]? = some x) (hl : X.env.scope.names.lookup x = some .local)
    (hsw : swapsWith (.ListComp elt gens scope pc) (some (.Name x p)) pos.line X.env = pure true) : ∀ n : Nat,
    ∃ t, PS X (.Assign [.Name x p] (.ListComp elt gens scope pc) pos) (tAsg t (gName i)) ∧ ∀ α h H en σ Q, HR Γ.K α h H → ER Γ.K α H en σ → Pst Γ (RV Γ) α H (ev (callF fs k) (trE g N n sc0 sc (.ListComp elt gens scope pc)) en h) Q (fun c d H' => W c d σ H') → t σ H Q := by
  have bad : ∃ t, PS X (.Assign [.Name x p] (.ListComp elt gens scope pc) pos) (tAsg t (gName i)) ∧ ∀ α h H en σ Q, HR Γ.K α h H → ER Γ.K α H en σ → Pst Γ (RV Γ) α H (ev (callF fs k) .bad en h) Q (fun c d H' => W c d σ H') → t σ H Q :=
    ⟨fun _ _ _ => False, ⟨fun _ _ _ _ _ _ h => h.elim⟩, fun α h H en σ Q _ _ q => by rw [ev_bad] at q; exact q⟩
  intro n
  cases n with
  | zero => exact bad
  | succ n =>
    have ih := fun X sc0 sc W e c => sound (g := g) (fs := fs) (Γ := Γ) (N := N) (k := k) n X sc0 sc W e c
    rcases gens with _ | ⟨⟨tg, iter, ifs, ay⟩, _ | ⟨g2, gs⟩⟩
    · exact bad
    · by_cases ha : ay = 0
      · subst ha
        rcases ifs with _ | ⟨t, _ | ⟨_, _⟩⟩
        · by_cases hh : blkC N sc scope (ownOf N scope) = true ∧ isSet iter = false ∧ (slots (trT g N (trE g N n scope (relS scope sc)) n scope (relS scope sc) tg)).all (fun j => ((ownOf N scope).map (·.2)).contains j) = true
          · obtain ⟨tt, p1, p2⟩ := sound_comp (elt := elt) (ifs := []) (pos := pc) (ct := .con (.bl true)) c ih (fun X' _ => by rw [test_true]; exact dts_nil) hh
            refine ⟨tt, p1.2 hi hl hsw, fun α h H en σ Q hr er q => p2 _ _ _ _ _ _ hr er ?_⟩
            have e : trE g N (n + 1) sc0 sc (.ListComp elt [⟨tg, iter, [], 0⟩] scope pc) = _ := if_pos hh
            rw [e] at q
            exact q
          · have e : trE g N (n + 1) sc0 sc (.ListComp elt [⟨tg, iter, [], 0⟩] scope pc) = _ := if_neg hh
            rw [e]
            exact bad
        · by_cases hh : blkC N sc scope (ownOf N scope) = true ∧ isSet iter = false ∧ (slots (trT g N (trE g N n scope (relS scope sc)) n scope (relS scope sc) tg)).all (fun j => ((ownOf N scope).map (·.2)).contains j) = true
          · obtain ⟨tt, p1, p2⟩ := sound_comp (elt := elt) (ifs := [t]) (pos := pc) (ct := trE g N n scope (relS scope sc) t) c ih (fun X' cx => dts_one (ih _ _ _ _ t cx).2) hh
            refine ⟨tt, p1.2 hi hl hsw, fun α h H en σ Q hr er q => p2 _ _ _ _ _ _ hr er ?_⟩
            have e : trE g N (n + 1) sc0 sc (.ListComp elt [⟨tg, iter, [t], 0⟩] scope pc) = _ := if_pos hh
            rw [e] at q
            exact q
          · have e : trE g N (n + 1) sc0 sc (.ListComp elt [⟨tg, iter, [t], 0⟩] scope pc) = _ := if_neg hh
            rw [e]
            exact bad
        · exact bad
      · have e : trE g N (n + 1) sc0 sc (.ListComp elt [⟨tg, iter, ifs, ay⟩] scope pc) = .bad := by
          rcases ifs with _ | ⟨t, _ | ⟨_, _⟩⟩ <;> (unfold trE; split <;> first | rfl | (rename_i z; simp_all))
        rw [e]
        exact bad
    · rcases gs with _ | ⟨g3, gs⟩
      · obtain ⟨tg1, iter1, ifs1, ay1⟩ := g2
        by_cases ha : ay = 0 ∧ ay1 = 0 ∧ ifs = [] ∧ ifs1.length ≤ 1
        · obtain ⟨rfl, rfl, rfl, hl'⟩ := ha
          rcases ifs1 with _ | ⟨t, _ | ⟨_, _⟩⟩
          · obtain ⟨tt, p1, p2⟩ := sound_comp2 (elt := elt) (tg := tg) (iter := iter) (tg1 := tg1) (iter1 := iter1) (ifs1 := []) (scope := scope) (pos := pc) (ct := .con (.bl true)) c ih (fun X' _ => by rw [test_true]; exact dts_nil)
            exact ⟨tt, p1.2 hi hl hsw, p2⟩
          · obtain ⟨tt, p1, p2⟩ := sound_comp2 (elt := elt) (tg := tg) (iter := iter) (tg1 := tg1) (iter1 := iter1) (ifs1 := [t]) (scope := scope) (pos := pc) (ct := trE g N n scope (relS scope sc) t) c ih (fun X' cx => dts_one (ih _ _ _ _ t cx).2)
            exact ⟨tt, p1.2 hi hl hsw, p2⟩
          · simp at hl'
        · rw [tr_c2_bad ha]
          exact bad
      · rw [tr_c3_bad]
        exact bad
theorem sound_asg {n : Nat} {tg e : Expr} {pos : Pos} (c : Cok g fs Γ N k X sc0 sc W) : DS Γ X W (.Assign [tg] e pos) (exec (callF fs k) (trAsg g N n sc0 sc tg e)) := by
  have ihE : ∀ e, DE Γ X W e (ev (callF fs k) (trE g N n sc0 sc e)) := fun e => (sound n X sc0 sc W e c).1
  have gen : star tg = false → swapsWithSole [tg] e pos.line X.env = pure false → swappedStores [tg] e X.env = pure none → DS Γ X W (.Assign [tg] e pos) (exec (callF fs k) (.asg (trT g N (trE g N n sc0 sc) n sc0 sc tg) (trE g N n sc0 sc e))) := fun h1 h2 h3 => by
    rw [exec_asg]
    exact ds_asg h2 h3 h1 (ihE e) (sound_T c ihE n tg)
  unfold trAsg
  by_cases h0 : star tg = true ∨ isListX tg = true
  · rw [if_pos h0]; exact badS
  · rw [if_neg h0]
    have hst : star tg = false := by
      cases q : star tg with
      | false => rfl
      | true => exact absurd (.inl q) h0
    have hnl : ∀ es p, tg ≠ .List es p := fun es p z => by
      subst z
      exact h0 (.inr rfl)
    split
    · rename_i ts k1 p1 vs k2 p2
      cases q : swS sc ts vs with
      | none => exact badS
      | some r =>
        have hw : swappedStores [.Tuple ts k1 p1] (.Tuple vs k2 p2) X.env = pure r := sw_ok c.hsc c.kind q
        cases r with
        | none => exact gen hst (sw_tg rfl) hw
        | some names =>
          dsimp only
          by_cases hv : vs.any star = true
          · rw [if_pos hv]; exact badS
          · rw [if_neg hv]
            have hv' : vs.any star = false := by simpa using hv
            split
            · rename_i x px y py a b
              by_cases hn : names = [x, y]
              · rw [if_pos hn]
                subst hn
                unfold trPar2
                cases q1 : ixOf N x with
                | none => exact badS
                | some i =>
                  cases q2 : ixOf N y with
                  | none => exact badS
                  | some j =>
                    dsimp only
                    by_cases hc : i ≠ j ∧ sc.names.lookup x = some .local ∧ sc.names.lookup y = some .local
                    · rw [if_pos hc, exec_par]
                      have hsc := c.hsc
                      exact ds_par2 c.calm (by rw [c.hN]; exact c.nd) (by rw [c.hN]; exact ixOf_get q1) (by rw [c.hN]; exact ixOf_get q2) hc.1 (by rw [hsc]; exact hc.2.1) (by rw [hsc]; exact hc.2.2) hw (sound_args ihE hv')
                    · rw [if_neg hc]; exact badS
              · rw [if_neg hn]; exact badS
            · rename_i x px y py z pz a b d
              by_cases hn : names = [x, y, z]
              · rw [if_pos hn]
                subst hn
                unfold trPar3
                cases q1 : ixOf N x with
                | none => exact badS
                | some i =>
                  cases q2 : ixOf N y with
                  | none => exact badS
                  | some j =>
                    cases q3 : ixOf N z with
                    | none => exact badS
                    | some l =>
                      dsimp only
                      by_cases hc : i ≠ j ∧ i ≠ l ∧ j ≠ l ∧ sc.names.lookup x = some .local ∧ sc.names.lookup y = some .local ∧ sc.names.lookup z = some .local
                      · rw [if_pos hc, exec_par]
                        have hsc := c.hsc
                        exact ds_par3 c.calm (by rw [c.hN]; exact c.nd) (by rw [c.hN]; exact ixOf_get q1) (by rw [c.hN]; exact ixOf_get q2) (by rw [c.hN]; exact ixOf_get q3) hc.1 hc.2.1 hc.2.2.1 (by rw [hsc]; exact hc.2.2.2.1) (by rw [hsc]; exact hc.2.2.2.2.1) (by rw [hsc]; exact hc.2.2.2.2.2) hw (sound_args ihE hv')
                      · rw [if_neg hc]; exact badS
              · rw [if_neg hn]; exact badS
            · exact badS
    · rename_i x p elt gens scope pc
      have hsw := sw_name (elt := elt) (gens := gens) (scope := scope) (pos := pc) (x := x) (p := p) (line := pos.line) c.hsc c.kind
      by_cases hs : swN sc x p.line pc.line scope = true
      · rw [if_pos hs]
        cases q : ixOf N x with
        | none => exact badS
        | some i =>
          dsimp only
          by_cases hl : sc.names.lookup x = some .local
          · rw [if_pos hl, exec_asg, asgn_name]
            rw [hs] at hsw
            exact ds_setLc (sound_set_comp c (by rw [c.hN]; exact ixOf_get q) (by rw [c.hsc]; exact hl) hsw n)
          · rw [if_neg hl]; exact badS
      · rw [if_neg hs]
        have hs' : swN sc x p.line pc.line scope = false := by simpa using hs
        rw [hs'] at hsw
        exact gen rfl hsw rfl
    · rename_i h1 h2
      by_cases hc : (isComp e && isName tg) = true
      · rw [if_pos hc]; exact badS
      · rw [if_neg hc]
        have hc' : isComp e = false ∨ isName tg = false := by
          cases q1 : isComp e with
          | false => exact .inl rfl
          | true =>
            cases q2 : isName tg with
            | false => exact .inr rfl
            | true => exact absurd (by rw [q1, q2]; rfl) hc
        refine gen hst (hc'.elim sw_else sw_tg) ?_
        refine stores_none ?_ hnl
        cases q1 : isTuple tg with
        | false => exact .inl rfl
        | true =>
          cases q2 : isTuple e with
          | false => exact .inr rfl
          | true =>
            exfalso
            cases tg <;> first | exact Bool.noConfusion q1 | skip
            cases e <;> first | exact Bool.noConfusion q2 | skip
            exact h1 _ _ _ _ _ _ rfl rfl
theorem sound_aug {x : Str} {op : Operator} {e : Expr} {px pos : Pos} {t : Ex} (c : Cok g fs Γ N k X sc0 sc W) (ih : DE Γ X W e (ev (callF fs k) t)) : DS Γ X W (.AugAssign (.Name x px) op e pos) (exec (callF fs k) (trAug N sc0 sc x op t)) := by
  unfold trAug
  cases q : ixOf N x with
  | none => exact badS
  | some i =>
    dsimp only
    split
    · rename_i h
      rw [exec_aug]
      have hsc := c.hsc
      refine ds_aug h.1 (by rw [c.hN]; exact c.nd) (by rw [c.hN]; exact ixOf_get q) ?_ ?_ ih
      · rcases h.2 with h | h
        · exact .inl (by rw [hsc]; exact h)
        · exact .inr (by rw [hsc]; exact h.1)
      · rcases h.2 with h | h
        · exact .inr (by rw [hsc]; exact h)
        · exact .inl (c.hfn x h.2)
    · exact badS
theorem sound_S (hp : PassesOwn (model X.prog X.w) X.A X.env X.xe) (c : Cok g fs Γ N k X sc0 sc W) : ∀ n : Nat, (∀ st, DS Γ X W st (exec (callF fs k) (trS g N n sc0 sc st))) ∧ (∀ sts, DSs Γ X W sts (exec (callF fs k) (trSs g N n sc0 sc sts))) := by
  intro n
  induction n with
  | zero =>
    refine ⟨fun st => badS, fun sts => ?_⟩
    show DSs Γ X W sts (exec _ .bad)
    rw [exec_bad]
    exact ⟨_, pss_never, fun _ _ _ _ _ _ _ _ p => p⟩
  | succ n ih =>
    have ihB : ∀ e, Both fs Γ k X W e (trE g N n sc0 sc e) := fun e => sound n X sc0 sc W e c
    refine ⟨fun st => ?_, fun sts => ?_⟩
    · cases st with
      | Expr e pos =>
        show DS Γ X W _ (exec _ (if isStrC e = true then .skip else if isComp e = true then .bad else .expr _))
        by_cases h1 : isStrC e = true
        · rw [if_pos h1, exec_skip]
          cases e <;> first | exact Bool.noConfusion h1 | skip
          rename_i cc j p
          cases cc <;> first | exact Bool.noConfusion h1 | exact ds_doc
        · rw [if_neg h1]
          by_cases h2 : isComp e = true
          · rw [if_pos h2]; exact badS
          · rw [if_neg h2, exec_expr]
            exact ds_expr (sw_else (by simpa using h2)) (ihB e).1
      | Return v pos =>
        cases v with
        | none => show DS Γ X W _ (exec _ .retN); rw [exec_retN]; exact ds_retN
        | some e => show DS Γ X W _ (exec _ (.ret _)); rw [exec_ret]; exact ds_ret (ihB e).1
      | Pass pos => show DS Γ X W _ (exec _ .skip); rw [exec_skip]; exact ds_pass
      | Break pos => show DS Γ X W _ (exec _ .brk); rw [exec_brk]; exact ds_break
      | Continue pos => show DS Γ X W _ (exec _ .cont); rw [exec_cont]; exact ds_cont
      | If t a b pos => show DS Γ X W _ (exec _ (.ife _ _ _)); rw [exec_ife]; exact ds_if (ihB t).2 (ih.2 a) (ih.2 b)
      | While t b els pos =>
        cases els with
        | nil => show DS Γ X W _ (exec _ (.whl _ _)); rw [exec_whl]; exact ds_while hp (ihB t).2 (ih.2 b)
        | cons _ _ => exact badS
      | For tg it b els pos =>
        cases els with
        | nil =>
          show DS Γ X W _ (exec _ (if isSet it = true then .bad else .for_ _ _ _))
          by_cases h : isSet it = true
          · rw [if_pos h]; exact badS
          · rw [if_neg h, exec_for]
            exact ds_for hp c.calm (notSet (by simpa using h)) (sound_I c (fun e => (ihB e).1) tg it) (sound_T c (fun e => (ihB e).1) n tg) (ih.2 b)
        | cons _ _ => exact badS
      | Assign tgs e pos =>
        rcases tgs with _ | ⟨tg, _ | ⟨_, _⟩⟩
        · exact badS
        · exact sound_asg c
        · exact badS
      | AugAssign tg op e pos =>
        cases tg with
        | Name x px => exact sound_aug c (ihB e).1
        | _ => exact badS
      | _ => exact badS
    · cases sts with
      | nil => show DSs Γ X W _ (exec _ .skip); rw [exec_skip]; exact dss_nil
      | cons st r => show DSs Γ X W _ (exec _ (.seq _ _)); rw [exec_seq]; exact dss_cons (ih.1 st) (ih.2 r)
end
end PD

set_option Elab.async false
set_option linter.all false
set_option maxRecDepth 100000
set_option maxHeartbeats 4000000
namespace PD
open PySem PySem.Spec PyProof.Rows L2
section
variable {P : Program} {w : World} {K : PySem.W.Frag} {mg : Str → Option Value} {base : Heap} {g : GT} {fs : List Fn} {Γ : Wd}
theorem er_start {α : List Addr} {H : Hp} {N : List Str} {ds : List D} {vs : List V} (r : Reps Γ.K α H ds vs) : ER Γ.K α H (startE N ds) (L2.start N vs) := by
  unfold startE L2.start
  refine ⟨by simp [r.length], fun i d h => ?_⟩
  have hl := r.length
  by_cases c : i < ds.length
  · rw [List.getElem?_append_left (by simpa using c), List.getElem?_map] at h
    cases q : ds[i]? with
    | none => rw [q] at h; cases h
    | some d' =>
      rw [q] at h
      cases h
      obtain ⟨v, e, rv⟩ := r.get q
      exact ⟨v, by rw [List.getElem?_append_left (by simp; omega), List.getElem?_map, e]; rfl, rv⟩
  · rw [List.getElem?_append_right (by simpa using c), List.getElem?_replicate] at h
    split at h <;> cases h
theorem end_post {α : List Addr} {H : Hp} {r : RS} {Q : VK} {E : XK} (p : Pst Γ (RV Γ) α H (endOf r) Q E) : PstS Γ α H r { nx := fun _ H' => Q .non H', rt := Q } (fun cls d _ H => E cls d H) := by
  cases r with
  | nx en h => exact fun α' H' σ' st hr er => p _ _ _ st hr .non
  | rt d h => exact p
  | bk en h => exact False.elim p
  | ct en h => exact False.elim p
  | exc c x en h => exact fun α' H' σ' cls d st hr er xr => p _ _ _ _ st hr xr
  | bad => exact p
/-- what the top says of one def -/
structure FnAt (K : PySem.W.Frag) (mg : Str → Option Value) (g : GT) (n : Nat) (f : Fn) (st : Stmt) (a : Addr) (fd : FuncData) : Prop where
  fn : Fun K f.name f.name st a fd
  mg : mg f.name = some (.ref a)
  bd : Binds K fd f.ps []
  sc : FnScope f.N f.ps (defScope st)
  tr : trSs g f.N n (defScope st) (defScope st) (defBody st) = f.body
/-- what the module says -/
structure ModAt (K : PySem.W.Frag) (mg : Str → Option Value) (g : GT) (fs : List Fn) (Γ : Wd) (n : Nat) : Prop where
  hK : K = Γ.K
  names : g.fns = fs.map fun f => (f.name, f.id)
  ids : (fs.map (·.id)).Nodup
  cons : ∀ x d, g.cons.lookup x = some d → ∃ u v, mg x = some u ∧ RelV v u ∧ ∀ α H, Rep Γ.K α H d v
  bi : ∀ x ∈ bnames, mg x = none
  fns : ∀ f, f ∈ fs → ∃ st a fd, FnAt K mg g n f st a fd
theorem fget_mem : ∀ {fs : List Fn} {f : Fn}, (fs.map (·.id)).Nodup → f ∈ fs → fget fs f.id = some f
  | [], _, _, h => by cases h
  | e :: r, f, nd, h => by
    rw [List.map_cons, List.nodup_cons] at nd
    unfold fget
    rw [List.find?_cons]
    rcases List.mem_cons.mp h with q | q
    · subst q
      simp
    · have ne : (e.id == f.id) = false := by
        rw [beq_eq_false_iff_ne]
        intro z
        exact nd.1 (by rw [z]; exact List.mem_map.mpr ⟨f, q, rfl⟩)
      rw [ne]
      exact fget_mem nd.2 q
theorem lookup_mem {l : List (Str × Nat)} {x : Str} {i : Nat} (h : l.lookup x = some i) : (x, i) ∈ l := PySem.mem_of_lookup h
theorem fn_zero (M : ModAt K mg g fs Γ n) {i : Nat} {f : Fn} {st : Stmt} {a : Addr} {fd : FuncData} : FnOk P w K mg base (L2.CX P w) 0 a fd f.ps (spF Γ fs 0 i f.ps.length) :=
  ⟨fun vs H Q E h => h.1, fun A outer s H args us vs Q E hr e0 hb r h => by
    obtain ⟨_, α, hh, ds, _, _, p⟩ := h
    exact False.elim p⟩
theorem fn_succ {n k : Nat} (M : ModAt K mg g fs Γ n) (ih : ∀ f, f ∈ fs → ∀ st a fd, FnAt K mg g n f st a fd → FnOk P w K mg base (L2.CX P w) k a fd f.ps (spF Γ fs k f.id f.ps.length))
    {f : Fn} {st : Stmt} {a : Addr} {fd : FuncData} (hm : f ∈ fs) (F : FnAt K mg g n f st a fd) : FnOk P w K mg base (L2.CX P w) (k + 1) a fd f.ps (spF Γ fs (k + 1) f.id f.ps.length) := by
  have hf := fget_mem M.ids hm
  refine F.fn.okX F.sc (fun vs H Q E h => h.1) (fun cdv A outer s H vs Q E hr h => ?_)
  obtain ⟨hl, α, hh, ds, hrel, rs, p⟩ := h
  unfold callF at p
  rw [hf] at p
  dsimp only at p
  rw [if_pos (by rw [rs.length]; exact hl)] at p
  have c : Cok g fs Γ f.N k (cxOf (L2.CX P w) P w K mg base f.N f.name (defScope st) a cdv A outer s H E) (defScope st) (defScope st) (fun cls d _ H => E cls d H) := by
    refine ⟨rfl, F.sc.nd, rfl, F.sc.kind, fun _ _ => rfl, rfl, hr, M.hK, M.cons, M.bi, fun j x hx => ?_, takes_of rfl rfl rfl rfl⟩
    rw [M.names] at hx
    obtain ⟨f', q, e⟩ := List.mem_map.mp (lookup_mem hx)
    cases e
    obtain ⟨st', a', fd', F'⟩ := M.fns f' q
    exact ⟨f', a', fd', fget_mem M.ids q, rfl, F'.mg, F'.fn.kp, F'.bd, ih f' q st' a' fd' F'⟩
  have hp : PassesOwn (model P w) (A.deeper (envOfC f.name (defScope st) s.heap.objs.size a cdv)) (envOfC f.name (defScope st) s.heap.objs.size a cdv) (cxOf (L2.CX P w) P w K mg base f.N f.name (defScope st) a cdv A outer s H E).xe :=
    passes_of (X := cxOf (L2.CX P w) P w K mg base f.N f.name (defScope st) a cdv A outer s H E) (K := fun e s'' => L2.CX P w outer H s E e s'') rfl
  obtain ⟨t, pt, kk⟩ := ((sound_S hp c n).2 (defBody st)).ex
  refine ⟨t, pt, kk _ _ _ _ _ _ hrel (er_start rs) ?_⟩
  rw [F.tr]
  exact end_post p
theorem fn_all {n : Nat} (M : ModAt K mg g fs Γ n) : ∀ (k : Nat) (f : Fn), f ∈ fs → ∀ st a fd, FnAt K mg g n f st a fd → FnOk P w K mg base (L2.CX P w) k a fd f.ps (spF Γ fs k f.id f.ps.length)
  | 0, f, hf, st, a, fd, F => fn_zero (st := st) M
  | k + 1, f, hf, st, a, fd, F => fn_succ M (fun f' hf' => fn_all M k f' hf') hf F
/-- the law's own promise, from the evaluation of its def -/
theorem law_post {i k : Nat} {H : Hp} {a : Addr} {ns : List Int} (hO : Only H) (hS : SqL Γ.K H a (ns.map V.int)) (e : ∃ h', callF fs k i [.scr ns] [] = .ok (.bl true) h') : spF Γ fs k i 1 [.ref a] H (fun v _ => v = .bl true) fun _ _ _ => False := by
  obtain ⟨h', e⟩ := e
  refine ⟨rfl, [], [], [.scr ns], ⟨rfl, List.nodup_nil, fun n a o h => by simp at h⟩, .cons (.scr ?_) .nil, ?_⟩
  · rcases hS with (s | ⟨o, s⟩) | s
    · rcases hO a with q | ⟨o, xs, q⟩
      · rw [q] at s; cases s
      · rw [q] at s; cases s
    · exact .inl ⟨o, s⟩
    · exact .inr s
  · rw [e]
    intro α' H' b st hr r
    cases r
    rfl
theorem noCX {H : Hp} {s s' : Shared} {e : Value} {outer : List Env} (h : L2.CX P w outer H s (fun _ _ _ => False) e s') : False := by
  obtain ⟨_, _, _, _, _, _, _, _, _, _, _, _, z⟩ := h
  exact z
def ConsAt (K : PySem.W.Frag) (mg : Str → Option Value) : List (Str × D) → Prop
  | [] => True
  | (x, d) :: r => (∃ u v, mg x = some u ∧ RelV v u ∧ ∀ α H, Rep K α H d v) ∧ ConsAt K mg r
theorem ConsAt.get : ∀ {l : List (Str × D)} {x : Str} {d : D}, ConsAt K mg l → l.lookup x = some d → ∃ u v, mg x = some u ∧ RelV v u ∧ ∀ α H, Rep K α H d v
  | [], _, _, _, h => by cases h
  | (y, e) :: r, x, d, c, h => by
    rw [List.lookup_cons] at h
    by_cases q : x = y
    · subst q
      simp only [beq_self_eq_true] at h
      cases h
      exact c.1
    · have : (x == y) = false := by simpa using q
      rw [this] at h
      exact ConsAt.get c.2 h
def BiAt (mg : Str → Option Value) : List Str → Prop
  | [] => True
  | x :: r => mg x = none ∧ BiAt mg r
theorem BiAt.get : ∀ {l : List Str}, BiAt mg l → ∀ x ∈ l, mg x = none
  | [], _, _, h => by cases h
  | y :: r, c, x, h => by
    rcases List.mem_cons.mp h with e | e
    · rw [e]; exact c.1
    · exact BiAt.get c.2 x e
def FnsAt (K : PySem.W.Frag) (mg : Str → Option Value) (g : GT) (n : Nat) : List Fn → Prop
  | [] => True
  | f :: r => (∃ st a fd, FnAt K mg g n f st a fd) ∧ FnsAt K mg g n r
theorem FnsAt.get {n : Nat} : ∀ {l : List Fn} {f : Fn}, FnsAt K mg g n l → f ∈ l → ∃ st a fd, FnAt K mg g n f st a fd
  | [], _, _, h => by cases h
  | e :: r, f, c, h => by
    rcases List.mem_cons.mp h with q | q
    · subst q
      exact c.1
    · exact FnsAt.get c.2 q
theorem mod_at {n : Nat} {ca : Nat → Addr} (hn : g.fns = fs.map fun f => (f.name, f.id)) (hi : (fs.map (·.id)).Nodup) (c : ConsAt K mg g.cons) (b : BiAt mg bnames) (f : FnsAt K mg g n fs) : ModAt K mg g fs ⟨K, ca⟩ n :=
  ⟨rfl, hn, hi, fun x d h => c.get h, b.get, fun f' h => f.get h⟩
theorem rep_tupK {α : List Addr} {H : Hp} {a : Addr} {dd : Option Addr} {its : List Value} {n : Nat} {sl : Array (Option Value)} {ds : List D} (vs : List V) (y : K.lookup a = some ⟨.type "tuple", dd, .seq its.toArray n, sl⟩) (v : Vals vs its) (hz : its.length ≤ sizeLine) (r : Reps K α H ds vs) : Rep K α H (.tup ds) (.ref a) :=
  .tup (.inr ⟨_, _, _, y, rfl, rfl, by simpa using hz, by simpa using v⟩) r
end
end PD

set_option Elab.async false
set_option linter.all false
set_option maxRecDepth 100000
namespace L_onenumber_k25_numbers_by_hand
open PD PySem
def gt : GT := ⟨([(("is_integer" : Str), (512 : Nat)), (("divisor_of" : Str), (441 : Nat)), (("is_fraction" : Str), (509 : Nat)), (("lowest" : Str), (570 : Nat)), (("add" : Str), (375 : Nat)), (("less" : Str), (566 : Nat)), (("mul" : Str), (582 : Nat)), (("div" : Str), (440 : Nat)), (("order_of" : Str), (635 : Nat)), (("is_pair" : Str), (523 : Nat)), (("turn_of" : Str), (724 : Nat)), (("joined" : Str), (550 : Nat)), (("spread_by" : Str), (696 : Nat)), (("need_pairs" : Str), (608 : Nat)), (("need_list" : Str), (604 : Nat)), (("measure" : Str), (571 : Nat)), (("is_along" : Str), (495 : Nat)), (("find_ends" : Str), (449 : Nat)), (("find_witness" : Str), (452 : Nat)), (("cross" : Str), (435 : Nat)), (("opposite_of" : Str), (634 : Nat)), (("round_of" : Str), (674 : Nat)), (("find_ring" : Str), (451 : Nat)), (("witness" : Str), (735 : Nat)), (("ring" : Str), (672 : Nat)), (("is_share" : Str), (536 : Nat)), (("is_ring" : Str), (533 : Nat)), (("weights_left" : Str), (731 : Nat)), (("are_rungs" : Str), (389 : Nat)), (("is_ladder" : Str), (515 : Nat)), (("need_ladder" : Str), (602 : Nat)), (("need_ladders" : Str), (603 : Nat)), (("sum_of_pays" : Str), (710 : Nat)), (("pays" : Str), (655 : Nat)), (("chain" : Str), (421 : Nat)), (("need_frame" : Str), (596 : Nat)), (("merge" : Str), (573 : Nat)), (("glued" : Str), (474 : Nat)), (("foremost_of" : Str), (461 : Nat)), (("beside_one_another" : Str), (401 : Nat)), (("shared" : Str), (683 : Nat)), (("glue" : Str), (473 : Nat)), (("side_by_side" : Str), (686 : Nat)), (("counts_together" : Str), (433 : Nat)), (("is_outcome" : Str), (522 : Nat)), (("counts_of" : Str), (432 : Nat)), (("is_term" : Str), (539 : Nat)), (("is_mix" : Str), (517 : Nat)), (("within" : Str), (734 : Nat)), (("parts_of" : Str), (652 : Nat)), (("factor_of" : Str), (446 : Nat)), (("step_pair" : Str), (703 : Nat)), (("frame_pairs" : Str), (468 : Nat)), (("find_ladder" : Str), (450 : Nat)), (("number_of" : Str), (628 : Nat)), (("need_term" : Str), (617 : Nat)), (("ladder_of" : Str), (553 : Nat)), (("numbers" : Str), (629 : Nat)), (("mix_ladder" : Str), (576 : Nat)), (("law" : Str), (556 : Nat))] : List (Str × Nat)), ([(("NOUGHT" : Str), ((.tup [(.int 0), (.int 1)]) : D)), (("WHOLE" : Str), ((.tup [(.int 1), (.int 1)]) : D)), (("NONE" : Str), ((.tup [(.tup [(.int 0), (.int 1)]), (.tup [(.int 0), (.int 1)])]) : D)), (("MOST_PAIRS" : Str), ((.int 80) : D)), (("MOST_RUNGS" : Str), ((.int 64) : D)), (("MOST_CHAINED" : Str), ((.int 16) : D)), (("MOST_OUTCOMES" : Str), ((.int 3) : D)), (("MOST_MEMBERS" : Str), ((.int 3) : D)), (("MOST_STEPS" : Str), ((.int 16) : D)), (("MOST_PARTS" : Str), ((.int 48) : D)), (("MOST_TERMS" : Str), ((.int 4) : D)), (("MOST_MIX_PARTS" : Str), ((.int 96) : D))] : List (Str × D))⟩
def f_is_integer : Fn := { id := 512, name := "is_integer", N := ["value"], ps := ["value"], body := (.seq (.ret (.and (.isi (.var 0) .int) (.not (.isi (.var 0) .bool)))) .skip) }
def f_divisor_of : Fn := { id := 441, name := "divisor_of", N := ["one", "other"], ps := ["one", "other"], body := (.seq (.par [0, 1] (.cons (.bi .abs (.var 0)) (.cons (.bi .abs (.var 1)) .nil))) (.seq (.whl (.cmp .NotEq (.var 1) (.con (.int 0))) (.seq (.par [0, 1] (.cons (.var 1) (.cons (.bin .Mod (.var 0) (.var 1)) .nil))) .skip)) (.seq (.ret (.var 0)) .skip))) }
def f_is_fraction : Fn := { id := 509, name := "is_fraction", N := ["value"], ps := ["value"], body := (.seq (.ife (.or (.not (.isi (.var 0) .tuple)) (.or (.cmp .NotEq (.bi .len (.var 0)) (.con (.int 2))) (.or (.not (.call 512 (.cons (.ix (.var 0) (.con (.int 0))) .nil))) (.not (.call 512 (.cons (.ix (.var 0) (.con (.int 1))) .nil)))))) (.seq (.ret (.con (.bl false))) .skip) .skip) (.seq (.ret (.and (.cmp .Gt (.ix (.var 0) (.con (.int 1))) (.con (.int 0))) (.cmp .Eq (.call 441 (.cons (.ix (.var 0) (.con (.int 0))) (.cons (.ix (.var 0) (.con (.int 1))) .nil))) (.con (.int 1))))) .skip)) }
def f_lowest : Fn := { id := 570, name := "lowest", N := ["top", "bottom", "shared"], ps := ["top", "bottom"], body := (.seq (.asg (.name 2) (.call 441 (.cons (.var 0) (.cons (.var 1) .nil)))) (.seq (.ife (.cmp .Lt (.var 1) (.con (.int 0))) (.seq (.asg (.name 2) (.bin .Sub (.con (.int 0)) (.var 2))) .skip) .skip) (.seq (.ret (.tup (.cons (.bin .FloorDiv (.var 0) (.var 2)) (.cons (.bin .FloorDiv (.var 1) (.var 2)) .nil)))) .skip))) }
def f_add : Fn := { id := 375, name := "add", N := ["one", "other"], ps := ["one", "other"], body := (.seq (.ret (.call 570 (.cons (.bin .Add (.bin .Mult (.ix (.var 0) (.con (.int 0))) (.ix (.var 1) (.con (.int 1)))) (.bin .Mult (.ix (.var 1) (.con (.int 0))) (.ix (.var 0) (.con (.int 1))))) (.cons (.bin .Mult (.ix (.var 0) (.con (.int 1))) (.ix (.var 1) (.con (.int 1)))) .nil)))) .skip) }
def f_less : Fn := { id := 566, name := "less", N := ["one", "other"], ps := ["one", "other"], body := (.seq (.ret (.call 570 (.cons (.bin .Sub (.bin .Mult (.ix (.var 0) (.con (.int 0))) (.ix (.var 1) (.con (.int 1)))) (.bin .Mult (.ix (.var 1) (.con (.int 0))) (.ix (.var 0) (.con (.int 1))))) (.cons (.bin .Mult (.ix (.var 0) (.con (.int 1))) (.ix (.var 1) (.con (.int 1)))) .nil)))) .skip) }
def f_mul : Fn := { id := 582, name := "mul", N := ["one", "other"], ps := ["one", "other"], body := (.seq (.ret (.call 570 (.cons (.bin .Mult (.ix (.var 0) (.con (.int 0))) (.ix (.var 1) (.con (.int 0)))) (.cons (.bin .Mult (.ix (.var 0) (.con (.int 1))) (.ix (.var 1) (.con (.int 1)))) .nil)))) .skip) }
def f_div : Fn := { id := 440, name := "div", N := ["one", "other"], ps := ["one", "other"], body := (.seq (.ret (.call 570 (.cons (.bin .Mult (.ix (.var 0) (.con (.int 0))) (.ix (.var 1) (.con (.int 1)))) (.cons (.bin .Mult (.ix (.var 0) (.con (.int 1))) (.ix (.var 1) (.con (.int 0)))) .nil)))) .skip) }
def f_order_of : Fn := { id := 635, name := "order_of", N := ["one", "other", "gap"], ps := ["one", "other"], body := (.seq (.asg (.name 2) (.bin .Sub (.bin .Mult (.ix (.var 0) (.con (.int 0))) (.ix (.var 1) (.con (.int 1)))) (.bin .Mult (.ix (.var 1) (.con (.int 0))) (.ix (.var 0) (.con (.int 1)))))) (.seq (.ret (.bin .Sub (.bi .int (.cmp .Gt (.var 2) (.con (.int 0)))) (.bi .int (.cmp .Lt (.var 2) (.con (.int 0)))))) .skip)) }
def f_is_pair : Fn := { id := 523, name := "is_pair", N := ["value"], ps := ["value"], body := (.seq (.ret (.and (.isi (.var 0) .tuple) (.and (.cmp .Eq (.bi .len (.var 0)) (.con (.int 2))) (.and (.call 509 (.cons (.ix (.var 0) (.con (.int 0))) .nil)) (.call 509 (.cons (.ix (.var 0) (.con (.int 1))) .nil)))))) .skip) }
def f_turn_of : Fn := { id := 724, name := "turn_of", N := ["one", "other"], ps := ["one", "other"], body := (.seq (.ret (.call 635 (.cons (.call 582 (.cons (.ix (.var 0) (.con (.int 0))) (.cons (.ix (.var 1) (.con (.int 1))) .nil))) (.cons (.call 582 (.cons (.ix (.var 1) (.con (.int 0))) (.cons (.ix (.var 0) (.con (.int 1))) .nil))) .nil)))) .skip) }
def f_joined : Fn := { id := 550, name := "joined", N := ["one", "other"], ps := ["one", "other"], body := (.seq (.ret (.tup (.cons (.call 375 (.cons (.ix (.var 0) (.con (.int 0))) (.cons (.ix (.var 1) (.con (.int 0))) .nil))) (.cons (.call 375 (.cons (.ix (.var 0) (.con (.int 1))) (.cons (.ix (.var 1) (.con (.int 1))) .nil))) .nil)))) .skip) }
def f_spread_by : Fn := { id := 696, name := "spread_by", N := ["pair", "share"], ps := ["pair", "share"], body := (.seq (.ret (.tup (.cons (.call 582 (.cons (.ix (.var 0) (.con (.int 0))) (.cons (.var 1) .nil))) (.cons (.call 582 (.cons (.ix (.var 0) (.con (.int 1))) (.cons (.var 1) .nil))) .nil)))) .skip) }
def f_need_pairs : Fn := { id := 608, name := "need_pairs", N := ["values", "value"], ps := ["values"], body := (.seq (.for_ (.seq (.var 0)) (.name 1) (.seq (.ife (.not (.call 523 (.cons (.var 1) .nil))) (.seq .bad .skip) .skip) .skip)) .skip) }
def f_need_list : Fn := { id := 604, name := "need_list", N := ["value", "one"], ps := ["value"], body := (.seq (.ife (.or (.not (.isis (.var 0) [.list, .tuple])) (.or (.cmp .Gt (.bi .len (.var 0)) (.con (.int 80))) (.not (.bi .all (.comp (.seq (.var 0)) (.name 1) (.con (.bl true)) (.call 523 (.cons (.var 1) .nil)) [1]))))) (.seq .bad .skip) .skip) .skip) }
def f_measure : Fn := { id := 571, name := "measure", N := ["pair", "other"], ps := ["pair", "other"], body := (.seq (.ret (.call 375 (.cons (.call 582 (.cons (.ix (.var 0) (.con (.int 0))) (.cons (.ix (.var 1) (.con (.int 0))) .nil))) (.cons (.call 582 (.cons (.ix (.var 0) (.con (.int 1))) (.cons (.ix (.var 1) (.con (.int 1))) .nil))) .nil)))) .skip) }
def f_is_along : Fn := { id := 495, name := "is_along", N := ["one", "other"], ps := ["one", "other"], body := (.seq (.ret (.and (.cmp .Eq (.call 724 (.cons (.var 0) (.cons (.var 1) .nil))) (.con (.int 0))) (.cmp .Gt (.call 635 (.cons (.call 571 (.cons (.var 0) (.cons (.var 1) .nil))) (.cons (.con (.tup [(.int 0), (.int 1)])) .nil))) (.con (.int 0))))) .skip) }
def f_find_ends : Fn := { id := 449, name := "find_ends", N := ["pairs", "first", "last", "pair", "behind", "ahead"], ps := ["pairs"], body := (.seq (.par [1, 2] (.cons (.ix (.var 0) (.con (.int 0))) (.cons (.ix (.var 0) (.con (.int 0))) .nil))) (.seq (.for_ (.seq (.var 0)) (.name 3) (.seq (.par [4, 5] (.cons (.call 724 (.cons (.var 1) (.cons (.var 3) .nil))) (.cons (.call 724 (.cons (.var 3) (.cons (.var 2) .nil))) .nil))) (.seq (.ife (.or (.cmp .Eq (.var 3) (.con (.tup [(.tup [(.int 0), (.int 1)]), (.tup [(.int 0), (.int 1)])]))) (.and (.cmp .NotEq (.bin .Add (.var 4) (.var 5)) (.con (.int 0))) (.or (.cmp .Lt (.var 4) (.con (.int 0))) (.cmp .Lt (.var 5) (.con (.int 0)))))) (.seq (.ret (.con .non)) .skip) .skip) (.seq (.ife (.and (.cmp .Eq (.var 4) (.con (.int 0))) (.and (.cmp .Eq (.var 5) (.con (.int 0))) (.not (.call 495 (.cons (.var 1) (.cons (.var 3) .nil)))))) (.seq (.ret (.con .non)) .skip) .skip) (.seq (.ife (.cmp .Lt (.var 4) (.con (.int 0))) (.seq (.asg (.name 1) (.var 3)) .skip) (.seq (.ife (.cmp .Lt (.var 5) (.con (.int 0))) (.seq (.asg (.name 2) (.var 3)) .skip) .skip) .skip)) .skip))))) (.seq (.ret (.tup (.cons (.var 1) (.cons (.var 2) .nil)))) .skip))) }
def f_find_witness : Fn := { id := 452, name := "find_witness", N := ["pairs", "ends", "first", "last"], ps := ["pairs"], body := (.seq (.ife (.cmp .Eq (.bi .len (.var 0)) (.con (.int 0))) (.seq (.ret (.tup (.cons (.con (.tup [(.int 0), (.int 1)])) (.cons (.con (.tup [(.int 1), (.int 1)])) .nil)))) .skip) .skip) (.seq (.asg (.name 1) (.call 449 (.cons (.var 0) .nil))) (.seq (.ife (.cmp .Is (.var 1) (.con .non)) (.seq (.ret (.con .non)) .skip) .skip) (.seq (.asg (.tup (.cons (.name 2) (.cons (.name 3) .nil))) (.var 1)) (.seq (.ife (.cmp .Eq (.call 724 (.cons (.var 2) (.cons (.var 3) .nil))) (.con (.int 0))) (.seq (.ret (.var 2)) .skip) .skip) (.seq (.ret (.tup (.cons (.call 566 (.cons (.ix (.var 3) (.con (.int 1))) (.cons (.ix (.var 2) (.con (.int 1))) .nil))) (.cons (.call 566 (.cons (.ix (.var 2) (.con (.int 0))) (.cons (.ix (.var 3) (.con (.int 0))) .nil))) .nil)))) .skip)))))) }
def f_cross : Fn := { id := 435, name := "cross", N := ["one", "other"], ps := ["one", "other"], body := (.seq (.ret (.call 566 (.cons (.call 582 (.cons (.ix (.var 0) (.con (.int 0))) (.cons (.ix (.var 1) (.con (.int 1))) .nil))) (.cons (.call 582 (.cons (.ix (.var 1) (.con (.int 0))) (.cons (.ix (.var 0) (.con (.int 1))) .nil))) .nil)))) .skip) }
def f_opposite_of : Fn := { id := 634, name := "opposite_of", N := ["pairs", "first", "second", "one", "other", "part"], ps := ["pairs", "first", "second"], body := (.seq (.par [3, 4] (.cons (.ix (.var 0) (.var 1)) (.cons (.ix (.var 0) (.var 2)) .nil))) (.seq (.ife (.or (.cmp .NotEq (.call 724 (.cons (.var 3) (.cons (.var 4) .nil))) (.con (.int 0))) (.cmp .GtE (.call 635 (.cons (.call 571 (.cons (.var 3) (.cons (.var 4) .nil))) (.cons (.con (.tup [(.int 0), (.int 1)])) .nil))) (.con (.int 0)))) (.seq (.ret (.con .non)) .skip) .skip) (.seq (.asg (.name 5) (.ite (.cmp .NotEq (.ix (.var 4) (.con (.int 0))) (.con (.tup [(.int 0), (.int 1)]))) (.con (.int 0)) (.con (.int 1)))) (.seq (.ret (.tup (.cons (.tup (.cons (.var 1) (.cons (.con (.tup [(.int 1), (.int 1)])) .nil))) (.cons (.tup (.cons (.var 2) (.cons (.call 440 (.cons (.call 566 (.cons (.con (.tup [(.int 0), (.int 1)])) (.cons (.ix (.var 3) (.var 5)) .nil))) (.cons (.ix (.var 4) (.var 5)) .nil))) .nil))) .nil)))) .skip)))) }
def f_round_of : Fn := { id := 674, name := "round_of", N := ["pairs", "numbers", "one", "other", "third", "shares", "signs", "number", "share"], ps := ["pairs", "numbers"], body := (.seq (.asg (.tup (.cons (.name 2) (.cons (.name 3) (.cons (.name 4) .nil)))) (.comp (.seq (.var 1)) (.name 7) (.con (.bl true)) (.ix (.var 0) (.var 7)) [7])) (.seq (.asg (.name 5) (.lst (.cons (.call 435 (.cons (.var 3) (.cons (.var 4) .nil))) (.cons (.call 435 (.cons (.var 4) (.cons (.var 2) .nil))) (.cons (.call 435 (.cons (.var 2) (.cons (.var 3) .nil))) .nil))))) (.seq (.asg (.name 6) (.comp (.seq (.var 5)) (.name 8) (.con (.bl true)) (.call 635 (.cons (.var 8) (.cons (.con (.tup [(.int 0), (.int 1)])) .nil))) [8])) (.seq (.ife (.cmp .NotIn (.var 6) (.tup (.cons (.lst (.cons (.con (.int 1)) (.cons (.con (.int 1)) (.cons (.con (.int 1)) .nil)))) (.cons (.lst (.cons (.neg (.con (.int 1))) (.cons (.neg (.con (.int 1))) (.cons (.neg (.con (.int 1))) .nil)))) .nil)))) (.seq (.ret (.con .non)) .skip) .skip) (.seq (.ret (.bi .tuple (.comp (.zip (.var 1) (.var 5)) (.tup (.cons (.name 7) (.cons (.name 8) .nil))) (.con (.bl true)) (.tup (.cons (.var 7) (.cons (.call 582 (.cons (.var 8) (.cons (.tup (.cons (.ix (.var 6) (.con (.int 0))) (.cons (.con (.int 1)) .nil))) .nil))) .nil))) [7, 8]))) .skip))))) }
def f_find_ring : Fn := { id := 451, name := "find_ring", N := ["pairs", "many", "first", "second", "found", "third"], ps := ["pairs"], body := (.seq (.asg (.name 1) (.bi .len (.var 0))) (.seq (.for_ (.rng1 (.var 1)) (.name 2) (.seq (.ife (.cmp .Eq (.ix (.var 0) (.var 2)) (.con (.tup [(.tup [(.int 0), (.int 1)]), (.tup [(.int 0), (.int 1)])]))) (.seq (.ret (.tup (.cons (.tup (.cons (.var 2) (.cons (.con (.tup [(.int 1), (.int 1)])) .nil))) .nil))) .skip) .skip) .skip)) (.seq (.for_ (.rng1 (.var 1)) (.name 2) (.seq (.for_ (.rng2 (.bin .Add (.var 2) (.con (.int 1))) (.var 1)) (.name 3) (.seq (.asg (.name 4) (.call 634 (.cons (.var 0) (.cons (.var 2) (.cons (.var 3) .nil))))) (.seq (.ife (.cmp .IsNot (.var 4) (.con .non)) (.seq (.ret (.var 4)) .skip) .skip) .skip))) .skip)) (.seq (.for_ (.rng1 (.var 1)) (.name 2) (.seq (.for_ (.rng2 (.bin .Add (.var 2) (.con (.int 1))) (.var 1)) (.name 3) (.seq (.for_ (.rng2 (.bin .Add (.var 3) (.con (.int 1))) (.var 1)) (.name 5) (.seq (.asg (.name 4) (.call 674 (.cons (.var 0) (.cons (.tup (.cons (.var 2) (.cons (.var 3) (.cons (.var 5) .nil)))) .nil)))) (.seq (.ife (.cmp .IsNot (.var 4) (.con .non)) (.seq (.ret (.var 4)) .skip) .skip) .skip))) .skip)) .skip)) (.seq (.ret (.con .non)) .skip))))) }
def f_witness : Fn := { id := 735, name := "witness", N := ["pairs"], ps := ["pairs"], body := (.seq (.expr (.call 604 (.cons (.var 0) .nil))) (.seq (.ret (.call 452 (.cons (.var 0) .nil))) .skip)) }
def f_ring : Fn := { id := 672, name := "ring", N := ["pairs"], ps := ["pairs"], body := (.seq (.expr (.call 604 (.cons (.var 0) .nil))) (.seq (.ret (.ite (.cmp .IsNot (.call 452 (.cons (.var 0) .nil)) (.con .non)) (.con .non) (.call 451 (.cons (.var 0) .nil)))) .skip)) }
def f_is_share : Fn := { id := 536, name := "is_share", N := ["pairs", "value"], ps := ["pairs", "value"], body := (.seq (.ife (.or (.not (.isi (.var 1) .tuple)) (.or (.cmp .NotEq (.bi .len (.var 1)) (.con (.int 2))) (.or (.not (.isi (.ix (.var 1) (.con (.int 0))) .int)) (.isi (.ix (.var 1) (.con (.int 0))) .bool)))) (.seq (.ret (.con (.bl false))) .skip) .skip) (.seq (.ret (.and (.chain .LtE .Lt (.con (.int 0)) (.ix (.var 1) (.con (.int 0))) (.bi .len (.var 0))) (.and (.call 509 (.cons (.ix (.var 1) (.con (.int 1))) .nil)) (.cmp .Gt (.ix (.ix (.var 1) (.con (.int 1))) (.con (.int 0))) (.con (.int 0)))))) .skip)) }
def f_is_ring : Fn := { id := 533, name := "is_ring", N := ["pairs", "value", "found", "number", "share", "one", "at"], ps := ["pairs", "value"], body := (.seq (.expr (.call 604 (.cons (.var 0) .nil))) (.seq (.ife (.or (.not (.isi (.var 1) .tuple)) (.or (.not (.chain .LtE .LtE (.con (.int 1)) (.bi .len (.var 1)) (.con (.int 3)))) (.not (.bi .all (.comp (.seq (.var 1)) (.name 5) (.con (.bl true)) (.call 536 (.cons (.var 0) (.cons (.var 5) .nil))) [5]))))) (.seq (.ret (.con (.bl false))) .skip) .skip) (.seq (.ife (.not (.bi .all (.comp (.rng1 (.bin .Sub (.bi .len (.var 1)) (.con (.int 1)))) (.name 6) (.con (.bl true)) (.cmp .Lt (.ix (.ix (.var 1) (.var 6)) (.con (.int 0))) (.ix (.ix (.var 1) (.bin .Add (.var 6) (.con (.int 1)))) (.con (.int 0)))) [6]))) (.seq (.ret (.con (.bl false))) .skip) .skip) (.seq (.asg (.name 2) (.con (.tup [(.tup [(.int 0), (.int 1)]), (.tup [(.int 0), (.int 1)])]))) (.seq (.for_ (.seq (.var 1)) (.tup (.cons (.name 3) (.cons (.name 4) .nil))) (.seq (.asg (.name 2) (.call 550 (.cons (.var 2) (.cons (.call 696 (.cons (.ix (.var 0) (.var 3)) (.cons (.var 4) .nil))) .nil)))) .skip)) (.seq (.ret (.cmp .Eq (.var 2) (.con (.tup [(.tup [(.int 0), (.int 1)]), (.tup [(.int 0), (.int 1)])])))) .skip)))))) }
def f_weights_left : Fn := { id := 731, name := "weights_left", N := ["rungs", "found", "rest", "pay", "fall"], ps := ["rungs"], body := (.seq (.par [1, 2] (.cons (.lst .nil) (.cons (.con (.tup [(.int 1), (.int 1)])) .nil))) (.seq (.for_ (.seq (.var 0)) (.tup (.cons (.name 3) (.cons (.name 4) .nil))) (.seq (.asg (.name 2) (.call 566 (.cons (.var 2) (.cons (.var 4) .nil)))) (.seq (.expr (.met .append (.var 1) (.cons (.var 2) .nil))) .skip))) (.seq (.ret (.var 1)) .skip))) }
def f_are_rungs : Fn := { id := 389, name := "are_rungs", N := ["value", "rung"], ps := ["value"], body := (.seq (.ife (.or (.not (.isi (.var 0) .tuple)) (.cmp .Gt (.bi .len (.var 0)) (.con (.int 64)))) (.seq (.ret (.con (.bl false))) .skip) .skip) (.seq (.ret (.bi .all (.comp (.seq (.var 0)) (.name 1) (.con (.bl true)) (.and (.call 523 (.cons (.var 1) .nil)) (.cmp .NotEq (.var 1) (.con (.tup [(.tup [(.int 0), (.int 1)]), (.tup [(.int 0), (.int 1)])])))) [1]))) .skip)) }
def f_is_ladder : Fn := { id := 515, name := "is_ladder", N := ["value", "signs", "at", "rest", "sign"], ps := ["value"], body := (.seq (.ife (.or (.not (.call 389 (.cons (.var 0) .nil))) (.cmp .Is (.call 452 (.cons (.var 0) .nil)) (.con .non))) (.seq (.ret (.con (.bl false))) .skip) .skip) (.seq (.ife (.not (.bi .all (.comp (.rng1 (.bin .Sub (.bi .len (.var 0)) (.con (.int 1)))) (.name 2) (.con (.bl true)) (.cmp .Gt (.call 724 (.cons (.ix (.var 0) (.var 2)) (.cons (.ix (.var 0) (.bin .Add (.var 2) (.con (.int 1)))) .nil))) (.con (.int 0))) [2]))) (.seq (.ret (.con (.bl false))) .skip) .skip) (.seq (.asg (.name 1) (.comp (.seq (.call 731 (.cons (.var 0) .nil))) (.name 3) (.con (.bl true)) (.call 635 (.cons (.var 3) (.cons (.con (.tup [(.int 0), (.int 1)])) .nil))) [3])) (.seq (.ret (.and (.bi .all (.comp (.seq (.sl (.var 1) .none (.some (.neg (.con (.int 1)))))) (.name 4) (.con (.bl true)) (.cmp .Gt (.var 4) (.con (.int 0))) [4])) (.bi .all (.comp (.seq (.var 1)) (.name 4) (.con (.bl true)) (.cmp .GtE (.var 4) (.con (.int 0))) [4])))) .skip)))) }
def f_need_ladder : Fn := { id := 602, name := "need_ladder", N := ["value"], ps := ["value"], body := (.seq (.ife (.not (.call 515 (.cons (.var 0) .nil))) (.seq .bad .skip) .skip) .skip) }
def f_need_ladders : Fn := { id := 603, name := "need_ladders", N := ["values", "value"], ps := ["values"], body := (.seq (.for_ (.seq (.var 0)) (.name 1) (.seq (.expr (.call 602 (.cons (.var 1) .nil))) .skip)) .skip) }
def f_sum_of_pays : Fn := { id := 710, name := "sum_of_pays", N := ["rungs", "found", "pay", "fall"], ps := ["rungs"], body := (.seq (.asg (.name 1) (.con (.tup [(.int 0), (.int 1)]))) (.seq (.for_ (.seq (.var 0)) (.tup (.cons (.name 2) (.cons (.name 3) .nil))) (.seq (.asg (.name 1) (.call 375 (.cons (.var 1) (.cons (.var 2) .nil)))) .skip)) (.seq (.ret (.var 1)) .skip))) }
def f_pays : Fn := { id := 655, name := "pays", N := ["ladder"], ps := ["ladder"], body := (.seq (.expr (.call 602 (.cons (.var 0) .nil))) (.seq (.ret (.call 710 (.cons (.var 0) .nil))) .skip)) }
def f_chain : Fn := { id := 421, name := "chain", N := ["ladder", "found", "lefts", "at", "outcomes"], ps := ["ladder"], body := (.seq (.expr (.call 602 (.cons (.var 0) .nil))) (.seq (.ife (.cmp .Gt (.bi .len (.var 0)) (.con (.int 16))) (.seq .bad .skip) .skip) (.seq (.par [1, 2] (.cons (.tup (.cons (.con (.str "end")) .nil)) (.cons (.lstS [false, true] (.cons (.con (.tup [(.int 1), (.int 1)])) (.cons (.call 731 (.cons (.var 0) .nil)) .nil))) .nil))) (.seq (.for_ (.rng3 (.cons (.bin .Sub (.bi .len (.var 0)) (.con (.int 1))) (.cons (.neg (.con (.int 1))) (.cons (.neg (.con (.int 1))) .nil)))) (.name 3) (.seq (.asg (.name 4) (.tup .nil)) (.seq (.ife (.cmp .NotEq (.ix (.var 2) (.bin .Add (.var 3) (.con (.int 1)))) (.con (.tup [(.int 0), (.int 1)]))) (.seq (.asg (.name 4) (.tup (.cons (.tup (.cons (.call 440 (.cons (.ix (.var 2) (.bin .Add (.var 3) (.con (.int 1)))) (.cons (.ix (.var 2) (.var 3)) .nil))) (.cons (.var 1) .nil))) .nil))) .skip) .skip) (.seq (.asg (.name 1) (.tup (.cons (.con (.str "step")) (.cons (.call 440 (.cons (.ix (.ix (.var 0) (.var 3)) (.con (.int 0))) (.cons (.ix (.var 2) (.var 3)) .nil))) (.cons (.var 4) .nil))))) .skip)))) (.seq (.ret (.var 1)) .skip))))) }
def f_need_frame : Fn := { id := 596, name := "need_frame", N := ["pairs"], ps := ["pairs"], body := (.seq (.ife (.cmp .Is (.call 452 (.cons (.var 0) .nil)) (.con .non)) (.seq .bad .skip) .skip) .skip) }
def f_merge : Fn := { id := 573, name := "merge", N := ["rungs", "found", "rung", "at"], ps := ["rungs"], body := (.seq (.asg (.name 1) (.lst .nil)) (.seq (.for_ (.seq (.var 0)) (.name 2) (.seq (.ife (.cmp .Eq (.var 2) (.con (.tup [(.tup [(.int 0), (.int 1)]), (.tup [(.int 0), (.int 1)])]))) (.seq .cont .skip) .skip) (.seq (.asg (.name 3) (.con (.int 0))) (.seq (.whl (.and (.cmp .Lt (.var 3) (.bi .len (.var 1))) (.cmp .Gt (.call 724 (.cons (.ix (.var 1) (.var 3)) (.cons (.var 2) .nil))) (.con (.int 0)))) (.seq (.aug 3 .Add (.con (.int 1))) .skip)) (.seq (.ife (.and (.cmp .Lt (.var 3) (.bi .len (.var 1))) (.cmp .Eq (.call 724 (.cons (.ix (.var 1) (.var 3)) (.cons (.var 2) .nil))) (.con (.int 0)))) (.seq (.asg (.sub (.var 1) (.var 3)) (.call 550 (.cons (.ix (.var 1) (.var 3)) (.cons (.var 2) .nil)))) .skip) (.seq (.expr (.met .insert (.var 1) (.cons (.var 3) (.cons (.var 2) .nil)))) .skip)) .skip))))) (.seq (.ret (.bi .tuple (.var 1))) .skip))) }
def f_glued : Fn := { id := 474, name := "glued", N := ["pair", "rungs", "behind"], ps := ["pair", "rungs"], body := (.seq (.asg (.name 2) (.bi .list (.call 573 (.cons (.var 1) .nil)))) (.seq (.ife (.cmp .Eq (.var 0) (.con (.tup [(.tup [(.int 0), (.int 1)]), (.tup [(.int 0), (.int 1)])]))) (.seq (.ret (.bi .tuple (.var 2))) .skip) .skip) (.seq (.whl (.and (.cmp .NotEq (.var 2) (.lst .nil)) (.cmp .Gt (.call 724 (.cons (.ix (.var 2) (.con (.int 0))) (.cons (.var 0) .nil))) (.con (.int 0)))) (.seq (.asg (.name 0) (.call 550 (.cons (.var 0) (.cons (.met .pop (.var 2) (.cons (.con (.int 0)) .nil)) .nil)))) .skip)) (.seq (.ret (.call 573 (.cons (.lstS [false, true] (.cons (.var 0) (.cons (.var 2) .nil))) .nil))) .skip)))) }
def f_foremost_of : Fn := { id := 461, name := "foremost_of", N := ["rests", "found", "number", "rungs"], ps := ["rests"], body := (.seq (.asg (.name 1) (.con .non)) (.seq (.for_ (.enum (.var 0)) (.tup (.cons (.name 2) (.cons (.name 3) .nil))) (.seq (.ife (.and (.cmp .NotEq (.var 3) (.lst .nil)) (.or (.cmp .Is (.var 1) (.con .non)) (.cmp .Gt (.call 724 (.cons (.ix (.var 3) (.con (.int 0))) (.cons (.ix (.ix (.var 0) (.var 1)) (.con (.int 0))) .nil))) (.con (.int 0))))) (.seq (.asg (.name 1) (.var 2)) .skip) .skip) .skip)) (.seq (.ret (.var 1)) .skip))) }
def f_beside_one_another : Fn := { id := 401, name := "beside_one_another", N := ["ladders", "rests", "lefts", "found", "number", "rung", "share", "other", "rest", "ladder"], ps := ["ladders"], body := (.seq (.par [1, 2, 3] (.cons (.comp (.seq (.var 0)) (.name 9) (.con (.bl true)) (.bi .list (.var 9)) [9]) (.cons (.comp (.seq (.var 0)) (.name 9) (.con (.bl true)) (.con (.tup [(.int 1), (.int 1)])) [9]) (.cons (.lst .nil) .nil)))) (.seq (.asg (.name 4) (.call 461 (.cons (.var 1) .nil))) (.seq (.whl (.cmp .IsNot (.var 4) (.con .non)) (.seq (.par [5, 6] (.cons (.met .pop (.ix (.var 1) (.var 4)) (.cons (.con (.int 0)) .nil)) (.cons (.con (.tup [(.int 1), (.int 1)])) .nil))) (.seq (.for_ (.enum (.var 2)) (.tup (.cons (.name 7) (.cons (.name 8) .nil))) (.seq (.ife (.cmp .NotEq (.var 7) (.var 4)) (.seq (.asg (.name 6) (.call 582 (.cons (.var 6) (.cons (.var 8) .nil)))) .skip) .skip) .skip)) (.seq (.expr (.met .append (.var 3) (.cons (.call 696 (.cons (.var 5) (.cons (.var 6) .nil))) .nil))) (.seq (.asg (.sub (.var 2) (.var 4)) (.call 566 (.cons (.ix (.var 2) (.var 4)) (.cons (.ix (.var 5) (.con (.int 1))) .nil)))) (.seq (.asg (.name 4) (.call 461 (.cons (.var 1) .nil))) .skip)))))) (.seq (.ret (.call 573 (.cons (.var 3) .nil))) .skip)))) }
def f_shared : Fn := { id := 683, name := "shared", N := ["shares", "weight", "ladder", "rung"], ps := ["shares"], body := (.seq (.ret (.call 573 (.cons (.comp2 (.seq (.var 0)) (.tup (.cons (.name 1) (.cons (.name 2) .nil))) (.seq (.var 2)) (.name 3) (.con (.bl true)) (.call 696 (.cons (.var 3) (.cons (.var 1) .nil))) [1, 2, 3] [3]) .nil))) .skip) }
def f_glue : Fn := { id := 473, name := "glue", N := ["pair", "rungs", "kept", "rung", "one"], ps := ["pair", "rungs"], body := (.seq (.expr (.call 608 (.cons (.tupS [false, true] (.cons (.var 0) (.cons (.var 1) .nil))) .nil))) (.seq (.asg (.name 2) (.comp (.seq (.var 1)) (.name 3) (.cmp .NotEq (.var 3) (.con (.tup [(.tup [(.int 0), (.int 1)]), (.tup [(.int 0), (.int 1)])]))) (.var 3) [3])) (.seq (.expr (.call 596 (.cons (.comp (.seq (.tupS [false, true] (.cons (.var 0) (.cons (.var 2) .nil)))) (.name 4) (.cmp .NotEq (.var 4) (.con (.tup [(.tup [(.int 0), (.int 1)]), (.tup [(.int 0), (.int 1)])]))) (.var 4) [4]) .nil))) (.seq (.ret (.call 474 (.cons (.var 0) (.cons (.var 2) .nil)))) .skip)))) }
def f_side_by_side : Fn := { id := 686, name := "side_by_side", N := ["ladders", "rungs", "ladder", "rung"], ps := ["ladders"], body := (.seq (.expr (.call 603 (.cons (.var 0) .nil))) (.seq (.asg (.name 1) (.comp2 (.seq (.var 0)) (.name 2) (.seq (.var 2)) (.name 3) (.con (.bl true)) (.var 3) [2, 3] [3])) (.seq (.ife (.cmp .Gt (.bi .len (.var 1)) (.con (.int 64))) (.seq .bad .skip) .skip) (.seq (.expr (.call 596 (.cons (.var 1) .nil))) (.seq (.ret (.call 401 (.cons (.var 0) .nil))) .skip))))) }
def f_counts_together : Fn := { id := 433, name := "counts_together", N := ["values", "steps", "parts", "value", "counts"], ps := ["values"], body := (.seq (.asg (.tup (.cons (.name 1) (.cons (.name 2) .nil))) (.tup (.cons (.con (.int 0)) (.cons (.con (.int 0)) .nil)))) (.seq (.for_ (.seq (.var 0)) (.name 3) (.seq (.asg (.name 4) (.call 432 (.cons (.var 3) .nil))) (.seq (.ife (.cmp .Is (.var 4) (.con .non)) (.seq (.ret (.con .non)) .skip) .skip) (.seq (.par [1, 2] (.cons (.bin .Add (.var 1) (.ix (.var 4) (.con (.int 0)))) (.cons (.bin .Add (.var 2) (.ix (.var 4) (.con (.int 1)))) .nil))) .skip)))) (.seq (.ret (.tup (.cons (.var 1) (.cons (.var 2) .nil)))) .skip))) }
def f_is_outcome : Fn := { id := 522, name := "is_outcome", N := ["value"], ps := ["value"], body := (.seq (.ife (.or (.not (.isi (.var 0) .tuple)) (.or (.cmp .NotEq (.bi .len (.var 0)) (.con (.int 2))) (.not (.call 509 (.cons (.ix (.var 0) (.con (.int 0))) .nil))))) (.seq (.ret (.con (.bl false))) .skip) .skip) (.seq (.ret (.cmp .Gt (.call 635 (.cons (.ix (.var 0) (.con (.int 0))) (.cons (.con (.tup [(.int 0), (.int 1)])) .nil))) (.con (.int 0)))) .skip)) }
def f_counts_of : Fn := { id := 432, name := "counts_of", N := ["value", "counts", "one"], ps := ["value"], body := (.seq (.ife (.or (.not (.isi (.var 0) .tuple)) (.or (.cmp .Eq (.var 0) (.tup .nil)) (.not (.isi (.ix (.var 0) (.con (.int 0))) .str)))) (.seq (.ret (.con .non)) .skip) .skip) (.seq (.ife (.cmp .Eq (.ix (.var 0) (.con (.int 0))) (.con (.str "end"))) (.seq (.ret (.ite (.cmp .Eq (.bi .len (.var 0)) (.con (.int 1))) (.tup (.cons (.con (.int 0)) (.cons (.con (.int 1)) .nil))) (.con .non))) .skip) .skip) (.seq (.ife (.and (.cmp .Eq (.ix (.var 0) (.con (.int 0))) (.con (.str "step"))) (.and (.cmp .Eq (.bi .len (.var 0)) (.con (.int 3))) (.and (.call 509 (.cons (.ix (.var 0) (.con (.int 1))) .nil)) (.isi (.ix (.var 0) (.con (.int 2))) .tuple)))) (.seq (.ife (.or (.cmp .Gt (.bi .len (.ix (.var 0) (.con (.int 2)))) (.con (.int 3))) (.not (.bi .all (.comp (.seq (.ix (.var 0) (.con (.int 2)))) (.name 2) (.con (.bl true)) (.call 522 (.cons (.var 2) .nil)) [2])))) (.seq (.ret (.con .non)) .skip) .skip) (.seq (.asg (.name 1) (.call 433 (.cons (.comp (.seq (.ix (.var 0) (.con (.int 2)))) (.name 2) (.con (.bl true)) (.ix (.var 2) (.con (.int 1))) [2]) .nil))) (.seq (.ret (.ite (.cmp .IsNot (.var 1) (.con .non)) (.tup (.cons (.bin .Add (.ix (.var 1) (.con (.int 0))) (.con (.int 1))) (.cons (.bin .Add (.ix (.var 1) (.con (.int 1))) (.con (.int 1))) .nil))) (.con .non))) .skip))) .skip) (.seq (.ife (.and (.cmp .Eq (.ix (.var 0) (.con (.int 0))) (.con (.str "all"))) (.and (.cmp .Eq (.bi .len (.var 0)) (.con (.int 2))) (.and (.isi (.ix (.var 0) (.con (.int 1))) .tuple) (.chain .LtE .LtE (.con (.int 2)) (.bi .len (.ix (.var 0) (.con (.int 1)))) (.con (.int 3)))))) (.seq (.asg (.name 1) (.call 433 (.cons (.ix (.var 0) (.con (.int 1))) .nil))) (.seq (.ret (.ite (.cmp .IsNot (.var 1) (.con .non)) (.tup (.cons (.ix (.var 1) (.con (.int 0))) (.cons (.bin .Add (.ix (.var 1) (.con (.int 1))) (.con (.int 1))) .nil))) (.con .non))) .skip)) .skip) (.seq (.ret (.con .non)) .skip))))) }
def f_is_term : Fn := { id := 539, name := "is_term", N := ["value", "counts"], ps := ["value"], body := (.seq (.asg (.name 1) (.call 432 (.cons (.var 0) .nil))) (.seq (.ret (.and (.cmp .IsNot (.var 1) (.con .non)) (.and (.cmp .LtE (.ix (.var 1) (.con (.int 0))) (.con (.int 16))) (.cmp .LtE (.ix (.var 1) (.con (.int 1))) (.con (.int 48)))))) .skip)) }
def f_is_mix : Fn := { id := 517, name := "is_mix", N := ["value", "counts", "one"], ps := ["value"], body := (.seq (.ife (.or (.not (.isi (.var 0) .tuple)) (.or (.not (.chain .LtE .LtE (.con (.int 1)) (.bi .len (.var 0)) (.con (.int 4)))) (.not (.bi .all (.comp (.seq (.var 0)) (.name 2) (.con (.bl true)) (.call 539 (.cons (.var 2) .nil)) [2]))))) (.seq (.ret (.con (.bl false))) .skip) .skip) (.seq (.asg (.name 1) (.call 433 (.cons (.var 0) .nil))) (.seq (.ret (.and (.cmp .LtE (.ix (.var 1) (.con (.int 0))) (.con (.int 16))) (.cmp .LtE (.ix (.var 1) (.con (.int 1))) (.con (.int 96))))) .skip))) }
def f_within : Fn := { id := 734, name := "within", N := ["term", "one"], ps := ["term"], body := (.seq (.ife (.cmp .Eq (.ix (.var 0) (.con (.int 0))) (.con (.str "step"))) (.seq (.ret (.comp (.seq (.ix (.var 0) (.con (.int 2)))) (.name 1) (.con (.bl true)) (.ix (.var 1) (.con (.int 1))) [1])) .skip) .skip) (.seq (.ret (.ite (.cmp .Eq (.ix (.var 0) (.con (.int 0))) (.con (.str "all"))) (.bi .list (.ix (.var 0) (.con (.int 1)))) (.lst .nil))) .skip)) }
def f_parts_of : Fn := { id := 652, name := "parts_of", N := ["term", "found", "one"], ps := ["term"], body := (.seq (.asg (.name 1) (.lst (.cons (.var 0) .nil))) (.seq (.for_ (.seq (.call 734 (.cons (.var 0) .nil))) (.name 2) (.seq (.expr (.met .extend (.var 1) (.cons (.call 652 (.cons (.var 2) .nil)) .nil))) .skip)) (.seq (.ret (.var 1)) .skip))) }
def f_factor_of : Fn := { id := 446, name := "factor_of", N := ["step", "found", "weight", "term"], ps := ["step"], body := (.seq (.asg (.name 1) (.con (.tup [(.int 0), (.int 1)]))) (.seq (.for_ (.seq (.ix (.var 0) (.con (.int 2)))) (.tup (.cons (.name 2) (.cons (.name 3) .nil))) (.seq (.asg (.name 1) (.call 375 (.cons (.var 1) (.cons (.var 2) .nil)))) .skip)) (.seq (.ret (.var 1)) .skip))) }
def f_step_pair : Fn := { id := 703, name := "step_pair", N := ["step"], ps := ["step"], body := (.seq (.ret (.tup (.cons (.ix (.var 0) (.con (.int 1))) (.cons (.call 566 (.cons (.con (.tup [(.int 1), (.int 1)])) (.cons (.call 446 (.cons (.var 0) .nil)) .nil))) .nil)))) .skip) }
def f_frame_pairs : Fn := { id := 468, name := "frame_pairs", N := ["term", "pairs", "part", "pair"], ps := ["term"], body := (.seq (.asg (.name 1) (.comp (.seq (.call 652 (.cons (.var 0) .nil))) (.name 2) (.cmp .Eq (.ix (.var 2) (.con (.int 0))) (.con (.str "step"))) (.call 703 (.cons (.var 2) .nil)) [2])) (.seq (.ret (.comp (.seq (.var 1)) (.name 3) (.cmp .NotEq (.var 3) (.con (.tup [(.tup [(.int 0), (.int 1)]), (.tup [(.int 0), (.int 1)])]))) (.var 3) [3])) .skip)) }
def f_find_ladder : Fn := { id := 450, name := "find_ladder", N := ["term", "member", "weight", "behind"], ps := ["term"], body := (.seq (.ife (.cmp .Eq (.ix (.var 0) (.con (.int 0))) (.con (.str "end"))) (.seq (.ret (.tup .nil)) .skip) .skip) (.seq (.ife (.cmp .Eq (.ix (.var 0) (.con (.int 0))) (.con (.str "all"))) (.seq (.ret (.call 401 (.cons (.comp (.seq (.ix (.var 0) (.con (.int 1)))) (.name 1) (.con (.bl true)) (.call 450 (.cons (.var 1) .nil)) [1]) .nil))) .skip) .skip) (.seq (.ret (.call 474 (.cons (.call 703 (.cons (.var 0) .nil)) (.cons (.call 683 (.cons (.comp (.seq (.ix (.var 0) (.con (.int 2)))) (.tup (.cons (.name 2) (.cons (.name 3) .nil))) (.con (.bl true)) (.tup (.cons (.var 2) (.cons (.call 450 (.cons (.var 3) .nil)) .nil))) [2, 3]) .nil)) .nil)))) .skip))) }
def f_number_of : Fn := { id := 628, name := "number_of", N := ["step"], ps := ["step"], body := (.seq (.ret (.ite (.cmp .Eq (.call 703 (.cons (.var 0) .nil)) (.con (.tup [(.tup [(.int 0), (.int 1)]), (.tup [(.int 0), (.int 1)])]))) (.con (.str "toss")) (.ix (.call 450 (.cons (.var 0) .nil)) (.con (.int 0))))) .skip) }
def f_need_term : Fn := { id := 617, name := "need_term", N := ["term"], ps := ["term"], body := (.seq (.ife (.not (.call 539 (.cons (.var 0) .nil))) (.seq .bad .skip) .skip) (.seq (.expr (.call 596 (.cons (.call 468 (.cons (.var 0) .nil)) .nil))) .skip)) }
def f_ladder_of : Fn := { id := 553, name := "ladder_of", N := ["term"], ps := ["term"], body := (.seq (.expr (.call 617 (.cons (.var 0) .nil))) (.seq (.ret (.call 450 (.cons (.var 0) .nil))) .skip)) }
def f_numbers : Fn := { id := 629, name := "numbers", N := ["term", "part"], ps := ["term"], body := (.seq (.expr (.call 617 (.cons (.var 0) .nil))) (.seq (.ret (.comp (.seq (.call 652 (.cons (.var 0) .nil))) (.name 1) (.cmp .Eq (.ix (.var 1) (.con (.int 0))) (.con (.str "step"))) (.call 628 (.cons (.var 1) .nil)) [1])) .skip)) }
def f_mix_ladder : Fn := { id := 576, name := "mix_ladder", N := ["mix", "term", "pair"], ps := ["mix"], body := (.seq (.ife (.not (.call 517 (.cons (.var 0) .nil))) (.seq .bad .skip) .skip) (.seq (.expr (.call 596 (.cons (.comp2 (.seq (.var 0)) (.name 1) (.seq (.call 468 (.cons (.var 1) .nil))) (.name 2) (.con (.bl true)) (.var 2) [1, 2] [2]) .nil))) (.seq (.ret (.call 401 (.cons (.comp (.seq (.var 0)) (.name 1) (.con (.bl true)) (.call 450 (.cons (.var 1) .nil)) [1]) .nil))) .skip))) }
def f_law : Fn := { id := 556, name := "law", N := ["_law_script", "_law_late", "_law_poor", "_law_work", "_law_grows", "_law_toss", "_law_join", "_law_sift", "_law_costs", "_law_both"], ps := ["_law_script"], body := (.seq (.asg (.name 1) (.tup (.cons (.con (.str "step")) (.cons (.tup (.cons (.con (.int 1)) (.cons (.con (.int 1)) .nil))) (.cons (.tup (.cons (.tup (.cons (.tup (.cons (.con (.int 1)) (.cons (.con (.int 2)) .nil))) (.cons (.tup (.cons (.con (.str "step")) (.cons (.tup (.cons (.con (.int 9)) (.cons (.con (.int 1)) .nil))) (.cons (.tup .nil) .nil)))) .nil))) .nil)) .nil))))) (.seq (.asg (.name 2) (.tup (.cons (.con (.str "step")) (.cons (.tup (.cons (.con (.int 1)) (.cons (.con (.int 1)) .nil))) (.cons (.tup (.cons (.tup (.cons (.tup (.cons (.con (.int 1)) (.cons (.con (.int 2)) .nil))) (.cons (.tup (.cons (.con (.str "step")) (.cons (.tup (.cons (.con (.int 1)) (.cons (.con (.int 1)) .nil))) (.cons (.tup .nil) .nil)))) .nil))) .nil)) .nil))))) (.seq (.ife (.cmp .NotEq (.lst (.cons (.call 553 (.cons (.var 1) .nil)) (.cons (.call 553 (.cons (.var 2) .nil)) .nil))) (.lst (.cons (.tup (.cons (.tup (.cons (.tup (.cons (.con (.int 11)) (.cons (.con (.int 2)) .nil))) (.cons (.tup (.cons (.con (.int 1)) (.cons (.con (.int 1)) .nil))) .nil))) .nil)) (.cons (.tup (.cons (.tup (.cons (.tup (.cons (.con (.int 1)) (.cons (.con (.int 1)) .nil))) (.cons (.tup (.cons (.con (.int 1)) (.cons (.con (.int 2)) .nil))) .nil))) (.cons (.tup (.cons (.tup (.cons (.con (.int 1)) (.cons (.con (.int 2)) .nil))) (.cons (.tup (.cons (.con (.int 1)) (.cons (.con (.int 2)) .nil))) .nil))) .nil))) .nil)))) (.seq (.ret (.con (.bl false))) .skip) .skip) (.seq (.ife (.or (.cmp .NotEq (.call 629 (.cons (.var 1) .nil)) (.lst (.cons (.tup (.cons (.tup (.cons (.con (.int 11)) (.cons (.con (.int 2)) .nil))) (.cons (.tup (.cons (.con (.int 1)) (.cons (.con (.int 1)) .nil))) .nil))) (.cons (.tup (.cons (.tup (.cons (.con (.int 9)) (.cons (.con (.int 1)) .nil))) (.cons (.tup (.cons (.con (.int 1)) (.cons (.con (.int 1)) .nil))) .nil))) .nil)))) (.cmp .NotEq (.call 655 (.cons (.call 553 (.cons (.var 2) .nil)) .nil)) (.tup (.cons (.con (.int 3)) (.cons (.con (.int 2)) .nil))))) (.seq (.ret (.con (.bl false))) .skip) .skip) (.seq (.ife (.or (.cmp .NotEq (.call 576 (.cons (.tup (.cons (.var 1) (.cons (.var 2) .nil))) .nil)) (.tup (.cons (.tup (.cons (.tup (.cons (.con (.int 11)) (.cons (.con (.int 2)) .nil))) (.cons (.tup (.cons (.con (.int 1)) (.cons (.con (.int 1)) .nil))) .nil))) .nil))) (.cmp .NotEq (.ix (.call 576 (.cons (.tup (.cons (.var 2) (.cons (.var 2) .nil))) .nil)) (.con (.int 0))) (.tup (.cons (.tup (.cons (.con (.int 3)) (.cons (.con (.int 2)) .nil))) (.cons (.tup (.cons (.con (.int 3)) (.cons (.con (.int 4)) .nil))) .nil))))) (.seq (.ret (.con (.bl false))) .skip) .skip) (.seq (.asg (.name 3) (.tup (.cons (.con (.str "step")) (.cons (.tup (.cons (.con (.int 2)) (.cons (.con (.int 1)) .nil))) (.cons (.tup (.cons (.tup (.cons (.tup (.cons (.con (.int 1)) (.cons (.con (.int 2)) .nil))) (.cons (.tup (.cons (.con (.str "step")) (.cons (.tup (.cons (.con (.int 4)) (.cons (.con (.int 1)) .nil))) (.cons (.tup .nil) .nil)))) .nil))) .nil)) .nil))))) (.seq (.ife (.or (.cmp .NotEq (.call 629 (.cons (.var 3) .nil)) (.bin .Mult (.lst (.cons (.tup (.cons (.tup (.cons (.con (.int 4)) (.cons (.con (.int 1)) .nil))) (.cons (.tup (.cons (.con (.int 1)) (.cons (.con (.int 1)) .nil))) .nil))) .nil)) (.con (.int 2)))) (.cmp .NotEq (.call 553 (.cons (.var 3) .nil)) (.tup (.cons (.tup (.cons (.tup (.cons (.con (.int 4)) (.cons (.con (.int 1)) .nil))) (.cons (.tup (.cons (.con (.int 1)) (.cons (.con (.int 1)) .nil))) .nil))) .nil)))) (.seq (.ret (.con (.bl false))) .skip) .skip) (.seq (.asg (.name 4) (.tup (.cons (.con (.str "step")) (.cons (.tup (.cons (.con (.int 3)) (.cons (.con (.int 1)) .nil))) (.cons (.tup (.cons (.tup (.cons (.tup (.cons (.con (.int 2)) (.cons (.con (.int 1)) .nil))) (.cons (.tup (.cons (.con (.str "step")) (.cons (.tup (.cons (.con (.int 2)) (.cons (.con (.int 1)) .nil))) (.cons (.tup .nil) .nil)))) .nil))) .nil)) .nil))))) (.seq (.ife (.or (.cmp .NotEq (.call 553 (.cons (.var 4) .nil)) (.tup (.cons (.tup (.cons (.tup (.cons (.con (.int 3)) (.cons (.con (.int 1)) .nil))) (.cons (.tup (.cons (.neg (.con (.int 1))) (.cons (.con (.int 1)) .nil))) .nil))) (.cons (.tup (.cons (.tup (.cons (.con (.int 4)) (.cons (.con (.int 1)) .nil))) (.cons (.tup (.cons (.con (.int 2)) (.cons (.con (.int 1)) .nil))) .nil))) .nil)))) (.cmp .NotEq (.call 421 (.cons (.call 553 (.cons (.var 4) .nil)) .nil)) (.var 4))) (.seq (.ret (.con (.bl false))) .skip) .skip) (.seq (.ife (.cmp .NotEq (.call 686 (.cons (.lst (.cons (.call 553 (.cons (.var 4) .nil)) (.cons (.call 553 (.cons (.var 4) .nil)) .nil))) .nil)) (.tup (.cons (.tup (.cons (.tup (.cons (.con (.int 9)) (.cons (.con (.int 1)) .nil))) (.cons (.tup (.cons (.neg (.con (.int 3))) (.cons (.con (.int 1)) .nil))) .nil))) (.cons (.tup (.cons (.tup (.cons (.con (.int 8)) (.cons (.con (.int 1)) .nil))) (.cons (.tup (.cons (.con (.int 4)) (.cons (.con (.int 1)) .nil))) .nil))) .nil)))) (.seq (.ret (.con (.bl false))) .skip) .skip) (.seq (.asg (.name 5) (.tup (.cons (.con (.str "step")) (.cons (.tup (.cons (.con (.int 0)) (.cons (.con (.int 1)) .nil))) (.cons (.tup (.cons (.tup (.cons (.tup (.cons (.con (.int 1)) (.cons (.con (.int 2)) .nil))) (.cons (.var 1) .nil))) (.cons (.tup (.cons (.tup (.cons (.con (.int 1)) (.cons (.con (.int 2)) .nil))) (.cons (.var 2) .nil))) .nil))) .nil))))) (.seq (.ife (.or (.cmp .NotEq (.call 553 (.cons (.var 5) .nil)) (.tup (.cons (.tup (.cons (.tup (.cons (.con (.int 11)) (.cons (.con (.int 4)) .nil))) (.cons (.tup (.cons (.con (.int 1)) (.cons (.con (.int 2)) .nil))) .nil))) (.cons (.tup (.cons (.tup (.cons (.con (.int 1)) (.cons (.con (.int 2)) .nil))) (.cons (.tup (.cons (.con (.int 1)) (.cons (.con (.int 4)) .nil))) .nil))) (.cons (.tup (.cons (.tup (.cons (.con (.int 1)) (.cons (.con (.int 4)) .nil))) (.cons (.tup (.cons (.con (.int 1)) (.cons (.con (.int 4)) .nil))) .nil))) .nil))))) (.cmp .NotEq (.ix (.call 629 (.cons (.var 5) .nil)) (.con (.int 0))) (.con (.str "toss")))) (.seq (.ret (.con (.bl false))) .skip) .skip) (.seq (.asg (.tup (.cons (.name 6) (.cons (.name 3) (.cons (.name 7) .nil)))) (.tup (.cons (.tup (.cons (.tup (.cons (.neg (.con (.int 1))) (.cons (.con (.int 1)) .nil))) (.cons (.tup (.cons (.neg (.con (.int 1))) (.cons (.con (.int 1)) .nil))) .nil))) (.cons (.tup (.cons (.tup (.cons (.con (.int 1)) (.cons (.con (.int 1)) .nil))) (.cons (.tup (.cons (.con (.int 1)) (.cons (.con (.int 2)) .nil))) .nil))) (.cons (.tup (.cons (.tup (.cons (.neg (.con (.int 1))) (.cons (.con (.int 10)) .nil))) (.cons (.tup (.cons (.con (.int 1)) (.cons (.con (.int 2)) .nil))) .nil))) .nil))))) (.seq (.ife (.or (.cmp .IsNot (.call 735 (.cons (.lst (.cons (.var 6) (.cons (.var 3) (.cons (.var 7) .nil)))) .nil)) (.con .non)) (.not (.call 533 (.cons (.lst (.cons (.var 6) (.cons (.var 3) (.cons (.var 7) .nil)))) (.cons (.call 672 (.cons (.lst (.cons (.var 6) (.cons (.var 3) (.cons (.var 7) .nil)))) .nil)) .nil))))) (.seq (.ret (.con (.bl false))) .skip) .skip) (.seq (.ife (.or (.cmp .Is (.call 735 (.cons (.lst (.cons (.var 6) (.cons (.var 7) .nil))) .nil)) (.con .non)) (.or (.cmp .Is (.call 735 (.cons (.lst (.cons (.var 3) (.cons (.var 7) .nil))) .nil)) (.con .non)) (.cmp .Is (.call 735 (.cons (.lst (.cons (.var 6) (.cons (.var 3) .nil))) .nil)) (.con .non)))) (.seq (.ret (.con (.bl false))) .skip) .skip) (.seq (.asg (.name 8) (.tup (.cons (.con (.str "step")) (.cons (.tup (.cons (.neg (.con (.int 1))) (.cons (.con (.int 1)) .nil))) (.cons (.tup (.cons (.tup (.cons (.tup (.cons (.con (.int 2)) (.cons (.con (.int 1)) .nil))) (.cons (.tup (.cons (.con (.str "step")) (.cons (.tup (.cons (.neg (.con (.int 3))) (.cons (.con (.int 1)) .nil))) (.cons (.tup (.cons (.tup (.cons (.tup (.cons (.con (.int 1)) (.cons (.con (.int 4)) .nil))) (.cons (.tup (.cons (.con (.str "end")) .nil)) .nil))) .nil)) .nil)))) .nil))) .nil)) .nil))))) (.seq (.ife (.or (.cmp .NotEq (.call 553 (.cons (.var 8) .nil)) (.tup (.cons (.tup (.cons (.tup (.cons (.neg (.con (.int 7))) (.cons (.con (.int 1)) .nil))) (.cons (.tup (.cons (.con (.int 1)) (.cons (.con (.int 2)) .nil))) .nil))) .nil))) (.cmp .NotEq (.call 629 (.cons (.var 8) .nil)) (.lst (.cons (.tup (.cons (.tup (.cons (.neg (.con (.int 7))) (.cons (.con (.int 1)) .nil))) (.cons (.tup (.cons (.con (.int 1)) (.cons (.con (.int 2)) .nil))) .nil))) (.cons (.tup (.cons (.tup (.cons (.neg (.con (.int 3))) (.cons (.con (.int 1)) .nil))) (.cons (.tup (.cons (.con (.int 3)) (.cons (.con (.int 4)) .nil))) .nil))) .nil))))) (.seq (.ret (.con (.bl false))) .skip) .skip) (.seq (.asg (.name 9) (.tup (.cons (.con (.str "all")) (.cons (.tup (.cons (.var 8) (.cons (.tup (.cons (.con (.str "step")) (.cons (.tup (.cons (.neg (.con (.int 2))) (.cons (.con (.int 1)) .nil))) (.cons (.tup (.cons (.tup (.cons (.tup (.cons (.con (.int 1)) (.cons (.con (.int 2)) .nil))) (.cons (.tup (.cons (.con (.str "end")) .nil)) .nil))) .nil)) .nil)))) .nil))) .nil)))) (.seq (.ife (.cmp .NotEq (.call 553 (.cons (.var 9) .nil)) (.tup (.cons (.tup (.cons (.tup (.cons (.neg (.con (.int 2))) (.cons (.con (.int 1)) .nil))) (.cons (.tup (.cons (.con (.int 1)) (.cons (.con (.int 2)) .nil))) .nil))) (.cons (.tup (.cons (.tup (.cons (.neg (.con (.int 7))) (.cons (.con (.int 2)) .nil))) (.cons (.tup (.cons (.con (.int 1)) (.cons (.con (.int 4)) .nil))) .nil))) .nil)))) (.seq (.ret (.con (.bl false))) .skip) .skip) (.seq (.ret (.cmp .Eq (.call 473 (.cons (.tup (.cons (.tup (.cons (.neg (.con (.int 1))) (.cons (.con (.int 1)) .nil))) (.cons (.tup (.cons (.neg (.con (.int 1))) (.cons (.con (.int 1)) .nil))) .nil))) (.cons (.lst (.cons (.tup (.cons (.tup (.cons (.neg (.con (.int 6))) (.cons (.con (.int 1)) .nil))) (.cons (.tup (.cons (.con (.int 3)) (.cons (.con (.int 2)) .nil))) .nil))) .nil)) .nil))) (.tup (.cons (.tup (.cons (.tup (.cons (.neg (.con (.int 7))) (.cons (.con (.int 1)) .nil))) (.cons (.tup (.cons (.con (.int 1)) (.cons (.con (.int 2)) .nil))) .nil))) .nil)))) .skip)))))))))))))))))))) }
def fs : List Fn := [f_is_integer, f_divisor_of, f_is_fraction, f_lowest, f_add, f_less, f_mul, f_div, f_order_of, f_is_pair, f_turn_of, f_joined, f_spread_by, f_need_pairs, f_need_list, f_measure, f_is_along, f_find_ends, f_find_witness, f_cross, f_opposite_of, f_round_of, f_find_ring, f_witness, f_ring, f_is_share, f_is_ring, f_weights_left, f_are_rungs, f_is_ladder, f_need_ladder, f_need_ladders, f_sum_of_pays, f_pays, f_chain, f_need_frame, f_merge, f_glued, f_foremost_of, f_beside_one_another, f_shared, f_glue, f_side_by_side, f_counts_together, f_is_outcome, f_counts_of, f_is_term, f_is_mix, f_within, f_parts_of, f_factor_of, f_step_pair, f_frame_pairs, f_find_ladder, f_number_of, f_need_term, f_ladder_of, f_numbers, f_mix_ladder, f_law]
end L_onenumber_k25_numbers_by_hand
namespace L_onenumber_k25_numbers_by_hand
open PD PySem PySem.Spec PyProof.Rows L2
def topS (i : Nat) : Stmt := PySem.Challenge.pw_onenumber_k25_numbers_by_hand.main.body.getD i (.Pass ⟨0, 0, 0, 0⟩)
theorem sc_is_integer : FnScope f_is_integer.N f_is_integer.ps (defScope (topS 12)) := ⟨rfl, rfl, rfl, by decide +kernel, rfl, by decide +kernel, by decide +kernel⟩
theorem tr_is_integer : trSs gt f_is_integer.N 60 (defScope (topS 12)) (defScope (topS 12)) (defBody (topS 12)) = f_is_integer.body := by kernel_rfl
theorem sc_divisor_of : FnScope f_divisor_of.N f_divisor_of.ps (defScope (topS 13)) := ⟨rfl, rfl, rfl, by decide +kernel, rfl, by decide +kernel, by decide +kernel⟩
theorem tr_divisor_of : trSs gt f_divisor_of.N 60 (defScope (topS 13)) (defScope (topS 13)) (defBody (topS 13)) = f_divisor_of.body := by kernel_rfl
theorem sc_is_fraction : FnScope f_is_fraction.N f_is_fraction.ps (defScope (topS 14)) := ⟨rfl, rfl, rfl, by decide +kernel, rfl, by decide +kernel, by decide +kernel⟩
theorem tr_is_fraction : trSs gt f_is_fraction.N 60 (defScope (topS 14)) (defScope (topS 14)) (defBody (topS 14)) = f_is_fraction.body := by kernel_rfl
theorem sc_lowest : FnScope f_lowest.N f_lowest.ps (defScope (topS 15)) := ⟨rfl, rfl, rfl, by decide +kernel, rfl, by decide +kernel, by decide +kernel⟩
theorem tr_lowest : trSs gt f_lowest.N 60 (defScope (topS 15)) (defScope (topS 15)) (defBody (topS 15)) = f_lowest.body := by kernel_rfl
theorem sc_add : FnScope f_add.N f_add.ps (defScope (topS 16)) := ⟨rfl, rfl, rfl, by decide +kernel, rfl, by decide +kernel, by decide +kernel⟩
theorem tr_add : trSs gt f_add.N 60 (defScope (topS 16)) (defScope (topS 16)) (defBody (topS 16)) = f_add.body := by kernel_rfl
theorem sc_less : FnScope f_less.N f_less.ps (defScope (topS 17)) := ⟨rfl, rfl, rfl, by decide +kernel, rfl, by decide +kernel, by decide +kernel⟩
theorem tr_less : trSs gt f_less.N 60 (defScope (topS 17)) (defScope (topS 17)) (defBody (topS 17)) = f_less.body := by kernel_rfl
theorem sc_mul : FnScope f_mul.N f_mul.ps (defScope (topS 18)) := ⟨rfl, rfl, rfl, by decide +kernel, rfl, by decide +kernel, by decide +kernel⟩
theorem tr_mul : trSs gt f_mul.N 60 (defScope (topS 18)) (defScope (topS 18)) (defBody (topS 18)) = f_mul.body := by kernel_rfl
theorem sc_div : FnScope f_div.N f_div.ps (defScope (topS 19)) := ⟨rfl, rfl, rfl, by decide +kernel, rfl, by decide +kernel, by decide +kernel⟩
theorem tr_div : trSs gt f_div.N 60 (defScope (topS 19)) (defScope (topS 19)) (defBody (topS 19)) = f_div.body := by kernel_rfl
theorem sc_order_of : FnScope f_order_of.N f_order_of.ps (defScope (topS 20)) := ⟨rfl, rfl, rfl, by decide +kernel, rfl, by decide +kernel, by decide +kernel⟩
theorem tr_order_of : trSs gt f_order_of.N 60 (defScope (topS 20)) (defScope (topS 20)) (defBody (topS 20)) = f_order_of.body := by kernel_rfl
theorem sc_is_pair : FnScope f_is_pair.N f_is_pair.ps (defScope (topS 23)) := ⟨rfl, rfl, rfl, by decide +kernel, rfl, by decide +kernel, by decide +kernel⟩
theorem tr_is_pair : trSs gt f_is_pair.N 60 (defScope (topS 23)) (defScope (topS 23)) (defBody (topS 23)) = f_is_pair.body := by kernel_rfl
theorem sc_turn_of : FnScope f_turn_of.N f_turn_of.ps (defScope (topS 24)) := ⟨rfl, rfl, rfl, by decide +kernel, rfl, by decide +kernel, by decide +kernel⟩
theorem tr_turn_of : trSs gt f_turn_of.N 60 (defScope (topS 24)) (defScope (topS 24)) (defBody (topS 24)) = f_turn_of.body := by kernel_rfl
theorem sc_joined : FnScope f_joined.N f_joined.ps (defScope (topS 25)) := ⟨rfl, rfl, rfl, by decide +kernel, rfl, by decide +kernel, by decide +kernel⟩
theorem tr_joined : trSs gt f_joined.N 60 (defScope (topS 25)) (defScope (topS 25)) (defBody (topS 25)) = f_joined.body := by kernel_rfl
theorem sc_spread_by : FnScope f_spread_by.N f_spread_by.ps (defScope (topS 26)) := ⟨rfl, rfl, rfl, by decide +kernel, rfl, by decide +kernel, by decide +kernel⟩
theorem tr_spread_by : trSs gt f_spread_by.N 60 (defScope (topS 26)) (defScope (topS 26)) (defBody (topS 26)) = f_spread_by.body := by kernel_rfl
theorem sc_need_pairs : FnScope f_need_pairs.N f_need_pairs.ps (defScope (topS 27)) := ⟨rfl, rfl, rfl, by decide +kernel, rfl, by decide +kernel, by decide +kernel⟩
theorem tr_need_pairs : trSs gt f_need_pairs.N 60 (defScope (topS 27)) (defScope (topS 27)) (defBody (topS 27)) = f_need_pairs.body := by kernel_rfl
theorem sc_need_list : FnScope f_need_list.N f_need_list.ps (defScope (topS 30)) := ⟨rfl, rfl, rfl, by decide +kernel, rfl, by decide +kernel, by decide +kernel⟩
theorem tr_need_list : trSs gt f_need_list.N 60 (defScope (topS 30)) (defScope (topS 30)) (defBody (topS 30)) = f_need_list.body := by kernel_rfl
theorem sc_measure : FnScope f_measure.N f_measure.ps (defScope (topS 31)) := ⟨rfl, rfl, rfl, by decide +kernel, rfl, by decide +kernel, by decide +kernel⟩
theorem tr_measure : trSs gt f_measure.N 60 (defScope (topS 31)) (defScope (topS 31)) (defBody (topS 31)) = f_measure.body := by kernel_rfl
theorem sc_is_along : FnScope f_is_along.N f_is_along.ps (defScope (topS 32)) := ⟨rfl, rfl, rfl, by decide +kernel, rfl, by decide +kernel, by decide +kernel⟩
theorem tr_is_along : trSs gt f_is_along.N 60 (defScope (topS 32)) (defScope (topS 32)) (defBody (topS 32)) = f_is_along.body := by kernel_rfl
theorem sc_find_ends : FnScope f_find_ends.N f_find_ends.ps (defScope (topS 33)) := ⟨rfl, rfl, rfl, by decide +kernel, rfl, by decide +kernel, by decide +kernel⟩
theorem tr_find_ends : trSs gt f_find_ends.N 60 (defScope (topS 33)) (defScope (topS 33)) (defBody (topS 33)) = f_find_ends.body := by kernel_rfl
theorem sc_find_witness : FnScope f_find_witness.N f_find_witness.ps (defScope (topS 34)) := ⟨rfl, rfl, rfl, by decide +kernel, rfl, by decide +kernel, by decide +kernel⟩
theorem tr_find_witness : trSs gt f_find_witness.N 60 (defScope (topS 34)) (defScope (topS 34)) (defBody (topS 34)) = f_find_witness.body := by kernel_rfl
theorem sc_cross : FnScope f_cross.N f_cross.ps (defScope (topS 35)) := ⟨rfl, rfl, rfl, by decide +kernel, rfl, by decide +kernel, by decide +kernel⟩
theorem tr_cross : trSs gt f_cross.N 60 (defScope (topS 35)) (defScope (topS 35)) (defBody (topS 35)) = f_cross.body := by kernel_rfl
theorem sc_opposite_of : FnScope f_opposite_of.N f_opposite_of.ps (defScope (topS 36)) := ⟨rfl, rfl, rfl, by decide +kernel, rfl, by decide +kernel, by decide +kernel⟩
theorem tr_opposite_of : trSs gt f_opposite_of.N 60 (defScope (topS 36)) (defScope (topS 36)) (defBody (topS 36)) = f_opposite_of.body := by kernel_rfl
theorem sc_round_of : FnScope f_round_of.N f_round_of.ps (defScope (topS 37)) := ⟨rfl, rfl, rfl, by decide +kernel, rfl, by decide +kernel, by decide +kernel⟩
theorem tr_round_of : trSs gt f_round_of.N 60 (defScope (topS 37)) (defScope (topS 37)) (defBody (topS 37)) = f_round_of.body := by kernel_rfl
theorem sc_find_ring : FnScope f_find_ring.N f_find_ring.ps (defScope (topS 38)) := ⟨rfl, rfl, rfl, by decide +kernel, rfl, by decide +kernel, by decide +kernel⟩
theorem tr_find_ring : trSs gt f_find_ring.N 60 (defScope (topS 38)) (defScope (topS 38)) (defBody (topS 38)) = f_find_ring.body := by kernel_rfl
theorem sc_witness : FnScope f_witness.N f_witness.ps (defScope (topS 39)) := ⟨rfl, rfl, rfl, by decide +kernel, rfl, by decide +kernel, by decide +kernel⟩
theorem tr_witness : trSs gt f_witness.N 60 (defScope (topS 39)) (defScope (topS 39)) (defBody (topS 39)) = f_witness.body := by kernel_rfl
theorem sc_ring : FnScope f_ring.N f_ring.ps (defScope (topS 40)) := ⟨rfl, rfl, rfl, by decide +kernel, rfl, by decide +kernel, by decide +kernel⟩
theorem tr_ring : trSs gt f_ring.N 60 (defScope (topS 40)) (defScope (topS 40)) (defBody (topS 40)) = f_ring.body := by kernel_rfl
theorem sc_is_share : FnScope f_is_share.N f_is_share.ps (defScope (topS 41)) := ⟨rfl, rfl, rfl, by decide +kernel, rfl, by decide +kernel, by decide +kernel⟩
theorem tr_is_share : trSs gt f_is_share.N 60 (defScope (topS 41)) (defScope (topS 41)) (defBody (topS 41)) = f_is_share.body := by kernel_rfl
theorem sc_is_ring : FnScope f_is_ring.N f_is_ring.ps (defScope (topS 42)) := ⟨rfl, rfl, rfl, by decide +kernel, rfl, by decide +kernel, by decide +kernel⟩
theorem tr_is_ring : trSs gt f_is_ring.N 60 (defScope (topS 42)) (defScope (topS 42)) (defBody (topS 42)) = f_is_ring.body := by kernel_rfl
theorem sc_weights_left : FnScope f_weights_left.N f_weights_left.ps (defScope (topS 46)) := ⟨rfl, rfl, rfl, by decide +kernel, rfl, by decide +kernel, by decide +kernel⟩
theorem tr_weights_left : trSs gt f_weights_left.N 60 (defScope (topS 46)) (defScope (topS 46)) (defBody (topS 46)) = f_weights_left.body := by kernel_rfl
theorem sc_are_rungs : FnScope f_are_rungs.N f_are_rungs.ps (defScope (topS 47)) := ⟨rfl, rfl, rfl, by decide +kernel, rfl, by decide +kernel, by decide +kernel⟩
theorem tr_are_rungs : trSs gt f_are_rungs.N 60 (defScope (topS 47)) (defScope (topS 47)) (defBody (topS 47)) = f_are_rungs.body := by kernel_rfl
theorem sc_is_ladder : FnScope f_is_ladder.N f_is_ladder.ps (defScope (topS 48)) := ⟨rfl, rfl, rfl, by decide +kernel, rfl, by decide +kernel, by decide +kernel⟩
theorem tr_is_ladder : trSs gt f_is_ladder.N 60 (defScope (topS 48)) (defScope (topS 48)) (defBody (topS 48)) = f_is_ladder.body := by kernel_rfl
theorem sc_need_ladder : FnScope f_need_ladder.N f_need_ladder.ps (defScope (topS 49)) := ⟨rfl, rfl, rfl, by decide +kernel, rfl, by decide +kernel, by decide +kernel⟩
theorem tr_need_ladder : trSs gt f_need_ladder.N 60 (defScope (topS 49)) (defScope (topS 49)) (defBody (topS 49)) = f_need_ladder.body := by kernel_rfl
theorem sc_need_ladders : FnScope f_need_ladders.N f_need_ladders.ps (defScope (topS 50)) := ⟨rfl, rfl, rfl, by decide +kernel, rfl, by decide +kernel, by decide +kernel⟩
theorem tr_need_ladders : trSs gt f_need_ladders.N 60 (defScope (topS 50)) (defScope (topS 50)) (defBody (topS 50)) = f_need_ladders.body := by kernel_rfl
theorem sc_sum_of_pays : FnScope f_sum_of_pays.N f_sum_of_pays.ps (defScope (topS 51)) := ⟨rfl, rfl, rfl, by decide +kernel, rfl, by decide +kernel, by decide +kernel⟩
theorem tr_sum_of_pays : trSs gt f_sum_of_pays.N 60 (defScope (topS 51)) (defScope (topS 51)) (defBody (topS 51)) = f_sum_of_pays.body := by kernel_rfl
theorem sc_pays : FnScope f_pays.N f_pays.ps (defScope (topS 52)) := ⟨rfl, rfl, rfl, by decide +kernel, rfl, by decide +kernel, by decide +kernel⟩
theorem tr_pays : trSs gt f_pays.N 60 (defScope (topS 52)) (defScope (topS 52)) (defBody (topS 52)) = f_pays.body := by kernel_rfl
theorem sc_chain : FnScope f_chain.N f_chain.ps (defScope (topS 53)) := ⟨rfl, rfl, rfl, by decide +kernel, rfl, by decide +kernel, by decide +kernel⟩
theorem tr_chain : trSs gt f_chain.N 60 (defScope (topS 53)) (defScope (topS 53)) (defBody (topS 53)) = f_chain.body := by kernel_rfl
theorem sc_need_frame : FnScope f_need_frame.N f_need_frame.ps (defScope (topS 55)) := ⟨rfl, rfl, rfl, by decide +kernel, rfl, by decide +kernel, by decide +kernel⟩
theorem tr_need_frame : trSs gt f_need_frame.N 60 (defScope (topS 55)) (defScope (topS 55)) (defBody (topS 55)) = f_need_frame.body := by kernel_rfl
theorem sc_merge : FnScope f_merge.N f_merge.ps (defScope (topS 56)) := ⟨rfl, rfl, rfl, by decide +kernel, rfl, by decide +kernel, by decide +kernel⟩
theorem tr_merge : trSs gt f_merge.N 60 (defScope (topS 56)) (defScope (topS 56)) (defBody (topS 56)) = f_merge.body := by kernel_rfl
theorem sc_glued : FnScope f_glued.N f_glued.ps (defScope (topS 57)) := ⟨rfl, rfl, rfl, by decide +kernel, rfl, by decide +kernel, by decide +kernel⟩
theorem tr_glued : trSs gt f_glued.N 60 (defScope (topS 57)) (defScope (topS 57)) (defBody (topS 57)) = f_glued.body := by kernel_rfl
theorem sc_foremost_of : FnScope f_foremost_of.N f_foremost_of.ps (defScope (topS 58)) := ⟨rfl, rfl, rfl, by decide +kernel, rfl, by decide +kernel, by decide +kernel⟩
theorem tr_foremost_of : trSs gt f_foremost_of.N 60 (defScope (topS 58)) (defScope (topS 58)) (defBody (topS 58)) = f_foremost_of.body := by kernel_rfl
theorem sc_beside_one_another : FnScope f_beside_one_another.N f_beside_one_another.ps (defScope (topS 59)) := ⟨rfl, rfl, rfl, by decide +kernel, rfl, by decide +kernel, by decide +kernel⟩
theorem tr_beside_one_another : trSs gt f_beside_one_another.N 60 (defScope (topS 59)) (defScope (topS 59)) (defBody (topS 59)) = f_beside_one_another.body := by kernel_rfl
theorem sc_shared : FnScope f_shared.N f_shared.ps (defScope (topS 60)) := ⟨rfl, rfl, rfl, by decide +kernel, rfl, by decide +kernel, by decide +kernel⟩
theorem tr_shared : trSs gt f_shared.N 60 (defScope (topS 60)) (defScope (topS 60)) (defBody (topS 60)) = f_shared.body := by kernel_rfl
theorem sc_glue : FnScope f_glue.N f_glue.ps (defScope (topS 61)) := ⟨rfl, rfl, rfl, by decide +kernel, rfl, by decide +kernel, by decide +kernel⟩
theorem tr_glue : trSs gt f_glue.N 60 (defScope (topS 61)) (defScope (topS 61)) (defBody (topS 61)) = f_glue.body := by kernel_rfl
theorem sc_side_by_side : FnScope f_side_by_side.N f_side_by_side.ps (defScope (topS 62)) := ⟨rfl, rfl, rfl, by decide +kernel, rfl, by decide +kernel, by decide +kernel⟩
theorem tr_side_by_side : trSs gt f_side_by_side.N 60 (defScope (topS 62)) (defScope (topS 62)) (defBody (topS 62)) = f_side_by_side.body := by kernel_rfl
theorem sc_counts_together : FnScope f_counts_together.N f_counts_together.ps (defScope (topS 70)) := ⟨rfl, rfl, rfl, by decide +kernel, rfl, by decide +kernel, by decide +kernel⟩
theorem tr_counts_together : trSs gt f_counts_together.N 60 (defScope (topS 70)) (defScope (topS 70)) (defBody (topS 70)) = f_counts_together.body := by kernel_rfl
theorem sc_is_outcome : FnScope f_is_outcome.N f_is_outcome.ps (defScope (topS 71)) := ⟨rfl, rfl, rfl, by decide +kernel, rfl, by decide +kernel, by decide +kernel⟩
theorem tr_is_outcome : trSs gt f_is_outcome.N 60 (defScope (topS 71)) (defScope (topS 71)) (defBody (topS 71)) = f_is_outcome.body := by kernel_rfl
theorem sc_counts_of : FnScope f_counts_of.N f_counts_of.ps (defScope (topS 72)) := ⟨rfl, rfl, rfl, by decide +kernel, rfl, by decide +kernel, by decide +kernel⟩
theorem tr_counts_of : trSs gt f_counts_of.N 60 (defScope (topS 72)) (defScope (topS 72)) (defBody (topS 72)) = f_counts_of.body := by kernel_rfl
theorem sc_is_term : FnScope f_is_term.N f_is_term.ps (defScope (topS 73)) := ⟨rfl, rfl, rfl, by decide +kernel, rfl, by decide +kernel, by decide +kernel⟩
theorem tr_is_term : trSs gt f_is_term.N 60 (defScope (topS 73)) (defScope (topS 73)) (defBody (topS 73)) = f_is_term.body := by kernel_rfl
theorem sc_is_mix : FnScope f_is_mix.N f_is_mix.ps (defScope (topS 74)) := ⟨rfl, rfl, rfl, by decide +kernel, rfl, by decide +kernel, by decide +kernel⟩
theorem tr_is_mix : trSs gt f_is_mix.N 60 (defScope (topS 74)) (defScope (topS 74)) (defBody (topS 74)) = f_is_mix.body := by kernel_rfl
theorem sc_within : FnScope f_within.N f_within.ps (defScope (topS 75)) := ⟨rfl, rfl, rfl, by decide +kernel, rfl, by decide +kernel, by decide +kernel⟩
theorem tr_within : trSs gt f_within.N 60 (defScope (topS 75)) (defScope (topS 75)) (defBody (topS 75)) = f_within.body := by kernel_rfl
theorem sc_parts_of : FnScope f_parts_of.N f_parts_of.ps (defScope (topS 76)) := ⟨rfl, rfl, rfl, by decide +kernel, rfl, by decide +kernel, by decide +kernel⟩
theorem tr_parts_of : trSs gt f_parts_of.N 60 (defScope (topS 76)) (defScope (topS 76)) (defBody (topS 76)) = f_parts_of.body := by kernel_rfl
theorem sc_factor_of : FnScope f_factor_of.N f_factor_of.ps (defScope (topS 77)) := ⟨rfl, rfl, rfl, by decide +kernel, rfl, by decide +kernel, by decide +kernel⟩
theorem tr_factor_of : trSs gt f_factor_of.N 60 (defScope (topS 77)) (defScope (topS 77)) (defBody (topS 77)) = f_factor_of.body := by kernel_rfl
theorem sc_step_pair : FnScope f_step_pair.N f_step_pair.ps (defScope (topS 78)) := ⟨rfl, rfl, rfl, by decide +kernel, rfl, by decide +kernel, by decide +kernel⟩
theorem tr_step_pair : trSs gt f_step_pair.N 60 (defScope (topS 78)) (defScope (topS 78)) (defBody (topS 78)) = f_step_pair.body := by kernel_rfl
theorem sc_frame_pairs : FnScope f_frame_pairs.N f_frame_pairs.ps (defScope (topS 80)) := ⟨rfl, rfl, rfl, by decide +kernel, rfl, by decide +kernel, by decide +kernel⟩
theorem tr_frame_pairs : trSs gt f_frame_pairs.N 60 (defScope (topS 80)) (defScope (topS 80)) (defBody (topS 80)) = f_frame_pairs.body := by kernel_rfl
theorem sc_find_ladder : FnScope f_find_ladder.N f_find_ladder.ps (defScope (topS 81)) := ⟨rfl, rfl, rfl, by decide +kernel, rfl, by decide +kernel, by decide +kernel⟩
theorem tr_find_ladder : trSs gt f_find_ladder.N 60 (defScope (topS 81)) (defScope (topS 81)) (defBody (topS 81)) = f_find_ladder.body := by kernel_rfl
theorem sc_number_of : FnScope f_number_of.N f_number_of.ps (defScope (topS 82)) := ⟨rfl, rfl, rfl, by decide +kernel, rfl, by decide +kernel, by decide +kernel⟩
theorem tr_number_of : trSs gt f_number_of.N 60 (defScope (topS 82)) (defScope (topS 82)) (defBody (topS 82)) = f_number_of.body := by kernel_rfl
theorem sc_need_term : FnScope f_need_term.N f_need_term.ps (defScope (topS 83)) := ⟨rfl, rfl, rfl, by decide +kernel, rfl, by decide +kernel, by decide +kernel⟩
theorem tr_need_term : trSs gt f_need_term.N 60 (defScope (topS 83)) (defScope (topS 83)) (defBody (topS 83)) = f_need_term.body := by kernel_rfl
theorem sc_ladder_of : FnScope f_ladder_of.N f_ladder_of.ps (defScope (topS 84)) := ⟨rfl, rfl, rfl, by decide +kernel, rfl, by decide +kernel, by decide +kernel⟩
theorem tr_ladder_of : trSs gt f_ladder_of.N 60 (defScope (topS 84)) (defScope (topS 84)) (defBody (topS 84)) = f_ladder_of.body := by kernel_rfl
theorem sc_numbers : FnScope f_numbers.N f_numbers.ps (defScope (topS 85)) := ⟨rfl, rfl, rfl, by decide +kernel, rfl, by decide +kernel, by decide +kernel⟩
theorem tr_numbers : trSs gt f_numbers.N 60 (defScope (topS 85)) (defScope (topS 85)) (defBody (topS 85)) = f_numbers.body := by kernel_rfl
theorem sc_mix_ladder : FnScope f_mix_ladder.N f_mix_ladder.ps (defScope (topS 86)) := ⟨rfl, rfl, rfl, by decide +kernel, rfl, by decide +kernel, by decide +kernel⟩
theorem tr_mix_ladder : trSs gt f_mix_ladder.N 60 (defScope (topS 86)) (defScope (topS 86)) (defBody (topS 86)) = f_mix_ladder.body := by kernel_rfl
theorem sc_law : FnScope f_law.N f_law.ps (defScope (topS 88)) := ⟨rfl, rfl, rfl, by decide +kernel, rfl, by decide +kernel, by decide +kernel⟩
theorem tr_law : trSs gt f_law.N 60 (defScope (topS 88)) (defScope (topS 88)) (defBody (topS 88)) = f_law.body := by kernel_rfl
end L_onenumber_k25_numbers_by_hand

set_option Elab.async false
set_option linter.all false
set_option maxRecDepth 100000
set_option maxHeartbeats 4000000
namespace PD
theorem run_step {cl : Nat → List D → Hh → R D} {a b : Sx} {en en2 : En} {h h2 : Hh} (e : exec cl a en h = .nx en2 h2) : exec cl (.seq a b) en h = exec cl b en2 h2 := by
  rw [exec_seq]
  show thenS (exec cl a en h) (exec cl b) = _
  rw [e]
  rfl
theorem run_end {cl : Nat → List D → Hh → R D} {a b : Sx} {en : En} {h h2 : Hh} {d : D} (e : exec cl a en h = .rt d h2) : exec cl (.seq a b) en h = .rt d h2 := by
  rw [exec_seq]
  show thenS (exec cl a en h) (exec cl b) = _
  rw [e]
  rfl
end PD
namespace L_onenumber_k25_numbers_by_hand
open PD PySem
def S_0 : Sx := (.asg (.name 1) (.tup (.cons (.con (.str "step")) (.cons (.tup (.cons (.con (.int 1)) (.cons (.con (.int 1)) .nil))) (.cons (.tup (.cons (.tup (.cons (.tup (.cons (.con (.int 1)) (.cons (.con (.int 2)) .nil))) (.cons (.tup (.cons (.con (.str "step")) (.cons (.tup (.cons (.con (.int 9)) (.cons (.con (.int 1)) .nil))) (.cons (.tup .nil) .nil)))) .nil))) .nil)) .nil)))))
def S_1 : Sx := (.asg (.name 2) (.tup (.cons (.con (.str "step")) (.cons (.tup (.cons (.con (.int 1)) (.cons (.con (.int 1)) .nil))) (.cons (.tup (.cons (.tup (.cons (.tup (.cons (.con (.int 1)) (.cons (.con (.int 2)) .nil))) (.cons (.tup (.cons (.con (.str "step")) (.cons (.tup (.cons (.con (.int 1)) (.cons (.con (.int 1)) .nil))) (.cons (.tup .nil) .nil)))) .nil))) .nil)) .nil)))))
def S_2 : Sx := (.ife (.cmp .NotEq (.lst (.cons (.call 553 (.cons (.var 1) .nil)) (.cons (.call 553 (.cons (.var 2) .nil)) .nil))) (.lst (.cons (.tup (.cons (.tup (.cons (.tup (.cons (.con (.int 11)) (.cons (.con (.int 2)) .nil))) (.cons (.tup (.cons (.con (.int 1)) (.cons (.con (.int 1)) .nil))) .nil))) .nil)) (.cons (.tup (.cons (.tup (.cons (.tup (.cons (.con (.int 1)) (.cons (.con (.int 1)) .nil))) (.cons (.tup (.cons (.con (.int 1)) (.cons (.con (.int 2)) .nil))) .nil))) (.cons (.tup (.cons (.tup (.cons (.con (.int 1)) (.cons (.con (.int 2)) .nil))) (.cons (.tup (.cons (.con (.int 1)) (.cons (.con (.int 2)) .nil))) .nil))) .nil))) .nil)))) (.seq (.ret (.con (.bl false))) .skip) .skip)
def S_3 : Sx := (.ife (.or (.cmp .NotEq (.call 629 (.cons (.var 1) .nil)) (.lst (.cons (.tup (.cons (.tup (.cons (.con (.int 11)) (.cons (.con (.int 2)) .nil))) (.cons (.tup (.cons (.con (.int 1)) (.cons (.con (.int 1)) .nil))) .nil))) (.cons (.tup (.cons (.tup (.cons (.con (.int 9)) (.cons (.con (.int 1)) .nil))) (.cons (.tup (.cons (.con (.int 1)) (.cons (.con (.int 1)) .nil))) .nil))) .nil)))) (.cmp .NotEq (.call 655 (.cons (.call 553 (.cons (.var 2) .nil)) .nil)) (.tup (.cons (.con (.int 3)) (.cons (.con (.int 2)) .nil))))) (.seq (.ret (.con (.bl false))) .skip) .skip)
def S_4 : Sx := (.ife (.or (.cmp .NotEq (.call 576 (.cons (.tup (.cons (.var 1) (.cons (.var 2) .nil))) .nil)) (.tup (.cons (.tup (.cons (.tup (.cons (.con (.int 11)) (.cons (.con (.int 2)) .nil))) (.cons (.tup (.cons (.con (.int 1)) (.cons (.con (.int 1)) .nil))) .nil))) .nil))) (.cmp .NotEq (.ix (.call 576 (.cons (.tup (.cons (.var 2) (.cons (.var 2) .nil))) .nil)) (.con (.int 0))) (.tup (.cons (.tup (.cons (.con (.int 3)) (.cons (.con (.int 2)) .nil))) (.cons (.tup (.cons (.con (.int 3)) (.cons (.con (.int 4)) .nil))) .nil))))) (.seq (.ret (.con (.bl false))) .skip) .skip)
def S_5 : Sx := (.asg (.name 3) (.tup (.cons (.con (.str "step")) (.cons (.tup (.cons (.con (.int 2)) (.cons (.con (.int 1)) .nil))) (.cons (.tup (.cons (.tup (.cons (.tup (.cons (.con (.int 1)) (.cons (.con (.int 2)) .nil))) (.cons (.tup (.cons (.con (.str "step")) (.cons (.tup (.cons (.con (.int 4)) (.cons (.con (.int 1)) .nil))) (.cons (.tup .nil) .nil)))) .nil))) .nil)) .nil)))))
def S_6 : Sx := (.ife (.or (.cmp .NotEq (.call 629 (.cons (.var 3) .nil)) (.bin .Mult (.lst (.cons (.tup (.cons (.tup (.cons (.con (.int 4)) (.cons (.con (.int 1)) .nil))) (.cons (.tup (.cons (.con (.int 1)) (.cons (.con (.int 1)) .nil))) .nil))) .nil)) (.con (.int 2)))) (.cmp .NotEq (.call 553 (.cons (.var 3) .nil)) (.tup (.cons (.tup (.cons (.tup (.cons (.con (.int 4)) (.cons (.con (.int 1)) .nil))) (.cons (.tup (.cons (.con (.int 1)) (.cons (.con (.int 1)) .nil))) .nil))) .nil)))) (.seq (.ret (.con (.bl false))) .skip) .skip)
def S_7 : Sx := (.asg (.name 4) (.tup (.cons (.con (.str "step")) (.cons (.tup (.cons (.con (.int 3)) (.cons (.con (.int 1)) .nil))) (.cons (.tup (.cons (.tup (.cons (.tup (.cons (.con (.int 2)) (.cons (.con (.int 1)) .nil))) (.cons (.tup (.cons (.con (.str "step")) (.cons (.tup (.cons (.con (.int 2)) (.cons (.con (.int 1)) .nil))) (.cons (.tup .nil) .nil)))) .nil))) .nil)) .nil)))))
def S_8 : Sx := (.ife (.or (.cmp .NotEq (.call 553 (.cons (.var 4) .nil)) (.tup (.cons (.tup (.cons (.tup (.cons (.con (.int 3)) (.cons (.con (.int 1)) .nil))) (.cons (.tup (.cons (.neg (.con (.int 1))) (.cons (.con (.int 1)) .nil))) .nil))) (.cons (.tup (.cons (.tup (.cons (.con (.int 4)) (.cons (.con (.int 1)) .nil))) (.cons (.tup (.cons (.con (.int 2)) (.cons (.con (.int 1)) .nil))) .nil))) .nil)))) (.cmp .NotEq (.call 421 (.cons (.call 553 (.cons (.var 4) .nil)) .nil)) (.var 4))) (.seq (.ret (.con (.bl false))) .skip) .skip)
def S_9 : Sx := (.ife (.cmp .NotEq (.call 686 (.cons (.lst (.cons (.call 553 (.cons (.var 4) .nil)) (.cons (.call 553 (.cons (.var 4) .nil)) .nil))) .nil)) (.tup (.cons (.tup (.cons (.tup (.cons (.con (.int 9)) (.cons (.con (.int 1)) .nil))) (.cons (.tup (.cons (.neg (.con (.int 3))) (.cons (.con (.int 1)) .nil))) .nil))) (.cons (.tup (.cons (.tup (.cons (.con (.int 8)) (.cons (.con (.int 1)) .nil))) (.cons (.tup (.cons (.con (.int 4)) (.cons (.con (.int 1)) .nil))) .nil))) .nil)))) (.seq (.ret (.con (.bl false))) .skip) .skip)
def S_10 : Sx := (.asg (.name 5) (.tup (.cons (.con (.str "step")) (.cons (.tup (.cons (.con (.int 0)) (.cons (.con (.int 1)) .nil))) (.cons (.tup (.cons (.tup (.cons (.tup (.cons (.con (.int 1)) (.cons (.con (.int 2)) .nil))) (.cons (.var 1) .nil))) (.cons (.tup (.cons (.tup (.cons (.con (.int 1)) (.cons (.con (.int 2)) .nil))) (.cons (.var 2) .nil))) .nil))) .nil)))))
def S_11 : Sx := (.ife (.or (.cmp .NotEq (.call 553 (.cons (.var 5) .nil)) (.tup (.cons (.tup (.cons (.tup (.cons (.con (.int 11)) (.cons (.con (.int 4)) .nil))) (.cons (.tup (.cons (.con (.int 1)) (.cons (.con (.int 2)) .nil))) .nil))) (.cons (.tup (.cons (.tup (.cons (.con (.int 1)) (.cons (.con (.int 2)) .nil))) (.cons (.tup (.cons (.con (.int 1)) (.cons (.con (.int 4)) .nil))) .nil))) (.cons (.tup (.cons (.tup (.cons (.con (.int 1)) (.cons (.con (.int 4)) .nil))) (.cons (.tup (.cons (.con (.int 1)) (.cons (.con (.int 4)) .nil))) .nil))) .nil))))) (.cmp .NotEq (.ix (.call 629 (.cons (.var 5) .nil)) (.con (.int 0))) (.con (.str "toss")))) (.seq (.ret (.con (.bl false))) .skip) .skip)
def S_12 : Sx := (.asg (.tup (.cons (.name 6) (.cons (.name 3) (.cons (.name 7) .nil)))) (.tup (.cons (.tup (.cons (.tup (.cons (.neg (.con (.int 1))) (.cons (.con (.int 1)) .nil))) (.cons (.tup (.cons (.neg (.con (.int 1))) (.cons (.con (.int 1)) .nil))) .nil))) (.cons (.tup (.cons (.tup (.cons (.con (.int 1)) (.cons (.con (.int 1)) .nil))) (.cons (.tup (.cons (.con (.int 1)) (.cons (.con (.int 2)) .nil))) .nil))) (.cons (.tup (.cons (.tup (.cons (.neg (.con (.int 1))) (.cons (.con (.int 10)) .nil))) (.cons (.tup (.cons (.con (.int 1)) (.cons (.con (.int 2)) .nil))) .nil))) .nil)))))
def S_13 : Sx := (.ife (.or (.cmp .IsNot (.call 735 (.cons (.lst (.cons (.var 6) (.cons (.var 3) (.cons (.var 7) .nil)))) .nil)) (.con .non)) (.not (.call 533 (.cons (.lst (.cons (.var 6) (.cons (.var 3) (.cons (.var 7) .nil)))) (.cons (.call 672 (.cons (.lst (.cons (.var 6) (.cons (.var 3) (.cons (.var 7) .nil)))) .nil)) .nil))))) (.seq (.ret (.con (.bl false))) .skip) .skip)
def S_14 : Sx := (.ife (.or (.cmp .Is (.call 735 (.cons (.lst (.cons (.var 6) (.cons (.var 7) .nil))) .nil)) (.con .non)) (.or (.cmp .Is (.call 735 (.cons (.lst (.cons (.var 3) (.cons (.var 7) .nil))) .nil)) (.con .non)) (.cmp .Is (.call 735 (.cons (.lst (.cons (.var 6) (.cons (.var 3) .nil))) .nil)) (.con .non)))) (.seq (.ret (.con (.bl false))) .skip) .skip)
def S_15 : Sx := (.asg (.name 8) (.tup (.cons (.con (.str "step")) (.cons (.tup (.cons (.neg (.con (.int 1))) (.cons (.con (.int 1)) .nil))) (.cons (.tup (.cons (.tup (.cons (.tup (.cons (.con (.int 2)) (.cons (.con (.int 1)) .nil))) (.cons (.tup (.cons (.con (.str "step")) (.cons (.tup (.cons (.neg (.con (.int 3))) (.cons (.con (.int 1)) .nil))) (.cons (.tup (.cons (.tup (.cons (.tup (.cons (.con (.int 1)) (.cons (.con (.int 4)) .nil))) (.cons (.tup (.cons (.con (.str "end")) .nil)) .nil))) .nil)) .nil)))) .nil))) .nil)) .nil)))))
def S_16 : Sx := (.ife (.or (.cmp .NotEq (.call 553 (.cons (.var 8) .nil)) (.tup (.cons (.tup (.cons (.tup (.cons (.neg (.con (.int 7))) (.cons (.con (.int 1)) .nil))) (.cons (.tup (.cons (.con (.int 1)) (.cons (.con (.int 2)) .nil))) .nil))) .nil))) (.cmp .NotEq (.call 629 (.cons (.var 8) .nil)) (.lst (.cons (.tup (.cons (.tup (.cons (.neg (.con (.int 7))) (.cons (.con (.int 1)) .nil))) (.cons (.tup (.cons (.con (.int 1)) (.cons (.con (.int 2)) .nil))) .nil))) (.cons (.tup (.cons (.tup (.cons (.neg (.con (.int 3))) (.cons (.con (.int 1)) .nil))) (.cons (.tup (.cons (.con (.int 3)) (.cons (.con (.int 4)) .nil))) .nil))) .nil))))) (.seq (.ret (.con (.bl false))) .skip) .skip)
def S_17 : Sx := (.asg (.name 9) (.tup (.cons (.con (.str "all")) (.cons (.tup (.cons (.var 8) (.cons (.tup (.cons (.con (.str "step")) (.cons (.tup (.cons (.neg (.con (.int 2))) (.cons (.con (.int 1)) .nil))) (.cons (.tup (.cons (.tup (.cons (.tup (.cons (.con (.int 1)) (.cons (.con (.int 2)) .nil))) (.cons (.tup (.cons (.con (.str "end")) .nil)) .nil))) .nil)) .nil)))) .nil))) .nil))))
def S_18 : Sx := (.ife (.cmp .NotEq (.call 553 (.cons (.var 9) .nil)) (.tup (.cons (.tup (.cons (.tup (.cons (.neg (.con (.int 2))) (.cons (.con (.int 1)) .nil))) (.cons (.tup (.cons (.con (.int 1)) (.cons (.con (.int 2)) .nil))) .nil))) (.cons (.tup (.cons (.tup (.cons (.neg (.con (.int 7))) (.cons (.con (.int 2)) .nil))) (.cons (.tup (.cons (.con (.int 1)) (.cons (.con (.int 4)) .nil))) .nil))) .nil)))) (.seq (.ret (.con (.bl false))) .skip) .skip)
def S_19 : Sx := (.ret (.cmp .Eq (.call 473 (.cons (.tup (.cons (.tup (.cons (.neg (.con (.int 1))) (.cons (.con (.int 1)) .nil))) (.cons (.tup (.cons (.neg (.con (.int 1))) (.cons (.con (.int 1)) .nil))) .nil))) (.cons (.lst (.cons (.tup (.cons (.tup (.cons (.neg (.con (.int 6))) (.cons (.con (.int 1)) .nil))) (.cons (.tup (.cons (.con (.int 3)) (.cons (.con (.int 2)) .nil))) .nil))) .nil)) .nil))) (.tup (.cons (.tup (.cons (.tup (.cons (.neg (.con (.int 7))) (.cons (.con (.int 1)) .nil))) (.cons (.tup (.cons (.con (.int 1)) (.cons (.con (.int 2)) .nil))) .nil))) .nil))))
def B_20 : Sx := .skip
def B_19 : Sx := .seq S_19 B_20
def B_18 : Sx := .seq S_18 B_19
def B_17 : Sx := .seq S_17 B_18
def B_16 : Sx := .seq S_16 B_17
def B_15 : Sx := .seq S_15 B_16
def B_14 : Sx := .seq S_14 B_15
def B_13 : Sx := .seq S_13 B_14
def B_12 : Sx := .seq S_12 B_13
def B_11 : Sx := .seq S_11 B_12
def B_10 : Sx := .seq S_10 B_11
def B_9 : Sx := .seq S_9 B_10
def B_8 : Sx := .seq S_8 B_9
def B_7 : Sx := .seq S_7 B_8
def B_6 : Sx := .seq S_6 B_7
def B_5 : Sx := .seq S_5 B_6
def B_4 : Sx := .seq S_4 B_5
def B_3 : Sx := .seq S_3 B_4
def B_2 : Sx := .seq S_2 B_3
def B_1 : Sx := .seq S_1 B_2
def B_0 : Sx := .seq S_0 B_1
def H_0 : Hh := []
abbrev E_0 (ns : List Int) : En := [some (.scr ns), none, none, none, none, none, none, none, none, none]
def C_0 : Hh := []
def H_1 : Hh := C_0
abbrev E_1 (ns : List Int) : En := [some (.scr ns), some (.tup [(.str "step"), (.tup [(.int 1), (.int 1)]), (.tup [(.tup [(.tup [(.int 1), (.int 2)]), (.tup [(.str "step"), (.tup [(.int 9), (.int 1)]), (.tup [])])])])]), none, none, none, none, none, none, none, none]
theorem s_0 (ns : List Int) : exec (callF fs 39) S_0 (E_0 ns) H_0 = .nx (E_1 ns) H_1 := by kernel_rfl
def C_1 : Hh := []
def H_2 : Hh := C_0 ++ (C_1)
abbrev E_2 (ns : List Int) : En := [some (.scr ns), some (.tup [(.str "step"), (.tup [(.int 1), (.int 1)]), (.tup [(.tup [(.tup [(.int 1), (.int 2)]), (.tup [(.str "step"), (.tup [(.int 9), (.int 1)]), (.tup [])])])])]), some (.tup [(.str "step"), (.tup [(.int 1), (.int 1)]), (.tup [(.tup [(.tup [(.int 1), (.int 2)]), (.tup [(.str "step"), (.tup [(.int 1), (.int 1)]), (.tup [])])])])]), none, none, none, none, none, none, none]
theorem s_1 (ns : List Int) : exec (callF fs 39) S_1 (E_1 ns) H_1 = .nx (E_2 ns) H_2 := by kernel_rfl
def C_2 : Hh := [.lst [(.bl true)], .lst [(.tup [(.str "step"), (.tup [(.int 9), (.int 1)]), (.tup [])])], .lst [], .lst [], .lst [(.tup [(.str "step"), (.tup [(.int 1), (.int 1)]), (.tup [(.tup [(.tup [(.int 1), (.int 2)]), (.tup [(.str "step"), (.tup [(.int 9), (.int 1)]), (.tup [])])])])]), (.tup [(.str "step"), (.tup [(.int 9), (.int 1)]), (.tup [])])], .lst [(.tup [(.str "step"), (.tup [(.int 9), (.int 1)]), (.tup [])])], .lst [(.tup [(.str "step"), (.tup [(.int 9), (.int 1)]), (.tup [])])], .lst [], .lst [(.tup [(.tup [(.int 1), (.int 1)]), (.tup [(.int 1), (.int 2)])]), (.tup [(.tup [(.int 9), (.int 1)]), (.tup [(.int 1), (.int 1)])])], .lst [(.tup [(.tup [(.int 1), (.int 1)]), (.tup [(.int 1), (.int 2)])]), (.tup [(.tup [(.int 9), (.int 1)]), (.tup [(.int 1), (.int 1)])])], .lst [], .lst [], .lst [], .lst [], .lst [], .lst [], .lst [(.tup [(.tup [(.int 9), (.int 1)]), (.tup [(.int 1), (.int 1)])])], .lst [(.tup [(.tup [(.int 9), (.int 1)]), (.tup [(.int 1), (.int 1)])])], .lst [(.tup [(.tup [(.int 1), (.int 2)]), (.tup [(.tup [(.tup [(.int 9), (.int 1)]), (.tup [(.int 1), (.int 1)])])])])], .lst [(.tup [(.tup [(.int 9), (.int 2)]), (.tup [(.int 1), (.int 2)])])], .lst [(.tup [(.tup [(.int 9), (.int 2)]), (.tup [(.int 1), (.int 2)])])], .lst [(.tup [(.tup [(.int 9), (.int 2)]), (.tup [(.int 1), (.int 2)])])], .lst [], .lst [], .lst [], .lst [(.tup [(.tup [(.int 11), (.int 2)]), (.tup [(.int 1), (.int 1)])])], .lst [(.tup [(.tup [(.int 11), (.int 2)]), (.tup [(.int 1), (.int 1)])])], .lst [(.bl true)], .lst [(.tup [(.str "step"), (.tup [(.int 1), (.int 1)]), (.tup [])])], .lst [], .lst [], .lst [(.tup [(.str "step"), (.tup [(.int 1), (.int 1)]), (.tup [(.tup [(.tup [(.int 1), (.int 2)]), (.tup [(.str "step"), (.tup [(.int 1), (.int 1)]), (.tup [])])])])]), (.tup [(.str "step"), (.tup [(.int 1), (.int 1)]), (.tup [])])], .lst [(.tup [(.str "step"), (.tup [(.int 1), (.int 1)]), (.tup [])])], .lst [(.tup [(.str "step"), (.tup [(.int 1), (.int 1)]), (.tup [])])], .lst [], .lst [(.tup [(.tup [(.int 1), (.int 1)]), (.tup [(.int 1), (.int 2)])]), (.tup [(.tup [(.int 1), (.int 1)]), (.tup [(.int 1), (.int 1)])])], .lst [(.tup [(.tup [(.int 1), (.int 1)]), (.tup [(.int 1), (.int 2)])]), (.tup [(.tup [(.int 1), (.int 1)]), (.tup [(.int 1), (.int 1)])])], .lst [], .lst [], .lst [], .lst [], .lst [], .lst [], .lst [(.tup [(.tup [(.int 1), (.int 1)]), (.tup [(.int 1), (.int 1)])])], .lst [(.tup [(.tup [(.int 1), (.int 1)]), (.tup [(.int 1), (.int 1)])])], .lst [(.tup [(.tup [(.int 1), (.int 2)]), (.tup [(.tup [(.tup [(.int 1), (.int 1)]), (.tup [(.int 1), (.int 1)])])])])], .lst [(.tup [(.tup [(.int 1), (.int 2)]), (.tup [(.int 1), (.int 2)])])], .lst [(.tup [(.tup [(.int 1), (.int 2)]), (.tup [(.int 1), (.int 2)])])], .lst [(.tup [(.tup [(.int 1), (.int 2)]), (.tup [(.int 1), (.int 2)])])], .lst [(.tup [(.tup [(.int 1), (.int 2)]), (.tup [(.int 1), (.int 2)])])], .lst [], .lst [(.tup [(.tup [(.int 1), (.int 1)]), (.tup [(.int 1), (.int 2)])]), (.tup [(.tup [(.int 1), (.int 2)]), (.tup [(.int 1), (.int 2)])])], .lst [(.tup [(.tup [(.int 1), (.int 1)]), (.tup [(.int 1), (.int 2)])]), (.tup [(.tup [(.int 1), (.int 2)]), (.tup [(.int 1), (.int 2)])])], .lst [(.tup [(.tup [(.tup [(.int 11), (.int 2)]), (.tup [(.int 1), (.int 1)])])]), (.tup [(.tup [(.tup [(.int 1), (.int 1)]), (.tup [(.int 1), (.int 2)])]), (.tup [(.tup [(.int 1), (.int 2)]), (.tup [(.int 1), (.int 2)])])])], .lst [(.tup [(.tup [(.tup [(.int 11), (.int 2)]), (.tup [(.int 1), (.int 1)])])]), (.tup [(.tup [(.tup [(.int 1), (.int 1)]), (.tup [(.int 1), (.int 2)])]), (.tup [(.tup [(.int 1), (.int 2)]), (.tup [(.int 1), (.int 2)])])])]]
def H_3 : Hh := C_0 ++ (C_1 ++ (C_2))
abbrev E_3 (ns : List Int) : En := [some (.scr ns), some (.tup [(.str "step"), (.tup [(.int 1), (.int 1)]), (.tup [(.tup [(.tup [(.int 1), (.int 2)]), (.tup [(.str "step"), (.tup [(.int 9), (.int 1)]), (.tup [])])])])]), some (.tup [(.str "step"), (.tup [(.int 1), (.int 1)]), (.tup [(.tup [(.tup [(.int 1), (.int 2)]), (.tup [(.str "step"), (.tup [(.int 1), (.int 1)]), (.tup [])])])])]), none, none, none, none, none, none, none]
theorem s_2 (ns : List Int) : exec (callF fs 39) S_2 (E_2 ns) H_2 = .nx (E_3 ns) H_3 := by kernel_rfl
def C_3 : Hh := [.lst [(.bl true)], .lst [(.tup [(.str "step"), (.tup [(.int 9), (.int 1)]), (.tup [])])], .lst [], .lst [], .lst [(.tup [(.str "step"), (.tup [(.int 1), (.int 1)]), (.tup [(.tup [(.tup [(.int 1), (.int 2)]), (.tup [(.str "step"), (.tup [(.int 9), (.int 1)]), (.tup [])])])])]), (.tup [(.str "step"), (.tup [(.int 9), (.int 1)]), (.tup [])])], .lst [(.tup [(.str "step"), (.tup [(.int 9), (.int 1)]), (.tup [])])], .lst [(.tup [(.str "step"), (.tup [(.int 9), (.int 1)]), (.tup [])])], .lst [], .lst [(.tup [(.tup [(.int 1), (.int 1)]), (.tup [(.int 1), (.int 2)])]), (.tup [(.tup [(.int 9), (.int 1)]), (.tup [(.int 1), (.int 1)])])], .lst [(.tup [(.tup [(.int 1), (.int 1)]), (.tup [(.int 1), (.int 2)])]), (.tup [(.tup [(.int 9), (.int 1)]), (.tup [(.int 1), (.int 1)])])], .lst [(.tup [(.str "step"), (.tup [(.int 1), (.int 1)]), (.tup [(.tup [(.tup [(.int 1), (.int 2)]), (.tup [(.str "step"), (.tup [(.int 9), (.int 1)]), (.tup [])])])])]), (.tup [(.str "step"), (.tup [(.int 9), (.int 1)]), (.tup [])])], .lst [(.tup [(.str "step"), (.tup [(.int 9), (.int 1)]), (.tup [])])], .lst [(.tup [(.str "step"), (.tup [(.int 9), (.int 1)]), (.tup [])])], .lst [], .lst [], .lst [], .lst [], .lst [], .lst [], .lst [], .lst [(.tup [(.tup [(.int 9), (.int 1)]), (.tup [(.int 1), (.int 1)])])], .lst [(.tup [(.tup [(.int 9), (.int 1)]), (.tup [(.int 1), (.int 1)])])], .lst [(.tup [(.tup [(.int 1), (.int 2)]), (.tup [(.tup [(.tup [(.int 9), (.int 1)]), (.tup [(.int 1), (.int 1)])])])])], .lst [(.tup [(.tup [(.int 9), (.int 2)]), (.tup [(.int 1), (.int 2)])])], .lst [(.tup [(.tup [(.int 9), (.int 2)]), (.tup [(.int 1), (.int 2)])])], .lst [(.tup [(.tup [(.int 9), (.int 2)]), (.tup [(.int 1), (.int 2)])])], .lst [], .lst [], .lst [], .lst [(.tup [(.tup [(.int 11), (.int 2)]), (.tup [(.int 1), (.int 1)])])], .lst [(.tup [(.tup [(.int 11), (.int 2)]), (.tup [(.int 1), (.int 1)])])], .lst [], .lst [], .lst [], .lst [], .lst [], .lst [], .lst [(.tup [(.tup [(.int 9), (.int 1)]), (.tup [(.int 1), (.int 1)])])], .lst [(.tup [(.tup [(.int 9), (.int 1)]), (.tup [(.int 1), (.int 1)])])], .lst [(.tup [(.tup [(.int 11), (.int 2)]), (.tup [(.int 1), (.int 1)])]), (.tup [(.tup [(.int 9), (.int 1)]), (.tup [(.int 1), (.int 1)])])], .lst [(.tup [(.tup [(.int 11), (.int 2)]), (.tup [(.int 1), (.int 1)])]), (.tup [(.tup [(.int 9), (.int 1)]), (.tup [(.int 1), (.int 1)])])], .lst [(.bl true)], .lst [(.tup [(.str "step"), (.tup [(.int 1), (.int 1)]), (.tup [])])], .lst [], .lst [], .lst [(.tup [(.str "step"), (.tup [(.int 1), (.int 1)]), (.tup [(.tup [(.tup [(.int 1), (.int 2)]), (.tup [(.str "step"), (.tup [(.int 1), (.int 1)]), (.tup [])])])])]), (.tup [(.str "step"), (.tup [(.int 1), (.int 1)]), (.tup [])])], .lst [(.tup [(.str "step"), (.tup [(.int 1), (.int 1)]), (.tup [])])], .lst [(.tup [(.str "step"), (.tup [(.int 1), (.int 1)]), (.tup [])])], .lst [], .lst [(.tup [(.tup [(.int 1), (.int 1)]), (.tup [(.int 1), (.int 2)])]), (.tup [(.tup [(.int 1), (.int 1)]), (.tup [(.int 1), (.int 1)])])], .lst [(.tup [(.tup [(.int 1), (.int 1)]), (.tup [(.int 1), (.int 2)])]), (.tup [(.tup [(.int 1), (.int 1)]), (.tup [(.int 1), (.int 1)])])], .lst [], .lst [], .lst [], .lst [], .lst [], .lst [], .lst [(.tup [(.tup [(.int 1), (.int 1)]), (.tup [(.int 1), (.int 1)])])], .lst [(.tup [(.tup [(.int 1), (.int 1)]), (.tup [(.int 1), (.int 1)])])], .lst [(.tup [(.tup [(.int 1), (.int 2)]), (.tup [(.tup [(.tup [(.int 1), (.int 1)]), (.tup [(.int 1), (.int 1)])])])])], .lst [(.tup [(.tup [(.int 1), (.int 2)]), (.tup [(.int 1), (.int 2)])])], .lst [(.tup [(.tup [(.int 1), (.int 2)]), (.tup [(.int 1), (.int 2)])])], .lst [(.tup [(.tup [(.int 1), (.int 2)]), (.tup [(.int 1), (.int 2)])])], .lst [(.tup [(.tup [(.int 1), (.int 2)]), (.tup [(.int 1), (.int 2)])])], .lst [], .lst [(.tup [(.tup [(.int 1), (.int 1)]), (.tup [(.int 1), (.int 2)])]), (.tup [(.tup [(.int 1), (.int 2)]), (.tup [(.int 1), (.int 2)])])], .lst [(.tup [(.tup [(.int 1), (.int 1)]), (.tup [(.int 1), (.int 2)])]), (.tup [(.tup [(.int 1), (.int 2)]), (.tup [(.int 1), (.int 2)])])], .lst [(.bl true), (.bl true)], .lst [(.bl true)], .lst [(.tup [(.int 1), (.int 2)]), (.tup [(.int 0), (.int 1)])], .lst [(.int 1), (.int 0)], .lst [(.int 1)], .lst [(.bl true)], .lst [(.bl true), (.bl true)]]
def H_4 : Hh := C_0 ++ (C_1 ++ (C_2 ++ (C_3)))
abbrev E_4 (ns : List Int) : En := [some (.scr ns), some (.tup [(.str "step"), (.tup [(.int 1), (.int 1)]), (.tup [(.tup [(.tup [(.int 1), (.int 2)]), (.tup [(.str "step"), (.tup [(.int 9), (.int 1)]), (.tup [])])])])]), some (.tup [(.str "step"), (.tup [(.int 1), (.int 1)]), (.tup [(.tup [(.tup [(.int 1), (.int 2)]), (.tup [(.str "step"), (.tup [(.int 1), (.int 1)]), (.tup [])])])])]), none, none, none, none, none, none, none]
theorem s_3 (ns : List Int) : exec (callF fs 39) S_3 (E_3 ns) H_3 = .nx (E_4 ns) H_4 := by kernel_rfl
def C_4 : Hh := [.lst [(.bl true)], .lst [(.tup [(.str "step"), (.tup [(.int 9), (.int 1)]), (.tup [])])], .lst [], .lst [], .lst [(.bl true)], .lst [(.tup [(.str "step"), (.tup [(.int 1), (.int 1)]), (.tup [])])], .lst [], .lst [], .lst [(.bl true), (.bl true)], .lst [(.bl true)], .lst [(.tup [(.str "step"), (.tup [(.int 9), (.int 1)]), (.tup [])])], .lst [], .lst [], .lst [(.bl true)], .lst [(.tup [(.str "step"), (.tup [(.int 1), (.int 1)]), (.tup [])])], .lst [], .lst [], .lst [(.tup [(.str "step"), (.tup [(.int 1), (.int 1)]), (.tup [(.tup [(.tup [(.int 1), (.int 2)]), (.tup [(.str "step"), (.tup [(.int 9), (.int 1)]), (.tup [])])])])]), (.tup [(.str "step"), (.tup [(.int 9), (.int 1)]), (.tup [])])], .lst [(.tup [(.str "step"), (.tup [(.int 9), (.int 1)]), (.tup [])])], .lst [(.tup [(.str "step"), (.tup [(.int 9), (.int 1)]), (.tup [])])], .lst [], .lst [(.tup [(.tup [(.int 1), (.int 1)]), (.tup [(.int 1), (.int 2)])]), (.tup [(.tup [(.int 9), (.int 1)]), (.tup [(.int 1), (.int 1)])])], .lst [(.tup [(.tup [(.int 1), (.int 1)]), (.tup [(.int 1), (.int 2)])]), (.tup [(.tup [(.int 9), (.int 1)]), (.tup [(.int 1), (.int 1)])])], .lst [(.tup [(.str "step"), (.tup [(.int 1), (.int 1)]), (.tup [(.tup [(.tup [(.int 1), (.int 2)]), (.tup [(.str "step"), (.tup [(.int 1), (.int 1)]), (.tup [])])])])]), (.tup [(.str "step"), (.tup [(.int 1), (.int 1)]), (.tup [])])], .lst [(.tup [(.str "step"), (.tup [(.int 1), (.int 1)]), (.tup [])])], .lst [(.tup [(.str "step"), (.tup [(.int 1), (.int 1)]), (.tup [])])], .lst [], .lst [(.tup [(.tup [(.int 1), (.int 1)]), (.tup [(.int 1), (.int 2)])]), (.tup [(.tup [(.int 1), (.int 1)]), (.tup [(.int 1), (.int 1)])])], .lst [(.tup [(.tup [(.int 1), (.int 1)]), (.tup [(.int 1), (.int 2)])]), (.tup [(.tup [(.int 1), (.int 1)]), (.tup [(.int 1), (.int 1)])])], .lst [(.tup [(.tup [(.int 1), (.int 1)]), (.tup [(.int 1), (.int 2)])]), (.tup [(.tup [(.int 9), (.int 1)]), (.tup [(.int 1), (.int 1)])]), (.tup [(.tup [(.int 1), (.int 1)]), (.tup [(.int 1), (.int 2)])]), (.tup [(.tup [(.int 1), (.int 1)]), (.tup [(.int 1), (.int 1)])])], .lst [], .lst [], .lst [], .lst [], .lst [], .lst [], .lst [(.tup [(.tup [(.int 9), (.int 1)]), (.tup [(.int 1), (.int 1)])])], .lst [(.tup [(.tup [(.int 9), (.int 1)]), (.tup [(.int 1), (.int 1)])])], .lst [(.tup [(.tup [(.int 1), (.int 2)]), (.tup [(.tup [(.tup [(.int 9), (.int 1)]), (.tup [(.int 1), (.int 1)])])])])], .lst [(.tup [(.tup [(.int 9), (.int 2)]), (.tup [(.int 1), (.int 2)])])], .lst [(.tup [(.tup [(.int 9), (.int 2)]), (.tup [(.int 1), (.int 2)])])], .lst [(.tup [(.tup [(.int 9), (.int 2)]), (.tup [(.int 1), (.int 2)])])], .lst [], .lst [], .lst [], .lst [(.tup [(.tup [(.int 11), (.int 2)]), (.tup [(.int 1), (.int 1)])])], .lst [(.tup [(.tup [(.int 11), (.int 2)]), (.tup [(.int 1), (.int 1)])])], .lst [], .lst [], .lst [], .lst [], .lst [], .lst [], .lst [(.tup [(.tup [(.int 1), (.int 1)]), (.tup [(.int 1), (.int 1)])])], .lst [(.tup [(.tup [(.int 1), (.int 1)]), (.tup [(.int 1), (.int 1)])])], .lst [(.tup [(.tup [(.int 1), (.int 2)]), (.tup [(.tup [(.tup [(.int 1), (.int 1)]), (.tup [(.int 1), (.int 1)])])])])], .lst [(.tup [(.tup [(.int 1), (.int 2)]), (.tup [(.int 1), (.int 2)])])], .lst [(.tup [(.tup [(.int 1), (.int 2)]), (.tup [(.int 1), (.int 2)])])], .lst [(.tup [(.tup [(.int 1), (.int 2)]), (.tup [(.int 1), (.int 2)])])], .lst [(.tup [(.tup [(.int 1), (.int 2)]), (.tup [(.int 1), (.int 2)])])], .lst [], .lst [(.tup [(.tup [(.int 1), (.int 1)]), (.tup [(.int 1), (.int 2)])]), (.tup [(.tup [(.int 1), (.int 2)]), (.tup [(.int 1), (.int 2)])])], .lst [(.tup [(.tup [(.int 1), (.int 1)]), (.tup [(.int 1), (.int 2)])]), (.tup [(.tup [(.int 1), (.int 2)]), (.tup [(.int 1), (.int 2)])])], .lst [(.tup [(.tup [(.tup [(.int 11), (.int 2)]), (.tup [(.int 1), (.int 1)])])]), (.tup [(.tup [(.tup [(.int 1), (.int 1)]), (.tup [(.int 1), (.int 2)])]), (.tup [(.tup [(.int 1), (.int 2)]), (.tup [(.int 1), (.int 2)])])])], .lst [], .lst [], .lst [(.ref 193), (.ref 194)], .lst [(.tup [(.int 0), (.int 1)]), (.tup [(.int 0), (.int 1)])], .lst [(.tup [(.tup [(.int 11), (.int 2)]), (.tup [(.int 1), (.int 1)])]), (.tup [(.tup [(.int 0), (.int 1)]), (.tup [(.int 0), (.int 1)])]), (.tup [(.tup [(.int 0), (.int 1)]), (.tup [(.int 0), (.int 1)])])], .lst [], .lst [], .lst [], .lst [], .lst [], .lst [], .lst [], .lst [], .lst [(.tup [(.tup [(.int 11), (.int 2)]), (.tup [(.int 1), (.int 1)])])], .lst [(.bl true)], .lst [(.tup [(.str "step"), (.tup [(.int 1), (.int 1)]), (.tup [])])], .lst [], .lst [], .lst [(.bl true)], .lst [(.tup [(.str "step"), (.tup [(.int 1), (.int 1)]), (.tup [])])], .lst [], .lst [], .lst [(.bl true), (.bl true)], .lst [(.bl true)], .lst [(.tup [(.str "step"), (.tup [(.int 1), (.int 1)]), (.tup [])])], .lst [], .lst [], .lst [(.bl true)], .lst [(.tup [(.str "step"), (.tup [(.int 1), (.int 1)]), (.tup [])])], .lst [], .lst [], .lst [(.tup [(.str "step"), (.tup [(.int 1), (.int 1)]), (.tup [(.tup [(.tup [(.int 1), (.int 2)]), (.tup [(.str "step"), (.tup [(.int 1), (.int 1)]), (.tup [])])])])]), (.tup [(.str "step"), (.tup [(.int 1), (.int 1)]), (.tup [])])], .lst [(.tup [(.str "step"), (.tup [(.int 1), (.int 1)]), (.tup [])])], .lst [(.tup [(.str "step"), (.tup [(.int 1), (.int 1)]), (.tup [])])], .lst [], .lst [(.tup [(.tup [(.int 1), (.int 1)]), (.tup [(.int 1), (.int 2)])]), (.tup [(.tup [(.int 1), (.int 1)]), (.tup [(.int 1), (.int 1)])])], .lst [(.tup [(.tup [(.int 1), (.int 1)]), (.tup [(.int 1), (.int 2)])]), (.tup [(.tup [(.int 1), (.int 1)]), (.tup [(.int 1), (.int 1)])])], .lst [(.tup [(.str "step"), (.tup [(.int 1), (.int 1)]), (.tup [(.tup [(.tup [(.int 1), (.int 2)]), (.tup [(.str "step"), (.tup [(.int 1), (.int 1)]), (.tup [])])])])]), (.tup [(.str "step"), (.tup [(.int 1), (.int 1)]), (.tup [])])], .lst [(.tup [(.str "step"), (.tup [(.int 1), (.int 1)]), (.tup [])])], .lst [(.tup [(.str "step"), (.tup [(.int 1), (.int 1)]), (.tup [])])], .lst [], .lst [(.tup [(.tup [(.int 1), (.int 1)]), (.tup [(.int 1), (.int 2)])]), (.tup [(.tup [(.int 1), (.int 1)]), (.tup [(.int 1), (.int 1)])])], .lst [(.tup [(.tup [(.int 1), (.int 1)]), (.tup [(.int 1), (.int 2)])]), (.tup [(.tup [(.int 1), (.int 1)]), (.tup [(.int 1), (.int 1)])])], .lst [(.tup [(.tup [(.int 1), (.int 1)]), (.tup [(.int 1), (.int 2)])]), (.tup [(.tup [(.int 1), (.int 1)]), (.tup [(.int 1), (.int 1)])]), (.tup [(.tup [(.int 1), (.int 1)]), (.tup [(.int 1), (.int 2)])]), (.tup [(.tup [(.int 1), (.int 1)]), (.tup [(.int 1), (.int 1)])])], .lst [], .lst [], .lst [], .lst [], .lst [], .lst [], .lst [(.tup [(.tup [(.int 1), (.int 1)]), (.tup [(.int 1), (.int 1)])])], .lst [(.tup [(.tup [(.int 1), (.int 1)]), (.tup [(.int 1), (.int 1)])])], .lst [(.tup [(.tup [(.int 1), (.int 2)]), (.tup [(.tup [(.tup [(.int 1), (.int 1)]), (.tup [(.int 1), (.int 1)])])])])], .lst [(.tup [(.tup [(.int 1), (.int 2)]), (.tup [(.int 1), (.int 2)])])], .lst [(.tup [(.tup [(.int 1), (.int 2)]), (.tup [(.int 1), (.int 2)])])], .lst [(.tup [(.tup [(.int 1), (.int 2)]), (.tup [(.int 1), (.int 2)])])], .lst [(.tup [(.tup [(.int 1), (.int 2)]), (.tup [(.int 1), (.int 2)])])], .lst [], .lst [(.tup [(.tup [(.int 1), (.int 1)]), (.tup [(.int 1), (.int 2)])]), (.tup [(.tup [(.int 1), (.int 2)]), (.tup [(.int 1), (.int 2)])])], .lst [(.tup [(.tup [(.int 1), (.int 1)]), (.tup [(.int 1), (.int 2)])]), (.tup [(.tup [(.int 1), (.int 2)]), (.tup [(.int 1), (.int 2)])])], .lst [], .lst [], .lst [], .lst [], .lst [], .lst [], .lst [(.tup [(.tup [(.int 1), (.int 1)]), (.tup [(.int 1), (.int 1)])])], .lst [(.tup [(.tup [(.int 1), (.int 1)]), (.tup [(.int 1), (.int 1)])])], .lst [(.tup [(.tup [(.int 1), (.int 2)]), (.tup [(.tup [(.tup [(.int 1), (.int 1)]), (.tup [(.int 1), (.int 1)])])])])], .lst [(.tup [(.tup [(.int 1), (.int 2)]), (.tup [(.int 1), (.int 2)])])], .lst [(.tup [(.tup [(.int 1), (.int 2)]), (.tup [(.int 1), (.int 2)])])], .lst [(.tup [(.tup [(.int 1), (.int 2)]), (.tup [(.int 1), (.int 2)])])], .lst [(.tup [(.tup [(.int 1), (.int 2)]), (.tup [(.int 1), (.int 2)])])], .lst [], .lst [(.tup [(.tup [(.int 1), (.int 1)]), (.tup [(.int 1), (.int 2)])]), (.tup [(.tup [(.int 1), (.int 2)]), (.tup [(.int 1), (.int 2)])])], .lst [(.tup [(.tup [(.int 1), (.int 1)]), (.tup [(.int 1), (.int 2)])]), (.tup [(.tup [(.int 1), (.int 2)]), (.tup [(.int 1), (.int 2)])])], .lst [(.tup [(.tup [(.tup [(.int 1), (.int 1)]), (.tup [(.int 1), (.int 2)])]), (.tup [(.tup [(.int 1), (.int 2)]), (.tup [(.int 1), (.int 2)])])]), (.tup [(.tup [(.tup [(.int 1), (.int 1)]), (.tup [(.int 1), (.int 2)])]), (.tup [(.tup [(.int 1), (.int 2)]), (.tup [(.int 1), (.int 2)])])])], .lst [], .lst [], .lst [(.ref 270), (.ref 271)], .lst [(.tup [(.int 0), (.int 1)]), (.tup [(.int 0), (.int 1)])], .lst [(.tup [(.tup [(.int 1), (.int 1)]), (.tup [(.int 1), (.int 2)])]), (.tup [(.tup [(.int 1), (.int 2)]), (.tup [(.int 1), (.int 4)])]), (.tup [(.tup [(.int 1), (.int 4)]), (.tup [(.int 1), (.int 4)])]), (.tup [(.tup [(.int 0), (.int 1)]), (.tup [(.int 0), (.int 1)])])], .lst [], .lst [], .lst [], .lst [], .lst [], .lst [], .lst [], .lst [], .lst [], .lst [], .lst [(.tup [(.tup [(.int 3), (.int 2)]), (.tup [(.int 3), (.int 4)])]), (.tup [(.tup [(.int 1), (.int 4)]), (.tup [(.int 1), (.int 4)])])]]
def H_5 : Hh := C_0 ++ (C_1 ++ (C_2 ++ (C_3 ++ (C_4))))
abbrev E_5 (ns : List Int) : En := [some (.scr ns), some (.tup [(.str "step"), (.tup [(.int 1), (.int 1)]), (.tup [(.tup [(.tup [(.int 1), (.int 2)]), (.tup [(.str "step"), (.tup [(.int 9), (.int 1)]), (.tup [])])])])]), some (.tup [(.str "step"), (.tup [(.int 1), (.int 1)]), (.tup [(.tup [(.tup [(.int 1), (.int 2)]), (.tup [(.str "step"), (.tup [(.int 1), (.int 1)]), (.tup [])])])])]), none, none, none, none, none, none, none]
theorem s_4 (ns : List Int) : exec (callF fs 39) S_4 (E_4 ns) H_4 = .nx (E_5 ns) H_5 := by kernel_rfl
def C_5 : Hh := []
def H_6 : Hh := C_0 ++ (C_1 ++ (C_2 ++ (C_3 ++ (C_4 ++ (C_5)))))
abbrev E_6 (ns : List Int) : En := [some (.scr ns), some (.tup [(.str "step"), (.tup [(.int 1), (.int 1)]), (.tup [(.tup [(.tup [(.int 1), (.int 2)]), (.tup [(.str "step"), (.tup [(.int 9), (.int 1)]), (.tup [])])])])]), some (.tup [(.str "step"), (.tup [(.int 1), (.int 1)]), (.tup [(.tup [(.tup [(.int 1), (.int 2)]), (.tup [(.str "step"), (.tup [(.int 1), (.int 1)]), (.tup [])])])])]), some (.tup [(.str "step"), (.tup [(.int 2), (.int 1)]), (.tup [(.tup [(.tup [(.int 1), (.int 2)]), (.tup [(.str "step"), (.tup [(.int 4), (.int 1)]), (.tup [])])])])]), none, none, none, none, none, none]
theorem s_5 (ns : List Int) : exec (callF fs 39) S_5 (E_5 ns) H_5 = .nx (E_6 ns) H_6 := by kernel_rfl
def C_6 : Hh := [.lst [(.bl true)], .lst [(.tup [(.str "step"), (.tup [(.int 4), (.int 1)]), (.tup [])])], .lst [], .lst [], .lst [(.tup [(.str "step"), (.tup [(.int 2), (.int 1)]), (.tup [(.tup [(.tup [(.int 1), (.int 2)]), (.tup [(.str "step"), (.tup [(.int 4), (.int 1)]), (.tup [])])])])]), (.tup [(.str "step"), (.tup [(.int 4), (.int 1)]), (.tup [])])], .lst [(.tup [(.str "step"), (.tup [(.int 4), (.int 1)]), (.tup [])])], .lst [(.tup [(.str "step"), (.tup [(.int 4), (.int 1)]), (.tup [])])], .lst [], .lst [(.tup [(.tup [(.int 2), (.int 1)]), (.tup [(.int 1), (.int 2)])]), (.tup [(.tup [(.int 4), (.int 1)]), (.tup [(.int 1), (.int 1)])])], .lst [(.tup [(.tup [(.int 2), (.int 1)]), (.tup [(.int 1), (.int 2)])]), (.tup [(.tup [(.int 4), (.int 1)]), (.tup [(.int 1), (.int 1)])])], .lst [(.tup [(.str "step"), (.tup [(.int 2), (.int 1)]), (.tup [(.tup [(.tup [(.int 1), (.int 2)]), (.tup [(.str "step"), (.tup [(.int 4), (.int 1)]), (.tup [])])])])]), (.tup [(.str "step"), (.tup [(.int 4), (.int 1)]), (.tup [])])], .lst [(.tup [(.str "step"), (.tup [(.int 4), (.int 1)]), (.tup [])])], .lst [(.tup [(.str "step"), (.tup [(.int 4), (.int 1)]), (.tup [])])], .lst [], .lst [], .lst [], .lst [], .lst [], .lst [], .lst [], .lst [(.tup [(.tup [(.int 4), (.int 1)]), (.tup [(.int 1), (.int 1)])])], .lst [(.tup [(.tup [(.int 4), (.int 1)]), (.tup [(.int 1), (.int 1)])])], .lst [(.tup [(.tup [(.int 1), (.int 2)]), (.tup [(.tup [(.tup [(.int 4), (.int 1)]), (.tup [(.int 1), (.int 1)])])])])], .lst [(.tup [(.tup [(.int 2), (.int 1)]), (.tup [(.int 1), (.int 2)])])], .lst [(.tup [(.tup [(.int 2), (.int 1)]), (.tup [(.int 1), (.int 2)])])], .lst [(.tup [(.tup [(.int 2), (.int 1)]), (.tup [(.int 1), (.int 2)])])], .lst [(.tup [(.tup [(.int 2), (.int 1)]), (.tup [(.int 1), (.int 2)])])], .lst [], .lst [(.tup [(.tup [(.int 2), (.int 1)]), (.tup [(.int 1), (.int 2)])]), (.tup [(.tup [(.int 2), (.int 1)]), (.tup [(.int 1), (.int 2)])])], .lst [(.tup [(.tup [(.int 4), (.int 1)]), (.tup [(.int 1), (.int 1)])])], .lst [], .lst [], .lst [], .lst [], .lst [], .lst [], .lst [(.tup [(.tup [(.int 4), (.int 1)]), (.tup [(.int 1), (.int 1)])])], .lst [(.tup [(.tup [(.int 4), (.int 1)]), (.tup [(.int 1), (.int 1)])])], .lst [(.tup [(.tup [(.int 4), (.int 1)]), (.tup [(.int 1), (.int 1)])]), (.tup [(.tup [(.int 4), (.int 1)]), (.tup [(.int 1), (.int 1)])])], .lst [(.tup [(.tup [(.int 4), (.int 1)]), (.tup [(.int 1), (.int 1)])])], .lst [(.tup [(.tup [(.int 4), (.int 1)]), (.tup [(.int 1), (.int 1)])]), (.tup [(.tup [(.int 4), (.int 1)]), (.tup [(.int 1), (.int 1)])])], .lst [(.bl true)], .lst [(.tup [(.str "step"), (.tup [(.int 4), (.int 1)]), (.tup [])])], .lst [], .lst [], .lst [(.tup [(.str "step"), (.tup [(.int 2), (.int 1)]), (.tup [(.tup [(.tup [(.int 1), (.int 2)]), (.tup [(.str "step"), (.tup [(.int 4), (.int 1)]), (.tup [])])])])]), (.tup [(.str "step"), (.tup [(.int 4), (.int 1)]), (.tup [])])], .lst [(.tup [(.str "step"), (.tup [(.int 4), (.int 1)]), (.tup [])])], .lst [(.tup [(.str "step"), (.tup [(.int 4), (.int 1)]), (.tup [])])], .lst [], .lst [(.tup [(.tup [(.int 2), (.int 1)]), (.tup [(.int 1), (.int 2)])]), (.tup [(.tup [(.int 4), (.int 1)]), (.tup [(.int 1), (.int 1)])])], .lst [(.tup [(.tup [(.int 2), (.int 1)]), (.tup [(.int 1), (.int 2)])]), (.tup [(.tup [(.int 4), (.int 1)]), (.tup [(.int 1), (.int 1)])])], .lst [], .lst [], .lst [], .lst [], .lst [], .lst [], .lst [(.tup [(.tup [(.int 4), (.int 1)]), (.tup [(.int 1), (.int 1)])])], .lst [(.tup [(.tup [(.int 4), (.int 1)]), (.tup [(.int 1), (.int 1)])])], .lst [(.tup [(.tup [(.int 1), (.int 2)]), (.tup [(.tup [(.tup [(.int 4), (.int 1)]), (.tup [(.int 1), (.int 1)])])])])], .lst [(.tup [(.tup [(.int 2), (.int 1)]), (.tup [(.int 1), (.int 2)])])], .lst [(.tup [(.tup [(.int 2), (.int 1)]), (.tup [(.int 1), (.int 2)])])], .lst [(.tup [(.tup [(.int 2), (.int 1)]), (.tup [(.int 1), (.int 2)])])], .lst [(.tup [(.tup [(.int 2), (.int 1)]), (.tup [(.int 1), (.int 2)])])], .lst [], .lst [(.tup [(.tup [(.int 2), (.int 1)]), (.tup [(.int 1), (.int 2)])]), (.tup [(.tup [(.int 2), (.int 1)]), (.tup [(.int 1), (.int 2)])])], .lst [(.tup [(.tup [(.int 4), (.int 1)]), (.tup [(.int 1), (.int 1)])])]]
def H_7 : Hh := C_0 ++ (C_1 ++ (C_2 ++ (C_3 ++ (C_4 ++ (C_5 ++ (C_6))))))
abbrev E_7 (ns : List Int) : En := [some (.scr ns), some (.tup [(.str "step"), (.tup [(.int 1), (.int 1)]), (.tup [(.tup [(.tup [(.int 1), (.int 2)]), (.tup [(.str "step"), (.tup [(.int 9), (.int 1)]), (.tup [])])])])]), some (.tup [(.str "step"), (.tup [(.int 1), (.int 1)]), (.tup [(.tup [(.tup [(.int 1), (.int 2)]), (.tup [(.str "step"), (.tup [(.int 1), (.int 1)]), (.tup [])])])])]), some (.tup [(.str "step"), (.tup [(.int 2), (.int 1)]), (.tup [(.tup [(.tup [(.int 1), (.int 2)]), (.tup [(.str "step"), (.tup [(.int 4), (.int 1)]), (.tup [])])])])]), none, none, none, none, none, none]
theorem s_6 (ns : List Int) : exec (callF fs 39) S_6 (E_6 ns) H_6 = .nx (E_7 ns) H_7 := by kernel_rfl
def C_7 : Hh := []
def H_8 : Hh := C_0 ++ (C_1 ++ (C_2 ++ (C_3 ++ (C_4 ++ (C_5 ++ (C_6 ++ (C_7)))))))
abbrev E_8 (ns : List Int) : En := [some (.scr ns), some (.tup [(.str "step"), (.tup [(.int 1), (.int 1)]), (.tup [(.tup [(.tup [(.int 1), (.int 2)]), (.tup [(.str "step"), (.tup [(.int 9), (.int 1)]), (.tup [])])])])]), some (.tup [(.str "step"), (.tup [(.int 1), (.int 1)]), (.tup [(.tup [(.tup [(.int 1), (.int 2)]), (.tup [(.str "step"), (.tup [(.int 1), (.int 1)]), (.tup [])])])])]), some (.tup [(.str "step"), (.tup [(.int 2), (.int 1)]), (.tup [(.tup [(.tup [(.int 1), (.int 2)]), (.tup [(.str "step"), (.tup [(.int 4), (.int 1)]), (.tup [])])])])]), some (.tup [(.str "step"), (.tup [(.int 3), (.int 1)]), (.tup [(.tup [(.tup [(.int 2), (.int 1)]), (.tup [(.str "step"), (.tup [(.int 2), (.int 1)]), (.tup [])])])])]), none, none, none, none, none]
theorem s_7 (ns : List Int) : exec (callF fs 39) S_7 (E_7 ns) H_7 = .nx (E_8 ns) H_8 := by kernel_rfl
def C_8 : Hh := [.lst [(.bl true)], .lst [(.tup [(.str "step"), (.tup [(.int 2), (.int 1)]), (.tup [])])], .lst [], .lst [], .lst [(.tup [(.str "step"), (.tup [(.int 3), (.int 1)]), (.tup [(.tup [(.tup [(.int 2), (.int 1)]), (.tup [(.str "step"), (.tup [(.int 2), (.int 1)]), (.tup [])])])])]), (.tup [(.str "step"), (.tup [(.int 2), (.int 1)]), (.tup [])])], .lst [(.tup [(.str "step"), (.tup [(.int 2), (.int 1)]), (.tup [])])], .lst [(.tup [(.str "step"), (.tup [(.int 2), (.int 1)]), (.tup [])])], .lst [], .lst [(.tup [(.tup [(.int 3), (.int 1)]), (.tup [(.int (-1)), (.int 1)])]), (.tup [(.tup [(.int 2), (.int 1)]), (.tup [(.int 1), (.int 1)])])], .lst [(.tup [(.tup [(.int 3), (.int 1)]), (.tup [(.int (-1)), (.int 1)])]), (.tup [(.tup [(.int 2), (.int 1)]), (.tup [(.int 1), (.int 1)])])], .lst [], .lst [], .lst [], .lst [], .lst [], .lst [], .lst [(.tup [(.tup [(.int 2), (.int 1)]), (.tup [(.int 1), (.int 1)])])], .lst [(.tup [(.tup [(.int 2), (.int 1)]), (.tup [(.int 1), (.int 1)])])], .lst [(.tup [(.tup [(.int 2), (.int 1)]), (.tup [(.tup [(.tup [(.int 2), (.int 1)]), (.tup [(.int 1), (.int 1)])])])])], .lst [(.tup [(.tup [(.int 4), (.int 1)]), (.tup [(.int 2), (.int 1)])])], .lst [(.tup [(.tup [(.int 4), (.int 1)]), (.tup [(.int 2), (.int 1)])])], .lst [(.tup [(.tup [(.int 4), (.int 1)]), (.tup [(.int 2), (.int 1)])])], .lst [(.tup [(.tup [(.int 4), (.int 1)]), (.tup [(.int 2), (.int 1)])])], .lst [], .lst [(.tup [(.tup [(.int 3), (.int 1)]), (.tup [(.int (-1)), (.int 1)])]), (.tup [(.tup [(.int 4), (.int 1)]), (.tup [(.int 2), (.int 1)])])], .lst [(.tup [(.tup [(.int 3), (.int 1)]), (.tup [(.int (-1)), (.int 1)])]), (.tup [(.tup [(.int 4), (.int 1)]), (.tup [(.int 2), (.int 1)])])], .lst [(.bl true)], .lst [(.tup [(.str "step"), (.tup [(.int 2), (.int 1)]), (.tup [])])], .lst [], .lst [], .lst [(.tup [(.str "step"), (.tup [(.int 3), (.int 1)]), (.tup [(.tup [(.tup [(.int 2), (.int 1)]), (.tup [(.str "step"), (.tup [(.int 2), (.int 1)]), (.tup [])])])])]), (.tup [(.str "step"), (.tup [(.int 2), (.int 1)]), (.tup [])])], .lst [(.tup [(.str "step"), (.tup [(.int 2), (.int 1)]), (.tup [])])], .lst [(.tup [(.str "step"), (.tup [(.int 2), (.int 1)]), (.tup [])])], .lst [], .lst [(.tup [(.tup [(.int 3), (.int 1)]), (.tup [(.int (-1)), (.int 1)])]), (.tup [(.tup [(.int 2), (.int 1)]), (.tup [(.int 1), (.int 1)])])], .lst [(.tup [(.tup [(.int 3), (.int 1)]), (.tup [(.int (-1)), (.int 1)])]), (.tup [(.tup [(.int 2), (.int 1)]), (.tup [(.int 1), (.int 1)])])], .lst [], .lst [], .lst [], .lst [], .lst [], .lst [], .lst [(.tup [(.tup [(.int 2), (.int 1)]), (.tup [(.int 1), (.int 1)])])], .lst [(.tup [(.tup [(.int 2), (.int 1)]), (.tup [(.int 1), (.int 1)])])], .lst [(.tup [(.tup [(.int 2), (.int 1)]), (.tup [(.tup [(.tup [(.int 2), (.int 1)]), (.tup [(.int 1), (.int 1)])])])])], .lst [(.tup [(.tup [(.int 4), (.int 1)]), (.tup [(.int 2), (.int 1)])])], .lst [(.tup [(.tup [(.int 4), (.int 1)]), (.tup [(.int 2), (.int 1)])])], .lst [(.tup [(.tup [(.int 4), (.int 1)]), (.tup [(.int 2), (.int 1)])])], .lst [(.tup [(.tup [(.int 4), (.int 1)]), (.tup [(.int 2), (.int 1)])])], .lst [], .lst [(.tup [(.tup [(.int 3), (.int 1)]), (.tup [(.int (-1)), (.int 1)])]), (.tup [(.tup [(.int 4), (.int 1)]), (.tup [(.int 2), (.int 1)])])], .lst [(.tup [(.tup [(.int 3), (.int 1)]), (.tup [(.int (-1)), (.int 1)])]), (.tup [(.tup [(.int 4), (.int 1)]), (.tup [(.int 2), (.int 1)])])], .lst [(.bl true), (.bl true)], .lst [(.bl true)], .lst [(.tup [(.int 2), (.int 1)]), (.tup [(.int 0), (.int 1)])], .lst [(.int 1), (.int 0)], .lst [(.int 1)], .lst [(.bl true)], .lst [(.bl true), (.bl true)], .lst [(.tup [(.int 2), (.int 1)]), (.tup [(.int 0), (.int 1)])], .lst [(.tup [(.int 1), (.int 1)]), (.tup [(.int 2), (.int 1)]), (.tup [(.int 0), (.int 1)])]]
def H_9 : Hh := C_0 ++ (C_1 ++ (C_2 ++ (C_3 ++ (C_4 ++ (C_5 ++ (C_6 ++ (C_7 ++ (C_8))))))))
abbrev E_9 (ns : List Int) : En := [some (.scr ns), some (.tup [(.str "step"), (.tup [(.int 1), (.int 1)]), (.tup [(.tup [(.tup [(.int 1), (.int 2)]), (.tup [(.str "step"), (.tup [(.int 9), (.int 1)]), (.tup [])])])])]), some (.tup [(.str "step"), (.tup [(.int 1), (.int 1)]), (.tup [(.tup [(.tup [(.int 1), (.int 2)]), (.tup [(.str "step"), (.tup [(.int 1), (.int 1)]), (.tup [])])])])]), some (.tup [(.str "step"), (.tup [(.int 2), (.int 1)]), (.tup [(.tup [(.tup [(.int 1), (.int 2)]), (.tup [(.str "step"), (.tup [(.int 4), (.int 1)]), (.tup [])])])])]), some (.tup [(.str "step"), (.tup [(.int 3), (.int 1)]), (.tup [(.tup [(.tup [(.int 2), (.int 1)]), (.tup [(.str "step"), (.tup [(.int 2), (.int 1)]), (.tup [])])])])]), none, none, none, none, none]
theorem s_8 (ns : List Int) : exec (callF fs 39) S_8 (E_8 ns) H_8 = .nx (E_9 ns) H_9 := by kernel_rfl
def C_9 : Hh := [.lst [(.bl true)], .lst [(.tup [(.str "step"), (.tup [(.int 2), (.int 1)]), (.tup [])])], .lst [], .lst [], .lst [(.tup [(.str "step"), (.tup [(.int 3), (.int 1)]), (.tup [(.tup [(.tup [(.int 2), (.int 1)]), (.tup [(.str "step"), (.tup [(.int 2), (.int 1)]), (.tup [])])])])]), (.tup [(.str "step"), (.tup [(.int 2), (.int 1)]), (.tup [])])], .lst [(.tup [(.str "step"), (.tup [(.int 2), (.int 1)]), (.tup [])])], .lst [(.tup [(.str "step"), (.tup [(.int 2), (.int 1)]), (.tup [])])], .lst [], .lst [(.tup [(.tup [(.int 3), (.int 1)]), (.tup [(.int (-1)), (.int 1)])]), (.tup [(.tup [(.int 2), (.int 1)]), (.tup [(.int 1), (.int 1)])])], .lst [(.tup [(.tup [(.int 3), (.int 1)]), (.tup [(.int (-1)), (.int 1)])]), (.tup [(.tup [(.int 2), (.int 1)]), (.tup [(.int 1), (.int 1)])])], .lst [], .lst [], .lst [], .lst [], .lst [], .lst [], .lst [(.tup [(.tup [(.int 2), (.int 1)]), (.tup [(.int 1), (.int 1)])])], .lst [(.tup [(.tup [(.int 2), (.int 1)]), (.tup [(.int 1), (.int 1)])])], .lst [(.tup [(.tup [(.int 2), (.int 1)]), (.tup [(.tup [(.tup [(.int 2), (.int 1)]), (.tup [(.int 1), (.int 1)])])])])], .lst [(.tup [(.tup [(.int 4), (.int 1)]), (.tup [(.int 2), (.int 1)])])], .lst [(.tup [(.tup [(.int 4), (.int 1)]), (.tup [(.int 2), (.int 1)])])], .lst [(.tup [(.tup [(.int 4), (.int 1)]), (.tup [(.int 2), (.int 1)])])], .lst [(.tup [(.tup [(.int 4), (.int 1)]), (.tup [(.int 2), (.int 1)])])], .lst [], .lst [(.tup [(.tup [(.int 3), (.int 1)]), (.tup [(.int (-1)), (.int 1)])]), (.tup [(.tup [(.int 4), (.int 1)]), (.tup [(.int 2), (.int 1)])])], .lst [(.tup [(.tup [(.int 3), (.int 1)]), (.tup [(.int (-1)), (.int 1)])]), (.tup [(.tup [(.int 4), (.int 1)]), (.tup [(.int 2), (.int 1)])])], .lst [(.bl true)], .lst [(.tup [(.str "step"), (.tup [(.int 2), (.int 1)]), (.tup [])])], .lst [], .lst [], .lst [(.tup [(.str "step"), (.tup [(.int 3), (.int 1)]), (.tup [(.tup [(.tup [(.int 2), (.int 1)]), (.tup [(.str "step"), (.tup [(.int 2), (.int 1)]), (.tup [])])])])]), (.tup [(.str "step"), (.tup [(.int 2), (.int 1)]), (.tup [])])], .lst [(.tup [(.str "step"), (.tup [(.int 2), (.int 1)]), (.tup [])])], .lst [(.tup [(.str "step"), (.tup [(.int 2), (.int 1)]), (.tup [])])], .lst [], .lst [(.tup [(.tup [(.int 3), (.int 1)]), (.tup [(.int (-1)), (.int 1)])]), (.tup [(.tup [(.int 2), (.int 1)]), (.tup [(.int 1), (.int 1)])])], .lst [(.tup [(.tup [(.int 3), (.int 1)]), (.tup [(.int (-1)), (.int 1)])]), (.tup [(.tup [(.int 2), (.int 1)]), (.tup [(.int 1), (.int 1)])])], .lst [], .lst [], .lst [], .lst [], .lst [], .lst [], .lst [(.tup [(.tup [(.int 2), (.int 1)]), (.tup [(.int 1), (.int 1)])])], .lst [(.tup [(.tup [(.int 2), (.int 1)]), (.tup [(.int 1), (.int 1)])])], .lst [(.tup [(.tup [(.int 2), (.int 1)]), (.tup [(.tup [(.tup [(.int 2), (.int 1)]), (.tup [(.int 1), (.int 1)])])])])], .lst [(.tup [(.tup [(.int 4), (.int 1)]), (.tup [(.int 2), (.int 1)])])], .lst [(.tup [(.tup [(.int 4), (.int 1)]), (.tup [(.int 2), (.int 1)])])], .lst [(.tup [(.tup [(.int 4), (.int 1)]), (.tup [(.int 2), (.int 1)])])], .lst [(.tup [(.tup [(.int 4), (.int 1)]), (.tup [(.int 2), (.int 1)])])], .lst [], .lst [(.tup [(.tup [(.int 3), (.int 1)]), (.tup [(.int (-1)), (.int 1)])]), (.tup [(.tup [(.int 4), (.int 1)]), (.tup [(.int 2), (.int 1)])])], .lst [(.tup [(.tup [(.int 3), (.int 1)]), (.tup [(.int (-1)), (.int 1)])]), (.tup [(.tup [(.int 4), (.int 1)]), (.tup [(.int 2), (.int 1)])])], .lst [(.tup [(.tup [(.tup [(.int 3), (.int 1)]), (.tup [(.int (-1)), (.int 1)])]), (.tup [(.tup [(.int 4), (.int 1)]), (.tup [(.int 2), (.int 1)])])]), (.tup [(.tup [(.tup [(.int 3), (.int 1)]), (.tup [(.int (-1)), (.int 1)])]), (.tup [(.tup [(.int 4), (.int 1)]), (.tup [(.int 2), (.int 1)])])])], .lst [(.bl true), (.bl true)], .lst [(.bl true)], .lst [(.tup [(.int 2), (.int 1)]), (.tup [(.int 0), (.int 1)])], .lst [(.int 1), (.int 0)], .lst [(.int 1)], .lst [(.bl true)], .lst [(.bl true), (.bl true)], .lst [(.bl true), (.bl true)], .lst [(.bl true)], .lst [(.tup [(.int 2), (.int 1)]), (.tup [(.int 0), (.int 1)])], .lst [(.int 1), (.int 0)], .lst [(.int 1)], .lst [(.bl true)], .lst [(.bl true), (.bl true)], .lst [(.tup [(.tup [(.int 3), (.int 1)]), (.tup [(.int (-1)), (.int 1)])]), (.tup [(.tup [(.int 4), (.int 1)]), (.tup [(.int 2), (.int 1)])]), (.tup [(.tup [(.int 3), (.int 1)]), (.tup [(.int (-1)), (.int 1)])]), (.tup [(.tup [(.int 4), (.int 1)]), (.tup [(.int 2), (.int 1)])])], .lst [], .lst [], .lst [(.ref 482), (.ref 483)], .lst [(.tup [(.int 0), (.int 1)]), (.tup [(.int 0), (.int 1)])], .lst [(.tup [(.tup [(.int 3), (.int 1)]), (.tup [(.int (-1)), (.int 1)])]), (.tup [(.tup [(.int 6), (.int 1)]), (.tup [(.int (-2)), (.int 1)])]), (.tup [(.tup [(.int 8), (.int 1)]), (.tup [(.int 4), (.int 1)])]), (.tup [(.tup [(.int 0), (.int 1)]), (.tup [(.int 0), (.int 1)])])], .lst [], .lst [], .lst [], .lst [], .lst [], .lst [], .lst [], .lst [], .lst [], .lst [], .lst [(.tup [(.tup [(.int 9), (.int 1)]), (.tup [(.int (-3)), (.int 1)])]), (.tup [(.tup [(.int 8), (.int 1)]), (.tup [(.int 4), (.int 1)])])]]
def H_10 : Hh := C_0 ++ (C_1 ++ (C_2 ++ (C_3 ++ (C_4 ++ (C_5 ++ (C_6 ++ (C_7 ++ (C_8 ++ (C_9)))))))))
abbrev E_10 (ns : List Int) : En := [some (.scr ns), some (.tup [(.str "step"), (.tup [(.int 1), (.int 1)]), (.tup [(.tup [(.tup [(.int 1), (.int 2)]), (.tup [(.str "step"), (.tup [(.int 9), (.int 1)]), (.tup [])])])])]), some (.tup [(.str "step"), (.tup [(.int 1), (.int 1)]), (.tup [(.tup [(.tup [(.int 1), (.int 2)]), (.tup [(.str "step"), (.tup [(.int 1), (.int 1)]), (.tup [])])])])]), some (.tup [(.str "step"), (.tup [(.int 2), (.int 1)]), (.tup [(.tup [(.tup [(.int 1), (.int 2)]), (.tup [(.str "step"), (.tup [(.int 4), (.int 1)]), (.tup [])])])])]), some (.tup [(.str "step"), (.tup [(.int 3), (.int 1)]), (.tup [(.tup [(.tup [(.int 2), (.int 1)]), (.tup [(.str "step"), (.tup [(.int 2), (.int 1)]), (.tup [])])])])]), none, none, none, none, none]
theorem s_9 (ns : List Int) : exec (callF fs 39) S_9 (E_9 ns) H_9 = .nx (E_10 ns) H_10 := by kernel_rfl
def C_10 : Hh := []
def H_11 : Hh := C_0 ++ (C_1 ++ (C_2 ++ (C_3 ++ (C_4 ++ (C_5 ++ (C_6 ++ (C_7 ++ (C_8 ++ (C_9 ++ (C_10))))))))))
abbrev E_11 (ns : List Int) : En := [some (.scr ns), some (.tup [(.str "step"), (.tup [(.int 1), (.int 1)]), (.tup [(.tup [(.tup [(.int 1), (.int 2)]), (.tup [(.str "step"), (.tup [(.int 9), (.int 1)]), (.tup [])])])])]), some (.tup [(.str "step"), (.tup [(.int 1), (.int 1)]), (.tup [(.tup [(.tup [(.int 1), (.int 2)]), (.tup [(.str "step"), (.tup [(.int 1), (.int 1)]), (.tup [])])])])]), some (.tup [(.str "step"), (.tup [(.int 2), (.int 1)]), (.tup [(.tup [(.tup [(.int 1), (.int 2)]), (.tup [(.str "step"), (.tup [(.int 4), (.int 1)]), (.tup [])])])])]), some (.tup [(.str "step"), (.tup [(.int 3), (.int 1)]), (.tup [(.tup [(.tup [(.int 2), (.int 1)]), (.tup [(.str "step"), (.tup [(.int 2), (.int 1)]), (.tup [])])])])]), some (.tup [(.str "step"), (.tup [(.int 0), (.int 1)]), (.tup [(.tup [(.tup [(.int 1), (.int 2)]), (.tup [(.str "step"), (.tup [(.int 1), (.int 1)]), (.tup [(.tup [(.tup [(.int 1), (.int 2)]), (.tup [(.str "step"), (.tup [(.int 9), (.int 1)]), (.tup [])])])])])]), (.tup [(.tup [(.int 1), (.int 2)]), (.tup [(.str "step"), (.tup [(.int 1), (.int 1)]), (.tup [(.tup [(.tup [(.int 1), (.int 2)]), (.tup [(.str "step"), (.tup [(.int 1), (.int 1)]), (.tup [])])])])])])])]), none, none, none, none]
theorem s_10 (ns : List Int) : exec (callF fs 39) S_10 (E_10 ns) H_10 = .nx (E_11 ns) H_11 := by kernel_rfl
def C_11 : Hh := [.lst [(.bl true), (.bl true)], .lst [(.tup [(.str "step"), (.tup [(.int 1), (.int 1)]), (.tup [(.tup [(.tup [(.int 1), (.int 2)]), (.tup [(.str "step"), (.tup [(.int 9), (.int 1)]), (.tup [])])])])]), (.tup [(.str "step"), (.tup [(.int 1), (.int 1)]), (.tup [(.tup [(.tup [(.int 1), (.int 2)]), (.tup [(.str "step"), (.tup [(.int 1), (.int 1)]), (.tup [])])])])])], .lst [(.bl true)], .lst [(.tup [(.str "step"), (.tup [(.int 9), (.int 1)]), (.tup [])])], .lst [], .lst [], .lst [(.bl true)], .lst [(.tup [(.str "step"), (.tup [(.int 1), (.int 1)]), (.tup [])])], .lst [], .lst [], .lst [(.tup [(.str "step"), (.tup [(.int 0), (.int 1)]), (.tup [(.tup [(.tup [(.int 1), (.int 2)]), (.tup [(.str "step"), (.tup [(.int 1), (.int 1)]), (.tup [(.tup [(.tup [(.int 1), (.int 2)]), (.tup [(.str "step"), (.tup [(.int 9), (.int 1)]), (.tup [])])])])])]), (.tup [(.tup [(.int 1), (.int 2)]), (.tup [(.str "step"), (.tup [(.int 1), (.int 1)]), (.tup [(.tup [(.tup [(.int 1), (.int 2)]), (.tup [(.str "step"), (.tup [(.int 1), (.int 1)]), (.tup [])])])])])])])]), (.tup [(.str "step"), (.tup [(.int 1), (.int 1)]), (.tup [(.tup [(.tup [(.int 1), (.int 2)]), (.tup [(.str "step"), (.tup [(.int 9), (.int 1)]), (.tup [])])])])]), (.tup [(.str "step"), (.tup [(.int 9), (.int 1)]), (.tup [])]), (.tup [(.str "step"), (.tup [(.int 1), (.int 1)]), (.tup [(.tup [(.tup [(.int 1), (.int 2)]), (.tup [(.str "step"), (.tup [(.int 1), (.int 1)]), (.tup [])])])])]), (.tup [(.str "step"), (.tup [(.int 1), (.int 1)]), (.tup [])])], .lst [(.tup [(.str "step"), (.tup [(.int 1), (.int 1)]), (.tup [(.tup [(.tup [(.int 1), (.int 2)]), (.tup [(.str "step"), (.tup [(.int 9), (.int 1)]), (.tup [])])])])]), (.tup [(.str "step"), (.tup [(.int 1), (.int 1)]), (.tup [(.tup [(.tup [(.int 1), (.int 2)]), (.tup [(.str "step"), (.tup [(.int 1), (.int 1)]), (.tup [])])])])])], .lst [(.tup [(.str "step"), (.tup [(.int 1), (.int 1)]), (.tup [(.tup [(.tup [(.int 1), (.int 2)]), (.tup [(.str "step"), (.tup [(.int 9), (.int 1)]), (.tup [])])])])]), (.tup [(.str "step"), (.tup [(.int 9), (.int 1)]), (.tup [])])], .lst [(.tup [(.str "step"), (.tup [(.int 9), (.int 1)]), (.tup [])])], .lst [(.tup [(.str "step"), (.tup [(.int 9), (.int 1)]), (.tup [])])], .lst [], .lst [(.tup [(.str "step"), (.tup [(.int 1), (.int 1)]), (.tup [(.tup [(.tup [(.int 1), (.int 2)]), (.tup [(.str "step"), (.tup [(.int 1), (.int 1)]), (.tup [])])])])]), (.tup [(.str "step"), (.tup [(.int 1), (.int 1)]), (.tup [])])], .lst [(.tup [(.str "step"), (.tup [(.int 1), (.int 1)]), (.tup [])])], .lst [(.tup [(.str "step"), (.tup [(.int 1), (.int 1)]), (.tup [])])], .lst [], .lst [(.tup [(.tup [(.int 0), (.int 1)]), (.tup [(.int 0), (.int 1)])]), (.tup [(.tup [(.int 1), (.int 1)]), (.tup [(.int 1), (.int 2)])]), (.tup [(.tup [(.int 9), (.int 1)]), (.tup [(.int 1), (.int 1)])]), (.tup [(.tup [(.int 1), (.int 1)]), (.tup [(.int 1), (.int 2)])]), (.tup [(.tup [(.int 1), (.int 1)]), (.tup [(.int 1), (.int 1)])])], .lst [(.tup [(.tup [(.int 1), (.int 1)]), (.tup [(.int 1), (.int 2)])]), (.tup [(.tup [(.int 9), (.int 1)]), (.tup [(.int 1), (.int 1)])]), (.tup [(.tup [(.int 1), (.int 1)]), (.tup [(.int 1), (.int 2)])]), (.tup [(.tup [(.int 1), (.int 1)]), (.tup [(.int 1), (.int 1)])])], .lst [], .lst [], .lst [], .lst [], .lst [], .lst [], .lst [(.tup [(.tup [(.int 9), (.int 1)]), (.tup [(.int 1), (.int 1)])])], .lst [(.tup [(.tup [(.int 9), (.int 1)]), (.tup [(.int 1), (.int 1)])])], .lst [(.tup [(.tup [(.int 1), (.int 2)]), (.tup [(.tup [(.tup [(.int 9), (.int 1)]), (.tup [(.int 1), (.int 1)])])])])], .lst [(.tup [(.tup [(.int 9), (.int 2)]), (.tup [(.int 1), (.int 2)])])], .lst [(.tup [(.tup [(.int 9), (.int 2)]), (.tup [(.int 1), (.int 2)])])], .lst [(.tup [(.tup [(.int 9), (.int 2)]), (.tup [(.int 1), (.int 2)])])], .lst [], .lst [], .lst [], .lst [(.tup [(.tup [(.int 11), (.int 2)]), (.tup [(.int 1), (.int 1)])])], .lst [(.tup [(.tup [(.int 11), (.int 2)]), (.tup [(.int 1), (.int 1)])])], .lst [], .lst [], .lst [], .lst [], .lst [], .lst [], .lst [(.tup [(.tup [(.int 1), (.int 1)]), (.tup [(.int 1), (.int 1)])])], .lst [(.tup [(.tup [(.int 1), (.int 1)]), (.tup [(.int 1), (.int 1)])])], .lst [(.tup [(.tup [(.int 1), (.int 2)]), (.tup [(.tup [(.tup [(.int 1), (.int 1)]), (.tup [(.int 1), (.int 1)])])])])], .lst [(.tup [(.tup [(.int 1), (.int 2)]), (.tup [(.int 1), (.int 2)])])], .lst [(.tup [(.tup [(.int 1), (.int 2)]), (.tup [(.int 1), (.int 2)])])], .lst [(.tup [(.tup [(.int 1), (.int 2)]), (.tup [(.int 1), (.int 2)])])], .lst [(.tup [(.tup [(.int 1), (.int 2)]), (.tup [(.int 1), (.int 2)])])], .lst [], .lst [(.tup [(.tup [(.int 1), (.int 1)]), (.tup [(.int 1), (.int 2)])]), (.tup [(.tup [(.int 1), (.int 2)]), (.tup [(.int 1), (.int 2)])])], .lst [(.tup [(.tup [(.int 1), (.int 1)]), (.tup [(.int 1), (.int 2)])]), (.tup [(.tup [(.int 1), (.int 2)]), (.tup [(.int 1), (.int 2)])])], .lst [(.tup [(.tup [(.int 1), (.int 2)]), (.tup [(.tup [(.tup [(.int 11), (.int 2)]), (.tup [(.int 1), (.int 1)])])])]), (.tup [(.tup [(.int 1), (.int 2)]), (.tup [(.tup [(.tup [(.int 1), (.int 1)]), (.tup [(.int 1), (.int 2)])]), (.tup [(.tup [(.int 1), (.int 2)]), (.tup [(.int 1), (.int 2)])])])])], .lst [(.tup [(.tup [(.int 11), (.int 4)]), (.tup [(.int 1), (.int 2)])]), (.tup [(.tup [(.int 1), (.int 2)]), (.tup [(.int 1), (.int 4)])]), (.tup [(.tup [(.int 1), (.int 4)]), (.tup [(.int 1), (.int 4)])])], .lst [(.tup [(.tup [(.int 11), (.int 4)]), (.tup [(.int 1), (.int 2)])]), (.tup [(.tup [(.int 1), (.int 2)]), (.tup [(.int 1), (.int 4)])]), (.tup [(.tup [(.int 1), (.int 4)]), (.tup [(.int 1), (.int 4)])])], .lst [(.tup [(.tup [(.int 11), (.int 4)]), (.tup [(.int 1), (.int 2)])]), (.tup [(.tup [(.int 1), (.int 2)]), (.tup [(.int 1), (.int 4)])]), (.tup [(.tup [(.int 1), (.int 4)]), (.tup [(.int 1), (.int 4)])])], .lst [(.tup [(.tup [(.int 11), (.int 4)]), (.tup [(.int 1), (.int 2)])]), (.tup [(.tup [(.int 1), (.int 2)]), (.tup [(.int 1), (.int 4)])]), (.tup [(.tup [(.int 1), (.int 4)]), (.tup [(.int 1), (.int 4)])])], .lst [(.bl true), (.bl true)], .lst [(.tup [(.str "step"), (.tup [(.int 1), (.int 1)]), (.tup [(.tup [(.tup [(.int 1), (.int 2)]), (.tup [(.str "step"), (.tup [(.int 9), (.int 1)]), (.tup [])])])])]), (.tup [(.str "step"), (.tup [(.int 1), (.int 1)]), (.tup [(.tup [(.tup [(.int 1), (.int 2)]), (.tup [(.str "step"), (.tup [(.int 1), (.int 1)]), (.tup [])])])])])], .lst [(.bl true)], .lst [(.tup [(.str "step"), (.tup [(.int 9), (.int 1)]), (.tup [])])], .lst [], .lst [], .lst [(.bl true)], .lst [(.tup [(.str "step"), (.tup [(.int 1), (.int 1)]), (.tup [])])], .lst [], .lst [], .lst [(.tup [(.str "step"), (.tup [(.int 0), (.int 1)]), (.tup [(.tup [(.tup [(.int 1), (.int 2)]), (.tup [(.str "step"), (.tup [(.int 1), (.int 1)]), (.tup [(.tup [(.tup [(.int 1), (.int 2)]), (.tup [(.str "step"), (.tup [(.int 9), (.int 1)]), (.tup [])])])])])]), (.tup [(.tup [(.int 1), (.int 2)]), (.tup [(.str "step"), (.tup [(.int 1), (.int 1)]), (.tup [(.tup [(.tup [(.int 1), (.int 2)]), (.tup [(.str "step"), (.tup [(.int 1), (.int 1)]), (.tup [])])])])])])])]), (.tup [(.str "step"), (.tup [(.int 1), (.int 1)]), (.tup [(.tup [(.tup [(.int 1), (.int 2)]), (.tup [(.str "step"), (.tup [(.int 9), (.int 1)]), (.tup [])])])])]), (.tup [(.str "step"), (.tup [(.int 9), (.int 1)]), (.tup [])]), (.tup [(.str "step"), (.tup [(.int 1), (.int 1)]), (.tup [(.tup [(.tup [(.int 1), (.int 2)]), (.tup [(.str "step"), (.tup [(.int 1), (.int 1)]), (.tup [])])])])]), (.tup [(.str "step"), (.tup [(.int 1), (.int 1)]), (.tup [])])], .lst [(.tup [(.str "step"), (.tup [(.int 1), (.int 1)]), (.tup [(.tup [(.tup [(.int 1), (.int 2)]), (.tup [(.str "step"), (.tup [(.int 9), (.int 1)]), (.tup [])])])])]), (.tup [(.str "step"), (.tup [(.int 1), (.int 1)]), (.tup [(.tup [(.tup [(.int 1), (.int 2)]), (.tup [(.str "step"), (.tup [(.int 1), (.int 1)]), (.tup [])])])])])], .lst [(.tup [(.str "step"), (.tup [(.int 1), (.int 1)]), (.tup [(.tup [(.tup [(.int 1), (.int 2)]), (.tup [(.str "step"), (.tup [(.int 9), (.int 1)]), (.tup [])])])])]), (.tup [(.str "step"), (.tup [(.int 9), (.int 1)]), (.tup [])])], .lst [(.tup [(.str "step"), (.tup [(.int 9), (.int 1)]), (.tup [])])], .lst [(.tup [(.str "step"), (.tup [(.int 9), (.int 1)]), (.tup [])])], .lst [], .lst [(.tup [(.str "step"), (.tup [(.int 1), (.int 1)]), (.tup [(.tup [(.tup [(.int 1), (.int 2)]), (.tup [(.str "step"), (.tup [(.int 1), (.int 1)]), (.tup [])])])])]), (.tup [(.str "step"), (.tup [(.int 1), (.int 1)]), (.tup [])])], .lst [(.tup [(.str "step"), (.tup [(.int 1), (.int 1)]), (.tup [])])], .lst [(.tup [(.str "step"), (.tup [(.int 1), (.int 1)]), (.tup [])])], .lst [], .lst [(.tup [(.tup [(.int 0), (.int 1)]), (.tup [(.int 0), (.int 1)])]), (.tup [(.tup [(.int 1), (.int 1)]), (.tup [(.int 1), (.int 2)])]), (.tup [(.tup [(.int 9), (.int 1)]), (.tup [(.int 1), (.int 1)])]), (.tup [(.tup [(.int 1), (.int 1)]), (.tup [(.int 1), (.int 2)])]), (.tup [(.tup [(.int 1), (.int 1)]), (.tup [(.int 1), (.int 1)])])], .lst [(.tup [(.tup [(.int 1), (.int 1)]), (.tup [(.int 1), (.int 2)])]), (.tup [(.tup [(.int 9), (.int 1)]), (.tup [(.int 1), (.int 1)])]), (.tup [(.tup [(.int 1), (.int 1)]), (.tup [(.int 1), (.int 2)])]), (.tup [(.tup [(.int 1), (.int 1)]), (.tup [(.int 1), (.int 1)])])], .lst [(.tup [(.str "step"), (.tup [(.int 0), (.int 1)]), (.tup [(.tup [(.tup [(.int 1), (.int 2)]), (.tup [(.str "step"), (.tup [(.int 1), (.int 1)]), (.tup [(.tup [(.tup [(.int 1), (.int 2)]), (.tup [(.str "step"), (.tup [(.int 9), (.int 1)]), (.tup [])])])])])]), (.tup [(.tup [(.int 1), (.int 2)]), (.tup [(.str "step"), (.tup [(.int 1), (.int 1)]), (.tup [(.tup [(.tup [(.int 1), (.int 2)]), (.tup [(.str "step"), (.tup [(.int 1), (.int 1)]), (.tup [])])])])])])])]), (.tup [(.str "step"), (.tup [(.int 1), (.int 1)]), (.tup [(.tup [(.tup [(.int 1), (.int 2)]), (.tup [(.str "step"), (.tup [(.int 9), (.int 1)]), (.tup [])])])])]), (.tup [(.str "step"), (.tup [(.int 9), (.int 1)]), (.tup [])]), (.tup [(.str "step"), (.tup [(.int 1), (.int 1)]), (.tup [(.tup [(.tup [(.int 1), (.int 2)]), (.tup [(.str "step"), (.tup [(.int 1), (.int 1)]), (.tup [])])])])]), (.tup [(.str "step"), (.tup [(.int 1), (.int 1)]), (.tup [])])], .lst [(.tup [(.str "step"), (.tup [(.int 1), (.int 1)]), (.tup [(.tup [(.tup [(.int 1), (.int 2)]), (.tup [(.str "step"), (.tup [(.int 9), (.int 1)]), (.tup [])])])])]), (.tup [(.str "step"), (.tup [(.int 1), (.int 1)]), (.tup [(.tup [(.tup [(.int 1), (.int 2)]), (.tup [(.str "step"), (.tup [(.int 1), (.int 1)]), (.tup [])])])])])], .lst [(.tup [(.str "step"), (.tup [(.int 1), (.int 1)]), (.tup [(.tup [(.tup [(.int 1), (.int 2)]), (.tup [(.str "step"), (.tup [(.int 9), (.int 1)]), (.tup [])])])])]), (.tup [(.str "step"), (.tup [(.int 9), (.int 1)]), (.tup [])])], .lst [(.tup [(.str "step"), (.tup [(.int 9), (.int 1)]), (.tup [])])], .lst [(.tup [(.str "step"), (.tup [(.int 9), (.int 1)]), (.tup [])])], .lst [], .lst [(.tup [(.str "step"), (.tup [(.int 1), (.int 1)]), (.tup [(.tup [(.tup [(.int 1), (.int 2)]), (.tup [(.str "step"), (.tup [(.int 1), (.int 1)]), (.tup [])])])])]), (.tup [(.str "step"), (.tup [(.int 1), (.int 1)]), (.tup [])])], .lst [(.tup [(.str "step"), (.tup [(.int 1), (.int 1)]), (.tup [])])], .lst [(.tup [(.str "step"), (.tup [(.int 1), (.int 1)]), (.tup [])])], .lst [], .lst [], .lst [], .lst [], .lst [], .lst [], .lst [], .lst [(.tup [(.tup [(.int 9), (.int 1)]), (.tup [(.int 1), (.int 1)])])], .lst [(.tup [(.tup [(.int 9), (.int 1)]), (.tup [(.int 1), (.int 1)])])], .lst [(.tup [(.tup [(.int 1), (.int 2)]), (.tup [(.tup [(.tup [(.int 9), (.int 1)]), (.tup [(.int 1), (.int 1)])])])])], .lst [(.tup [(.tup [(.int 9), (.int 2)]), (.tup [(.int 1), (.int 2)])])], .lst [(.tup [(.tup [(.int 9), (.int 2)]), (.tup [(.int 1), (.int 2)])])], .lst [(.tup [(.tup [(.int 9), (.int 2)]), (.tup [(.int 1), (.int 2)])])], .lst [], .lst [], .lst [], .lst [(.tup [(.tup [(.int 11), (.int 2)]), (.tup [(.int 1), (.int 1)])])], .lst [(.tup [(.tup [(.int 11), (.int 2)]), (.tup [(.int 1), (.int 1)])])], .lst [], .lst [], .lst [], .lst [], .lst [], .lst [], .lst [(.tup [(.tup [(.int 9), (.int 1)]), (.tup [(.int 1), (.int 1)])])], .lst [(.tup [(.tup [(.int 9), (.int 1)]), (.tup [(.int 1), (.int 1)])])], .lst [], .lst [], .lst [], .lst [], .lst [], .lst [], .lst [(.tup [(.tup [(.int 1), (.int 1)]), (.tup [(.int 1), (.int 1)])])], .lst [(.tup [(.tup [(.int 1), (.int 1)]), (.tup [(.int 1), (.int 1)])])], .lst [(.tup [(.tup [(.int 1), (.int 2)]), (.tup [(.tup [(.tup [(.int 1), (.int 1)]), (.tup [(.int 1), (.int 1)])])])])], .lst [(.tup [(.tup [(.int 1), (.int 2)]), (.tup [(.int 1), (.int 2)])])], .lst [(.tup [(.tup [(.int 1), (.int 2)]), (.tup [(.int 1), (.int 2)])])], .lst [(.tup [(.tup [(.int 1), (.int 2)]), (.tup [(.int 1), (.int 2)])])], .lst [(.tup [(.tup [(.int 1), (.int 2)]), (.tup [(.int 1), (.int 2)])])], .lst [], .lst [(.tup [(.tup [(.int 1), (.int 1)]), (.tup [(.int 1), (.int 2)])]), (.tup [(.tup [(.int 1), (.int 2)]), (.tup [(.int 1), (.int 2)])])], .lst [(.tup [(.tup [(.int 1), (.int 1)]), (.tup [(.int 1), (.int 2)])]), (.tup [(.tup [(.int 1), (.int 2)]), (.tup [(.int 1), (.int 2)])])], .lst [], .lst [], .lst [], .lst [], .lst [], .lst [], .lst [(.tup [(.tup [(.int 1), (.int 1)]), (.tup [(.int 1), (.int 1)])])], .lst [(.tup [(.tup [(.int 1), (.int 1)]), (.tup [(.int 1), (.int 1)])])], .lst [(.str "toss"), (.tup [(.tup [(.int 11), (.int 2)]), (.tup [(.int 1), (.int 1)])]), (.tup [(.tup [(.int 9), (.int 1)]), (.tup [(.int 1), (.int 1)])]), (.tup [(.tup [(.int 1), (.int 1)]), (.tup [(.int 1), (.int 2)])]), (.tup [(.tup [(.int 1), (.int 1)]), (.tup [(.int 1), (.int 1)])])]]
def H_12 : Hh := C_0 ++ (C_1 ++ (C_2 ++ (C_3 ++ (C_4 ++ (C_5 ++ (C_6 ++ (C_7 ++ (C_8 ++ (C_9 ++ (C_10 ++ (C_11)))))))))))
abbrev E_12 (ns : List Int) : En := [some (.scr ns), some (.tup [(.str "step"), (.tup [(.int 1), (.int 1)]), (.tup [(.tup [(.tup [(.int 1), (.int 2)]), (.tup [(.str "step"), (.tup [(.int 9), (.int 1)]), (.tup [])])])])]), some (.tup [(.str "step"), (.tup [(.int 1), (.int 1)]), (.tup [(.tup [(.tup [(.int 1), (.int 2)]), (.tup [(.str "step"), (.tup [(.int 1), (.int 1)]), (.tup [])])])])]), some (.tup [(.str "step"), (.tup [(.int 2), (.int 1)]), (.tup [(.tup [(.tup [(.int 1), (.int 2)]), (.tup [(.str "step"), (.tup [(.int 4), (.int 1)]), (.tup [])])])])]), some (.tup [(.str "step"), (.tup [(.int 3), (.int 1)]), (.tup [(.tup [(.tup [(.int 2), (.int 1)]), (.tup [(.str "step"), (.tup [(.int 2), (.int 1)]), (.tup [])])])])]), some (.tup [(.str "step"), (.tup [(.int 0), (.int 1)]), (.tup [(.tup [(.tup [(.int 1), (.int 2)]), (.tup [(.str "step"), (.tup [(.int 1), (.int 1)]), (.tup [(.tup [(.tup [(.int 1), (.int 2)]), (.tup [(.str "step"), (.tup [(.int 9), (.int 1)]), (.tup [])])])])])]), (.tup [(.tup [(.int 1), (.int 2)]), (.tup [(.str "step"), (.tup [(.int 1), (.int 1)]), (.tup [(.tup [(.tup [(.int 1), (.int 2)]), (.tup [(.str "step"), (.tup [(.int 1), (.int 1)]), (.tup [])])])])])])])]), none, none, none, none]
theorem s_11 (ns : List Int) : exec (callF fs 39) S_11 (E_11 ns) H_11 = .nx (E_12 ns) H_12 := by kernel_rfl
def C_12 : Hh := []
def H_13 : Hh := C_0 ++ (C_1 ++ (C_2 ++ (C_3 ++ (C_4 ++ (C_5 ++ (C_6 ++ (C_7 ++ (C_8 ++ (C_9 ++ (C_10 ++ (C_11 ++ (C_12))))))))))))
abbrev E_13 (ns : List Int) : En := [some (.scr ns), some (.tup [(.str "step"), (.tup [(.int 1), (.int 1)]), (.tup [(.tup [(.tup [(.int 1), (.int 2)]), (.tup [(.str "step"), (.tup [(.int 9), (.int 1)]), (.tup [])])])])]), some (.tup [(.str "step"), (.tup [(.int 1), (.int 1)]), (.tup [(.tup [(.tup [(.int 1), (.int 2)]), (.tup [(.str "step"), (.tup [(.int 1), (.int 1)]), (.tup [])])])])]), some (.tup [(.tup [(.int 1), (.int 1)]), (.tup [(.int 1), (.int 2)])]), some (.tup [(.str "step"), (.tup [(.int 3), (.int 1)]), (.tup [(.tup [(.tup [(.int 2), (.int 1)]), (.tup [(.str "step"), (.tup [(.int 2), (.int 1)]), (.tup [])])])])]), some (.tup [(.str "step"), (.tup [(.int 0), (.int 1)]), (.tup [(.tup [(.tup [(.int 1), (.int 2)]), (.tup [(.str "step"), (.tup [(.int 1), (.int 1)]), (.tup [(.tup [(.tup [(.int 1), (.int 2)]), (.tup [(.str "step"), (.tup [(.int 9), (.int 1)]), (.tup [])])])])])]), (.tup [(.tup [(.int 1), (.int 2)]), (.tup [(.str "step"), (.tup [(.int 1), (.int 1)]), (.tup [(.tup [(.tup [(.int 1), (.int 2)]), (.tup [(.str "step"), (.tup [(.int 1), (.int 1)]), (.tup [])])])])])])])]), some (.tup [(.tup [(.int (-1)), (.int 1)]), (.tup [(.int (-1)), (.int 1)])]), some (.tup [(.tup [(.int (-1)), (.int 10)]), (.tup [(.int 1), (.int 2)])]), none, none]
theorem s_12 (ns : List Int) : exec (callF fs 39) S_12 (E_12 ns) H_12 = .nx (E_13 ns) H_13 := by kernel_rfl
def C_13 : Hh := [.lst [(.tup [(.tup [(.int (-1)), (.int 1)]), (.tup [(.int (-1)), (.int 1)])]), (.tup [(.tup [(.int 1), (.int 1)]), (.tup [(.int 1), (.int 2)])]), (.tup [(.tup [(.int (-1)), (.int 10)]), (.tup [(.int 1), (.int 2)])])], .lst [(.bl true), (.bl true), (.bl true)], .lst [(.tup [(.tup [(.int (-1)), (.int 1)]), (.tup [(.int (-1)), (.int 1)])]), (.tup [(.tup [(.int 1), (.int 1)]), (.tup [(.int 1), (.int 2)])]), (.tup [(.tup [(.int (-1)), (.int 10)]), (.tup [(.int 1), (.int 2)])])], .lst [(.tup [(.tup [(.int (-1)), (.int 1)]), (.tup [(.int (-1)), (.int 1)])]), (.tup [(.tup [(.int 1), (.int 1)]), (.tup [(.int 1), (.int 2)])]), (.tup [(.tup [(.int (-1)), (.int 10)]), (.tup [(.int 1), (.int 2)])])], .lst [(.bl true), (.bl true), (.bl true)], .lst [(.tup [(.tup [(.int (-1)), (.int 1)]), (.tup [(.int (-1)), (.int 1)])]), (.tup [(.tup [(.int 1), (.int 1)]), (.tup [(.int 1), (.int 2)])]), (.tup [(.tup [(.int (-1)), (.int 10)]), (.tup [(.int 1), (.int 2)])])], .lst [(.tup [(.int 11), (.int 20)]), (.tup [(.int 3), (.int 5)]), (.tup [(.int 1), (.int 2)])], .lst [(.int 1), (.int 1), (.int 1)], .lst [(.int 1), (.int 1), (.int 1)], .lst [(.int (-1)), (.int (-1)), (.int (-1))], .lst [(.tup [(.int 0), (.tup [(.int 11), (.int 20)])]), (.tup [(.int 1), (.tup [(.int 3), (.int 5)])]), (.tup [(.int 2), (.tup [(.int 1), (.int 2)])])], .lst [(.bl true), (.bl true), (.bl true)], .lst [(.bl true), (.bl true), (.bl true)], .lst [(.bl true), (.bl true)]]
def H_14 : Hh := C_0 ++ (C_1 ++ (C_2 ++ (C_3 ++ (C_4 ++ (C_5 ++ (C_6 ++ (C_7 ++ (C_8 ++ (C_9 ++ (C_10 ++ (C_11 ++ (C_12 ++ (C_13)))))))))))))
abbrev E_14 (ns : List Int) : En := [some (.scr ns), some (.tup [(.str "step"), (.tup [(.int 1), (.int 1)]), (.tup [(.tup [(.tup [(.int 1), (.int 2)]), (.tup [(.str "step"), (.tup [(.int 9), (.int 1)]), (.tup [])])])])]), some (.tup [(.str "step"), (.tup [(.int 1), (.int 1)]), (.tup [(.tup [(.tup [(.int 1), (.int 2)]), (.tup [(.str "step"), (.tup [(.int 1), (.int 1)]), (.tup [])])])])]), some (.tup [(.tup [(.int 1), (.int 1)]), (.tup [(.int 1), (.int 2)])]), some (.tup [(.str "step"), (.tup [(.int 3), (.int 1)]), (.tup [(.tup [(.tup [(.int 2), (.int 1)]), (.tup [(.str "step"), (.tup [(.int 2), (.int 1)]), (.tup [])])])])]), some (.tup [(.str "step"), (.tup [(.int 0), (.int 1)]), (.tup [(.tup [(.tup [(.int 1), (.int 2)]), (.tup [(.str "step"), (.tup [(.int 1), (.int 1)]), (.tup [(.tup [(.tup [(.int 1), (.int 2)]), (.tup [(.str "step"), (.tup [(.int 9), (.int 1)]), (.tup [])])])])])]), (.tup [(.tup [(.int 1), (.int 2)]), (.tup [(.str "step"), (.tup [(.int 1), (.int 1)]), (.tup [(.tup [(.tup [(.int 1), (.int 2)]), (.tup [(.str "step"), (.tup [(.int 1), (.int 1)]), (.tup [])])])])])])])]), some (.tup [(.tup [(.int (-1)), (.int 1)]), (.tup [(.int (-1)), (.int 1)])]), some (.tup [(.tup [(.int (-1)), (.int 10)]), (.tup [(.int 1), (.int 2)])]), none, none]
theorem s_13 (ns : List Int) : exec (callF fs 39) S_13 (E_13 ns) H_13 = .nx (E_14 ns) H_14 := by kernel_rfl
def C_14 : Hh := [.lst [(.tup [(.tup [(.int (-1)), (.int 1)]), (.tup [(.int (-1)), (.int 1)])]), (.tup [(.tup [(.int (-1)), (.int 10)]), (.tup [(.int 1), (.int 2)])])], .lst [(.bl true), (.bl true)], .lst [(.tup [(.tup [(.int 1), (.int 1)]), (.tup [(.int 1), (.int 2)])]), (.tup [(.tup [(.int (-1)), (.int 10)]), (.tup [(.int 1), (.int 2)])])], .lst [(.bl true), (.bl true)], .lst [(.tup [(.tup [(.int (-1)), (.int 1)]), (.tup [(.int (-1)), (.int 1)])]), (.tup [(.tup [(.int 1), (.int 1)]), (.tup [(.int 1), (.int 2)])])], .lst [(.bl true), (.bl true)]]
def H_15 : Hh := C_0 ++ (C_1 ++ (C_2 ++ (C_3 ++ (C_4 ++ (C_5 ++ (C_6 ++ (C_7 ++ (C_8 ++ (C_9 ++ (C_10 ++ (C_11 ++ (C_12 ++ (C_13 ++ (C_14))))))))))))))
abbrev E_15 (ns : List Int) : En := [some (.scr ns), some (.tup [(.str "step"), (.tup [(.int 1), (.int 1)]), (.tup [(.tup [(.tup [(.int 1), (.int 2)]), (.tup [(.str "step"), (.tup [(.int 9), (.int 1)]), (.tup [])])])])]), some (.tup [(.str "step"), (.tup [(.int 1), (.int 1)]), (.tup [(.tup [(.tup [(.int 1), (.int 2)]), (.tup [(.str "step"), (.tup [(.int 1), (.int 1)]), (.tup [])])])])]), some (.tup [(.tup [(.int 1), (.int 1)]), (.tup [(.int 1), (.int 2)])]), some (.tup [(.str "step"), (.tup [(.int 3), (.int 1)]), (.tup [(.tup [(.tup [(.int 2), (.int 1)]), (.tup [(.str "step"), (.tup [(.int 2), (.int 1)]), (.tup [])])])])]), some (.tup [(.str "step"), (.tup [(.int 0), (.int 1)]), (.tup [(.tup [(.tup [(.int 1), (.int 2)]), (.tup [(.str "step"), (.tup [(.int 1), (.int 1)]), (.tup [(.tup [(.tup [(.int 1), (.int 2)]), (.tup [(.str "step"), (.tup [(.int 9), (.int 1)]), (.tup [])])])])])]), (.tup [(.tup [(.int 1), (.int 2)]), (.tup [(.str "step"), (.tup [(.int 1), (.int 1)]), (.tup [(.tup [(.tup [(.int 1), (.int 2)]), (.tup [(.str "step"), (.tup [(.int 1), (.int 1)]), (.tup [])])])])])])])]), some (.tup [(.tup [(.int (-1)), (.int 1)]), (.tup [(.int (-1)), (.int 1)])]), some (.tup [(.tup [(.int (-1)), (.int 10)]), (.tup [(.int 1), (.int 2)])]), none, none]
theorem s_14 (ns : List Int) : exec (callF fs 39) S_14 (E_14 ns) H_14 = .nx (E_15 ns) H_15 := by kernel_rfl
def C_15 : Hh := []
def H_16 : Hh := C_0 ++ (C_1 ++ (C_2 ++ (C_3 ++ (C_4 ++ (C_5 ++ (C_6 ++ (C_7 ++ (C_8 ++ (C_9 ++ (C_10 ++ (C_11 ++ (C_12 ++ (C_13 ++ (C_14 ++ (C_15)))))))))))))))
abbrev E_16 (ns : List Int) : En := [some (.scr ns), some (.tup [(.str "step"), (.tup [(.int 1), (.int 1)]), (.tup [(.tup [(.tup [(.int 1), (.int 2)]), (.tup [(.str "step"), (.tup [(.int 9), (.int 1)]), (.tup [])])])])]), some (.tup [(.str "step"), (.tup [(.int 1), (.int 1)]), (.tup [(.tup [(.tup [(.int 1), (.int 2)]), (.tup [(.str "step"), (.tup [(.int 1), (.int 1)]), (.tup [])])])])]), some (.tup [(.tup [(.int 1), (.int 1)]), (.tup [(.int 1), (.int 2)])]), some (.tup [(.str "step"), (.tup [(.int 3), (.int 1)]), (.tup [(.tup [(.tup [(.int 2), (.int 1)]), (.tup [(.str "step"), (.tup [(.int 2), (.int 1)]), (.tup [])])])])]), some (.tup [(.str "step"), (.tup [(.int 0), (.int 1)]), (.tup [(.tup [(.tup [(.int 1), (.int 2)]), (.tup [(.str "step"), (.tup [(.int 1), (.int 1)]), (.tup [(.tup [(.tup [(.int 1), (.int 2)]), (.tup [(.str "step"), (.tup [(.int 9), (.int 1)]), (.tup [])])])])])]), (.tup [(.tup [(.int 1), (.int 2)]), (.tup [(.str "step"), (.tup [(.int 1), (.int 1)]), (.tup [(.tup [(.tup [(.int 1), (.int 2)]), (.tup [(.str "step"), (.tup [(.int 1), (.int 1)]), (.tup [])])])])])])])]), some (.tup [(.tup [(.int (-1)), (.int 1)]), (.tup [(.int (-1)), (.int 1)])]), some (.tup [(.tup [(.int (-1)), (.int 10)]), (.tup [(.int 1), (.int 2)])]), some (.tup [(.str "step"), (.tup [(.int (-1)), (.int 1)]), (.tup [(.tup [(.tup [(.int 2), (.int 1)]), (.tup [(.str "step"), (.tup [(.int (-3)), (.int 1)]), (.tup [(.tup [(.tup [(.int 1), (.int 4)]), (.tup [(.str "end")])])])])])])]), none]
theorem s_15 (ns : List Int) : exec (callF fs 39) S_15 (E_15 ns) H_15 = .nx (E_16 ns) H_16 := by kernel_rfl
def C_16 : Hh := [.lst [(.bl true)], .lst [(.tup [(.str "step"), (.tup [(.int (-3)), (.int 1)]), (.tup [(.tup [(.tup [(.int 1), (.int 4)]), (.tup [(.str "end")])])])])], .lst [(.bl true)], .lst [(.tup [(.str "end")])], .lst [(.tup [(.str "step"), (.tup [(.int (-1)), (.int 1)]), (.tup [(.tup [(.tup [(.int 2), (.int 1)]), (.tup [(.str "step"), (.tup [(.int (-3)), (.int 1)]), (.tup [(.tup [(.tup [(.int 1), (.int 4)]), (.tup [(.str "end")])])])])])])]), (.tup [(.str "step"), (.tup [(.int (-3)), (.int 1)]), (.tup [(.tup [(.tup [(.int 1), (.int 4)]), (.tup [(.str "end")])])])]), (.tup [(.str "end")])], .lst [(.tup [(.str "step"), (.tup [(.int (-3)), (.int 1)]), (.tup [(.tup [(.tup [(.int 1), (.int 4)]), (.tup [(.str "end")])])])])], .lst [(.tup [(.str "step"), (.tup [(.int (-3)), (.int 1)]), (.tup [(.tup [(.tup [(.int 1), (.int 4)]), (.tup [(.str "end")])])])]), (.tup [(.str "end")])], .lst [(.tup [(.str "end")])], .lst [(.tup [(.str "end")])], .lst [], .lst [(.tup [(.tup [(.int (-1)), (.int 1)]), (.tup [(.int (-1)), (.int 1)])]), (.tup [(.tup [(.int (-3)), (.int 1)]), (.tup [(.int 3), (.int 4)])])], .lst [(.tup [(.tup [(.int (-1)), (.int 1)]), (.tup [(.int (-1)), (.int 1)])]), (.tup [(.tup [(.int (-3)), (.int 1)]), (.tup [(.int 3), (.int 4)])])], .lst [(.tup [(.tup [(.int 1), (.int 4)]), (.tup [])])], .lst [], .lst [], .lst [], .lst [], .lst [], .lst [(.tup [(.tup [(.int (-3)), (.int 1)]), (.tup [(.int 3), (.int 4)])])], .lst [(.tup [(.tup [(.int (-3)), (.int 1)]), (.tup [(.int 3), (.int 4)])])], .lst [(.tup [(.tup [(.int 2), (.int 1)]), (.tup [(.tup [(.tup [(.int (-3)), (.int 1)]), (.tup [(.int 3), (.int 4)])])])])], .lst [(.tup [(.tup [(.int (-6)), (.int 1)]), (.tup [(.int 3), (.int 2)])])], .lst [(.tup [(.tup [(.int (-6)), (.int 1)]), (.tup [(.int 3), (.int 2)])])], .lst [(.tup [(.tup [(.int (-6)), (.int 1)]), (.tup [(.int 3), (.int 2)])])], .lst [], .lst [], .lst [], .lst [(.tup [(.tup [(.int (-7)), (.int 1)]), (.tup [(.int 1), (.int 2)])])], .lst [(.tup [(.tup [(.int (-7)), (.int 1)]), (.tup [(.int 1), (.int 2)])])], .lst [(.bl true)], .lst [(.tup [(.str "step"), (.tup [(.int (-3)), (.int 1)]), (.tup [(.tup [(.tup [(.int 1), (.int 4)]), (.tup [(.str "end")])])])])], .lst [(.bl true)], .lst [(.tup [(.str "end")])], .lst [(.tup [(.str "step"), (.tup [(.int (-1)), (.int 1)]), (.tup [(.tup [(.tup [(.int 2), (.int 1)]), (.tup [(.str "step"), (.tup [(.int (-3)), (.int 1)]), (.tup [(.tup [(.tup [(.int 1), (.int 4)]), (.tup [(.str "end")])])])])])])]), (.tup [(.str "step"), (.tup [(.int (-3)), (.int 1)]), (.tup [(.tup [(.tup [(.int 1), (.int 4)]), (.tup [(.str "end")])])])]), (.tup [(.str "end")])], .lst [(.tup [(.str "step"), (.tup [(.int (-3)), (.int 1)]), (.tup [(.tup [(.tup [(.int 1), (.int 4)]), (.tup [(.str "end")])])])])], .lst [(.tup [(.str "step"), (.tup [(.int (-3)), (.int 1)]), (.tup [(.tup [(.tup [(.int 1), (.int 4)]), (.tup [(.str "end")])])])]), (.tup [(.str "end")])], .lst [(.tup [(.str "end")])], .lst [(.tup [(.str "end")])], .lst [], .lst [(.tup [(.tup [(.int (-1)), (.int 1)]), (.tup [(.int (-1)), (.int 1)])]), (.tup [(.tup [(.int (-3)), (.int 1)]), (.tup [(.int 3), (.int 4)])])], .lst [(.tup [(.tup [(.int (-1)), (.int 1)]), (.tup [(.int (-1)), (.int 1)])]), (.tup [(.tup [(.int (-3)), (.int 1)]), (.tup [(.int 3), (.int 4)])])], .lst [(.tup [(.str "step"), (.tup [(.int (-1)), (.int 1)]), (.tup [(.tup [(.tup [(.int 2), (.int 1)]), (.tup [(.str "step"), (.tup [(.int (-3)), (.int 1)]), (.tup [(.tup [(.tup [(.int 1), (.int 4)]), (.tup [(.str "end")])])])])])])]), (.tup [(.str "step"), (.tup [(.int (-3)), (.int 1)]), (.tup [(.tup [(.tup [(.int 1), (.int 4)]), (.tup [(.str "end")])])])]), (.tup [(.str "end")])], .lst [(.tup [(.str "step"), (.tup [(.int (-3)), (.int 1)]), (.tup [(.tup [(.tup [(.int 1), (.int 4)]), (.tup [(.str "end")])])])])], .lst [(.tup [(.str "step"), (.tup [(.int (-3)), (.int 1)]), (.tup [(.tup [(.tup [(.int 1), (.int 4)]), (.tup [(.str "end")])])])]), (.tup [(.str "end")])], .lst [(.tup [(.str "end")])], .lst [(.tup [(.str "end")])], .lst [], .lst [(.tup [(.tup [(.int 1), (.int 4)]), (.tup [])])], .lst [], .lst [], .lst [], .lst [], .lst [], .lst [(.tup [(.tup [(.int (-3)), (.int 1)]), (.tup [(.int 3), (.int 4)])])], .lst [(.tup [(.tup [(.int (-3)), (.int 1)]), (.tup [(.int 3), (.int 4)])])], .lst [(.tup [(.tup [(.int 2), (.int 1)]), (.tup [(.tup [(.tup [(.int (-3)), (.int 1)]), (.tup [(.int 3), (.int 4)])])])])], .lst [(.tup [(.tup [(.int (-6)), (.int 1)]), (.tup [(.int 3), (.int 2)])])], .lst [(.tup [(.tup [(.int (-6)), (.int 1)]), (.tup [(.int 3), (.int 2)])])], .lst [(.tup [(.tup [(.int (-6)), (.int 1)]), (.tup [(.int 3), (.int 2)])])], .lst [], .lst [], .lst [], .lst [(.tup [(.tup [(.int (-7)), (.int 1)]), (.tup [(.int 1), (.int 2)])])], .lst [(.tup [(.tup [(.int (-7)), (.int 1)]), (.tup [(.int 1), (.int 2)])])], .lst [(.tup [(.tup [(.int 1), (.int 4)]), (.tup [])])], .lst [], .lst [], .lst [], .lst [], .lst [], .lst [(.tup [(.tup [(.int (-3)), (.int 1)]), (.tup [(.int 3), (.int 4)])])], .lst [(.tup [(.tup [(.int (-3)), (.int 1)]), (.tup [(.int 3), (.int 4)])])], .lst [(.tup [(.tup [(.int (-7)), (.int 1)]), (.tup [(.int 1), (.int 2)])]), (.tup [(.tup [(.int (-3)), (.int 1)]), (.tup [(.int 3), (.int 4)])])], .lst [(.tup [(.tup [(.int (-7)), (.int 1)]), (.tup [(.int 1), (.int 2)])]), (.tup [(.tup [(.int (-3)), (.int 1)]), (.tup [(.int 3), (.int 4)])])]]
def H_17 : Hh := C_0 ++ (C_1 ++ (C_2 ++ (C_3 ++ (C_4 ++ (C_5 ++ (C_6 ++ (C_7 ++ (C_8 ++ (C_9 ++ (C_10 ++ (C_11 ++ (C_12 ++ (C_13 ++ (C_14 ++ (C_15 ++ (C_16))))))))))))))))
abbrev E_17 (ns : List Int) : En := [some (.scr ns), some (.tup [(.str "step"), (.tup [(.int 1), (.int 1)]), (.tup [(.tup [(.tup [(.int 1), (.int 2)]), (.tup [(.str "step"), (.tup [(.int 9), (.int 1)]), (.tup [])])])])]), some (.tup [(.str "step"), (.tup [(.int 1), (.int 1)]), (.tup [(.tup [(.tup [(.int 1), (.int 2)]), (.tup [(.str "step"), (.tup [(.int 1), (.int 1)]), (.tup [])])])])]), some (.tup [(.tup [(.int 1), (.int 1)]), (.tup [(.int 1), (.int 2)])]), some (.tup [(.str "step"), (.tup [(.int 3), (.int 1)]), (.tup [(.tup [(.tup [(.int 2), (.int 1)]), (.tup [(.str "step"), (.tup [(.int 2), (.int 1)]), (.tup [])])])])]), some (.tup [(.str "step"), (.tup [(.int 0), (.int 1)]), (.tup [(.tup [(.tup [(.int 1), (.int 2)]), (.tup [(.str "step"), (.tup [(.int 1), (.int 1)]), (.tup [(.tup [(.tup [(.int 1), (.int 2)]), (.tup [(.str "step"), (.tup [(.int 9), (.int 1)]), (.tup [])])])])])]), (.tup [(.tup [(.int 1), (.int 2)]), (.tup [(.str "step"), (.tup [(.int 1), (.int 1)]), (.tup [(.tup [(.tup [(.int 1), (.int 2)]), (.tup [(.str "step"), (.tup [(.int 1), (.int 1)]), (.tup [])])])])])])])]), some (.tup [(.tup [(.int (-1)), (.int 1)]), (.tup [(.int (-1)), (.int 1)])]), some (.tup [(.tup [(.int (-1)), (.int 10)]), (.tup [(.int 1), (.int 2)])]), some (.tup [(.str "step"), (.tup [(.int (-1)), (.int 1)]), (.tup [(.tup [(.tup [(.int 2), (.int 1)]), (.tup [(.str "step"), (.tup [(.int (-3)), (.int 1)]), (.tup [(.tup [(.tup [(.int 1), (.int 4)]), (.tup [(.str "end")])])])])])])]), none]
theorem s_16 (ns : List Int) : exec (callF fs 39) S_16 (E_16 ns) H_16 = .nx (E_17 ns) H_17 := by kernel_rfl
def C_17 : Hh := []
def H_18 : Hh := C_0 ++ (C_1 ++ (C_2 ++ (C_3 ++ (C_4 ++ (C_5 ++ (C_6 ++ (C_7 ++ (C_8 ++ (C_9 ++ (C_10 ++ (C_11 ++ (C_12 ++ (C_13 ++ (C_14 ++ (C_15 ++ (C_16 ++ (C_17)))))))))))))))))
abbrev E_18 (ns : List Int) : En := [some (.scr ns), some (.tup [(.str "step"), (.tup [(.int 1), (.int 1)]), (.tup [(.tup [(.tup [(.int 1), (.int 2)]), (.tup [(.str "step"), (.tup [(.int 9), (.int 1)]), (.tup [])])])])]), some (.tup [(.str "step"), (.tup [(.int 1), (.int 1)]), (.tup [(.tup [(.tup [(.int 1), (.int 2)]), (.tup [(.str "step"), (.tup [(.int 1), (.int 1)]), (.tup [])])])])]), some (.tup [(.tup [(.int 1), (.int 1)]), (.tup [(.int 1), (.int 2)])]), some (.tup [(.str "step"), (.tup [(.int 3), (.int 1)]), (.tup [(.tup [(.tup [(.int 2), (.int 1)]), (.tup [(.str "step"), (.tup [(.int 2), (.int 1)]), (.tup [])])])])]), some (.tup [(.str "step"), (.tup [(.int 0), (.int 1)]), (.tup [(.tup [(.tup [(.int 1), (.int 2)]), (.tup [(.str "step"), (.tup [(.int 1), (.int 1)]), (.tup [(.tup [(.tup [(.int 1), (.int 2)]), (.tup [(.str "step"), (.tup [(.int 9), (.int 1)]), (.tup [])])])])])]), (.tup [(.tup [(.int 1), (.int 2)]), (.tup [(.str "step"), (.tup [(.int 1), (.int 1)]), (.tup [(.tup [(.tup [(.int 1), (.int 2)]), (.tup [(.str "step"), (.tup [(.int 1), (.int 1)]), (.tup [])])])])])])])]), some (.tup [(.tup [(.int (-1)), (.int 1)]), (.tup [(.int (-1)), (.int 1)])]), some (.tup [(.tup [(.int (-1)), (.int 10)]), (.tup [(.int 1), (.int 2)])]), some (.tup [(.str "step"), (.tup [(.int (-1)), (.int 1)]), (.tup [(.tup [(.tup [(.int 2), (.int 1)]), (.tup [(.str "step"), (.tup [(.int (-3)), (.int 1)]), (.tup [(.tup [(.tup [(.int 1), (.int 4)]), (.tup [(.str "end")])])])])])])]), some (.tup [(.str "all"), (.tup [(.tup [(.str "step"), (.tup [(.int (-1)), (.int 1)]), (.tup [(.tup [(.tup [(.int 2), (.int 1)]), (.tup [(.str "step"), (.tup [(.int (-3)), (.int 1)]), (.tup [(.tup [(.tup [(.int 1), (.int 4)]), (.tup [(.str "end")])])])])])])]), (.tup [(.str "step"), (.tup [(.int (-2)), (.int 1)]), (.tup [(.tup [(.tup [(.int 1), (.int 2)]), (.tup [(.str "end")])])])])])])]
theorem s_17 (ns : List Int) : exec (callF fs 39) S_17 (E_17 ns) H_17 = .nx (E_18 ns) H_18 := by kernel_rfl
def C_18 : Hh := [.lst [(.bl true)], .lst [(.tup [(.str "step"), (.tup [(.int (-3)), (.int 1)]), (.tup [(.tup [(.tup [(.int 1), (.int 4)]), (.tup [(.str "end")])])])])], .lst [(.bl true)], .lst [(.tup [(.str "end")])], .lst [(.bl true)], .lst [(.tup [(.str "end")])], .lst [(.tup [(.str "all"), (.tup [(.tup [(.str "step"), (.tup [(.int (-1)), (.int 1)]), (.tup [(.tup [(.tup [(.int 2), (.int 1)]), (.tup [(.str "step"), (.tup [(.int (-3)), (.int 1)]), (.tup [(.tup [(.tup [(.int 1), (.int 4)]), (.tup [(.str "end")])])])])])])]), (.tup [(.str "step"), (.tup [(.int (-2)), (.int 1)]), (.tup [(.tup [(.tup [(.int 1), (.int 2)]), (.tup [(.str "end")])])])])])]), (.tup [(.str "step"), (.tup [(.int (-1)), (.int 1)]), (.tup [(.tup [(.tup [(.int 2), (.int 1)]), (.tup [(.str "step"), (.tup [(.int (-3)), (.int 1)]), (.tup [(.tup [(.tup [(.int 1), (.int 4)]), (.tup [(.str "end")])])])])])])]), (.tup [(.str "step"), (.tup [(.int (-3)), (.int 1)]), (.tup [(.tup [(.tup [(.int 1), (.int 4)]), (.tup [(.str "end")])])])]), (.tup [(.str "end")]), (.tup [(.str "step"), (.tup [(.int (-2)), (.int 1)]), (.tup [(.tup [(.tup [(.int 1), (.int 2)]), (.tup [(.str "end")])])])]), (.tup [(.str "end")])], .lst [(.tup [(.str "step"), (.tup [(.int (-1)), (.int 1)]), (.tup [(.tup [(.tup [(.int 2), (.int 1)]), (.tup [(.str "step"), (.tup [(.int (-3)), (.int 1)]), (.tup [(.tup [(.tup [(.int 1), (.int 4)]), (.tup [(.str "end")])])])])])])]), (.tup [(.str "step"), (.tup [(.int (-2)), (.int 1)]), (.tup [(.tup [(.tup [(.int 1), (.int 2)]), (.tup [(.str "end")])])])])], .lst [(.tup [(.str "step"), (.tup [(.int (-1)), (.int 1)]), (.tup [(.tup [(.tup [(.int 2), (.int 1)]), (.tup [(.str "step"), (.tup [(.int (-3)), (.int 1)]), (.tup [(.tup [(.tup [(.int 1), (.int 4)]), (.tup [(.str "end")])])])])])])]), (.tup [(.str "step"), (.tup [(.int (-3)), (.int 1)]), (.tup [(.tup [(.tup [(.int 1), (.int 4)]), (.tup [(.str "end")])])])]), (.tup [(.str "end")])], .lst [(.tup [(.str "step"), (.tup [(.int (-3)), (.int 1)]), (.tup [(.tup [(.tup [(.int 1), (.int 4)]), (.tup [(.str "end")])])])])], .lst [(.tup [(.str "step"), (.tup [(.int (-3)), (.int 1)]), (.tup [(.tup [(.tup [(.int 1), (.int 4)]), (.tup [(.str "end")])])])]), (.tup [(.str "end")])], .lst [(.tup [(.str "end")])], .lst [(.tup [(.str "end")])], .lst [], .lst [(.tup [(.str "step"), (.tup [(.int (-2)), (.int 1)]), (.tup [(.tup [(.tup [(.int 1), (.int 2)]), (.tup [(.str "end")])])])]), (.tup [(.str "end")])], .lst [(.tup [(.str "end")])], .lst [(.tup [(.str "end")])], .lst [], .lst [(.tup [(.tup [(.int (-1)), (.int 1)]), (.tup [(.int (-1)), (.int 1)])]), (.tup [(.tup [(.int (-3)), (.int 1)]), (.tup [(.int 3), (.int 4)])]), (.tup [(.tup [(.int (-2)), (.int 1)]), (.tup [(.int 1), (.int 2)])])], .lst [(.tup [(.tup [(.int (-1)), (.int 1)]), (.tup [(.int (-1)), (.int 1)])]), (.tup [(.tup [(.int (-3)), (.int 1)]), (.tup [(.int 3), (.int 4)])]), (.tup [(.tup [(.int (-2)), (.int 1)]), (.tup [(.int 1), (.int 2)])])], .lst [(.tup [(.tup [(.int 1), (.int 4)]), (.tup [])])], .lst [], .lst [], .lst [], .lst [], .lst [], .lst [(.tup [(.tup [(.int (-3)), (.int 1)]), (.tup [(.int 3), (.int 4)])])], .lst [(.tup [(.tup [(.int (-3)), (.int 1)]), (.tup [(.int 3), (.int 4)])])], .lst [(.tup [(.tup [(.int 2), (.int 1)]), (.tup [(.tup [(.tup [(.int (-3)), (.int 1)]), (.tup [(.int 3), (.int 4)])])])])], .lst [(.tup [(.tup [(.int (-6)), (.int 1)]), (.tup [(.int 3), (.int 2)])])], .lst [(.tup [(.tup [(.int (-6)), (.int 1)]), (.tup [(.int 3), (.int 2)])])], .lst [(.tup [(.tup [(.int (-6)), (.int 1)]), (.tup [(.int 3), (.int 2)])])], .lst [], .lst [], .lst [], .lst [(.tup [(.tup [(.int (-7)), (.int 1)]), (.tup [(.int 1), (.int 2)])])], .lst [(.tup [(.tup [(.int (-7)), (.int 1)]), (.tup [(.int 1), (.int 2)])])], .lst [(.tup [(.tup [(.int 1), (.int 2)]), (.tup [])])], .lst [], .lst [], .lst [], .lst [], .lst [], .lst [(.tup [(.tup [(.int (-2)), (.int 1)]), (.tup [(.int 1), (.int 2)])])], .lst [(.tup [(.tup [(.int (-2)), (.int 1)]), (.tup [(.int 1), (.int 2)])])], .lst [(.tup [(.tup [(.tup [(.int (-7)), (.int 1)]), (.tup [(.int 1), (.int 2)])])]), (.tup [(.tup [(.tup [(.int (-2)), (.int 1)]), (.tup [(.int 1), (.int 2)])])])], .lst [], .lst [], .lst [(.ref 780), (.ref 781)], .lst [(.tup [(.int 1), (.int 2)]), (.tup [(.int 1), (.int 2)])], .lst [(.tup [(.tup [(.int (-2)), (.int 1)]), (.tup [(.int 1), (.int 2)])]), (.tup [(.tup [(.int (-7)), (.int 2)]), (.tup [(.int 1), (.int 4)])])], .lst [], .lst [], .lst [], .lst [], .lst [], .lst [], .lst [(.tup [(.tup [(.int (-2)), (.int 1)]), (.tup [(.int 1), (.int 2)])]), (.tup [(.tup [(.int (-7)), (.int 2)]), (.tup [(.int 1), (.int 4)])])]]
def H_19 : Hh := C_0 ++ (C_1 ++ (C_2 ++ (C_3 ++ (C_4 ++ (C_5 ++ (C_6 ++ (C_7 ++ (C_8 ++ (C_9 ++ (C_10 ++ (C_11 ++ (C_12 ++ (C_13 ++ (C_14 ++ (C_15 ++ (C_16 ++ (C_17 ++ (C_18))))))))))))))))))
abbrev E_19 (ns : List Int) : En := [some (.scr ns), some (.tup [(.str "step"), (.tup [(.int 1), (.int 1)]), (.tup [(.tup [(.tup [(.int 1), (.int 2)]), (.tup [(.str "step"), (.tup [(.int 9), (.int 1)]), (.tup [])])])])]), some (.tup [(.str "step"), (.tup [(.int 1), (.int 1)]), (.tup [(.tup [(.tup [(.int 1), (.int 2)]), (.tup [(.str "step"), (.tup [(.int 1), (.int 1)]), (.tup [])])])])]), some (.tup [(.tup [(.int 1), (.int 1)]), (.tup [(.int 1), (.int 2)])]), some (.tup [(.str "step"), (.tup [(.int 3), (.int 1)]), (.tup [(.tup [(.tup [(.int 2), (.int 1)]), (.tup [(.str "step"), (.tup [(.int 2), (.int 1)]), (.tup [])])])])]), some (.tup [(.str "step"), (.tup [(.int 0), (.int 1)]), (.tup [(.tup [(.tup [(.int 1), (.int 2)]), (.tup [(.str "step"), (.tup [(.int 1), (.int 1)]), (.tup [(.tup [(.tup [(.int 1), (.int 2)]), (.tup [(.str "step"), (.tup [(.int 9), (.int 1)]), (.tup [])])])])])]), (.tup [(.tup [(.int 1), (.int 2)]), (.tup [(.str "step"), (.tup [(.int 1), (.int 1)]), (.tup [(.tup [(.tup [(.int 1), (.int 2)]), (.tup [(.str "step"), (.tup [(.int 1), (.int 1)]), (.tup [])])])])])])])]), some (.tup [(.tup [(.int (-1)), (.int 1)]), (.tup [(.int (-1)), (.int 1)])]), some (.tup [(.tup [(.int (-1)), (.int 10)]), (.tup [(.int 1), (.int 2)])]), some (.tup [(.str "step"), (.tup [(.int (-1)), (.int 1)]), (.tup [(.tup [(.tup [(.int 2), (.int 1)]), (.tup [(.str "step"), (.tup [(.int (-3)), (.int 1)]), (.tup [(.tup [(.tup [(.int 1), (.int 4)]), (.tup [(.str "end")])])])])])])]), some (.tup [(.str "all"), (.tup [(.tup [(.str "step"), (.tup [(.int (-1)), (.int 1)]), (.tup [(.tup [(.tup [(.int 2), (.int 1)]), (.tup [(.str "step"), (.tup [(.int (-3)), (.int 1)]), (.tup [(.tup [(.tup [(.int 1), (.int 4)]), (.tup [(.str "end")])])])])])])]), (.tup [(.str "step"), (.tup [(.int (-2)), (.int 1)]), (.tup [(.tup [(.tup [(.int 1), (.int 2)]), (.tup [(.str "end")])])])])])])]
theorem s_18 (ns : List Int) : exec (callF fs 39) S_18 (E_18 ns) H_18 = .nx (E_19 ns) H_19 := by kernel_rfl
def C_19 : Hh := [.lst [(.tup [(.tup [(.int (-6)), (.int 1)]), (.tup [(.int 3), (.int 2)])])], .lst [(.tup [(.tup [(.int (-6)), (.int 1)]), (.tup [(.int 3), (.int 2)])])], .lst [(.tup [(.tup [(.int (-1)), (.int 1)]), (.tup [(.int (-1)), (.int 1)])]), (.tup [(.tup [(.int (-6)), (.int 1)]), (.tup [(.int 3), (.int 2)])])], .lst [(.tup [(.tup [(.int (-6)), (.int 1)]), (.tup [(.int 3), (.int 2)])])], .lst [], .lst [], .lst [], .lst [(.tup [(.tup [(.int (-7)), (.int 1)]), (.tup [(.int 1), (.int 2)])])], .lst [(.tup [(.tup [(.int (-7)), (.int 1)]), (.tup [(.int 1), (.int 2)])])]]
def H_20 : Hh := C_0 ++ (C_1 ++ (C_2 ++ (C_3 ++ (C_4 ++ (C_5 ++ (C_6 ++ (C_7 ++ (C_8 ++ (C_9 ++ (C_10 ++ (C_11 ++ (C_12 ++ (C_13 ++ (C_14 ++ (C_15 ++ (C_16 ++ (C_17 ++ (C_18 ++ (C_19)))))))))))))))))))
theorem s_19 (ns : List Int) : exec (callF fs 39) S_19 (E_19 ns) H_19 = .rt (.bl true) H_20 := by kernel_rfl
theorem law_ok (ns : List Int) (h : ns.length ≤ 63) : ∃ h', callF fs 40 556 [.scr ns] [] = .ok (.bl true) h' := by
  refine ⟨H_20, ?_⟩
  have e0 : callF fs 40 556 [.scr ns] [] = endOf (exec (callF fs 39) B_0 (E_0 ns) H_0) := by kernel_rfl
  have e1 : exec (callF fs 39) B_0 (E_0 ns) H_0 = .rt (.bl true) H_20 := (run_step (s_0 ns)).trans ((run_step (s_1 ns)).trans ((run_step (s_2 ns)).trans ((run_step (s_3 ns)).trans ((run_step (s_4 ns)).trans ((run_step (s_5 ns)).trans ((run_step (s_6 ns)).trans ((run_step (s_7 ns)).trans ((run_step (s_8 ns)).trans ((run_step (s_9 ns)).trans ((run_step (s_10 ns)).trans ((run_step (s_11 ns)).trans ((run_step (s_12 ns)).trans ((run_step (s_13 ns)).trans ((run_step (s_14 ns)).trans ((run_step (s_15 ns)).trans ((run_step (s_16 ns)).trans ((run_step (s_17 ns)).trans ((run_step (s_18 ns)).trans (run_end (s_19 ns))))))))))))))))))))
  rw [e0, e1]
  rfl
end L_onenumber_k25_numbers_by_hand

namespace L_onenumber_k25_numbers_by_hand
open PD PySem PySem.Spec PyProof.Rows L2
theorem all_mk {P : Program} {w : World} {K : PySem.W.Frag} {h : Heap} {mg : Str → Option Value} {fa : Addr} (X : K.In h) (G : h.Ns mainGlobals mg) (hfa : mg "law" = some (.ref fa))
    {f0 : Addr} {od0 an0 : Option Addr} {sl0 : Array (Option Value)} {oc0 kV0 dc0 pm0 cd0 ct0 : Value}
    {f1 : Addr} {od1 an1 : Option Addr} {sl1 : Array (Option Value)} {oc1 kV1 dc1 pm1 cd1 ct1 : Value}
    {f2 : Addr} {od2 an2 : Option Addr} {sl2 : Array (Option Value)} {oc2 kV2 dc2 pm2 cd2 ct2 : Value}
    {f3 : Addr} {od3 an3 : Option Addr} {sl3 : Array (Option Value)} {oc3 kV3 dc3 pm3 cd3 ct3 : Value}
    {f4 : Addr} {od4 an4 : Option Addr} {sl4 : Array (Option Value)} {oc4 kV4 dc4 pm4 cd4 ct4 : Value}
    {f5 : Addr} {od5 an5 : Option Addr} {sl5 : Array (Option Value)} {oc5 kV5 dc5 pm5 cd5 ct5 : Value}
    {f6 : Addr} {od6 an6 : Option Addr} {sl6 : Array (Option Value)} {oc6 kV6 dc6 pm6 cd6 ct6 : Value}
    {f7 : Addr} {od7 an7 : Option Addr} {sl7 : Array (Option Value)} {oc7 kV7 dc7 pm7 cd7 ct7 : Value}
    {f8 : Addr} {od8 an8 : Option Addr} {sl8 : Array (Option Value)} {oc8 kV8 dc8 pm8 cd8 ct8 : Value}
    {f9 : Addr} {od9 an9 : Option Addr} {sl9 : Array (Option Value)} {oc9 kV9 dc9 pm9 cd9 ct9 : Value}
    {f10 : Addr} {od10 an10 : Option Addr} {sl10 : Array (Option Value)} {oc10 kV10 dc10 pm10 cd10 ct10 : Value}
    {f11 : Addr} {od11 an11 : Option Addr} {sl11 : Array (Option Value)} {oc11 kV11 dc11 pm11 cd11 ct11 : Value}
    {f12 : Addr} {od12 an12 : Option Addr} {sl12 : Array (Option Value)} {oc12 kV12 dc12 pm12 cd12 ct12 : Value}
    {f13 : Addr} {od13 an13 : Option Addr} {sl13 : Array (Option Value)} {oc13 kV13 dc13 pm13 cd13 ct13 : Value}
    {f14 : Addr} {od14 an14 : Option Addr} {sl14 : Array (Option Value)} {oc14 kV14 dc14 pm14 cd14 ct14 : Value}
    {f15 : Addr} {od15 an15 : Option Addr} {sl15 : Array (Option Value)} {oc15 kV15 dc15 pm15 cd15 ct15 : Value}
    {f16 : Addr} {od16 an16 : Option Addr} {sl16 : Array (Option Value)} {oc16 kV16 dc16 pm16 cd16 ct16 : Value}
    {f17 : Addr} {od17 an17 : Option Addr} {sl17 : Array (Option Value)} {oc17 kV17 dc17 pm17 cd17 ct17 : Value}
    {f18 : Addr} {od18 an18 : Option Addr} {sl18 : Array (Option Value)} {oc18 kV18 dc18 pm18 cd18 ct18 : Value}
    {f19 : Addr} {od19 an19 : Option Addr} {sl19 : Array (Option Value)} {oc19 kV19 dc19 pm19 cd19 ct19 : Value}
    {f20 : Addr} {od20 an20 : Option Addr} {sl20 : Array (Option Value)} {oc20 kV20 dc20 pm20 cd20 ct20 : Value}
    {f21 : Addr} {od21 an21 : Option Addr} {sl21 : Array (Option Value)} {oc21 kV21 dc21 pm21 cd21 ct21 : Value}
    {f22 : Addr} {od22 an22 : Option Addr} {sl22 : Array (Option Value)} {oc22 kV22 dc22 pm22 cd22 ct22 : Value}
    {f23 : Addr} {od23 an23 : Option Addr} {sl23 : Array (Option Value)} {oc23 kV23 dc23 pm23 cd23 ct23 : Value}
    {f24 : Addr} {od24 an24 : Option Addr} {sl24 : Array (Option Value)} {oc24 kV24 dc24 pm24 cd24 ct24 : Value}
    {f25 : Addr} {od25 an25 : Option Addr} {sl25 : Array (Option Value)} {oc25 kV25 dc25 pm25 cd25 ct25 : Value}
    {f26 : Addr} {od26 an26 : Option Addr} {sl26 : Array (Option Value)} {oc26 kV26 dc26 pm26 cd26 ct26 : Value}
    {f27 : Addr} {od27 an27 : Option Addr} {sl27 : Array (Option Value)} {oc27 kV27 dc27 pm27 cd27 ct27 : Value}
    {f28 : Addr} {od28 an28 : Option Addr} {sl28 : Array (Option Value)} {oc28 kV28 dc28 pm28 cd28 ct28 : Value}
    {f29 : Addr} {od29 an29 : Option Addr} {sl29 : Array (Option Value)} {oc29 kV29 dc29 pm29 cd29 ct29 : Value}
    {f30 : Addr} {od30 an30 : Option Addr} {sl30 : Array (Option Value)} {oc30 kV30 dc30 pm30 cd30 ct30 : Value}
    {f31 : Addr} {od31 an31 : Option Addr} {sl31 : Array (Option Value)} {oc31 kV31 dc31 pm31 cd31 ct31 : Value}
    {f32 : Addr} {od32 an32 : Option Addr} {sl32 : Array (Option Value)} {oc32 kV32 dc32 pm32 cd32 ct32 : Value}
    {f33 : Addr} {od33 an33 : Option Addr} {sl33 : Array (Option Value)} {oc33 kV33 dc33 pm33 cd33 ct33 : Value}
    {f34 : Addr} {od34 an34 : Option Addr} {sl34 : Array (Option Value)} {oc34 kV34 dc34 pm34 cd34 ct34 : Value}
    {f35 : Addr} {od35 an35 : Option Addr} {sl35 : Array (Option Value)} {oc35 kV35 dc35 pm35 cd35 ct35 : Value}
    {f36 : Addr} {od36 an36 : Option Addr} {sl36 : Array (Option Value)} {oc36 kV36 dc36 pm36 cd36 ct36 : Value}
    {f37 : Addr} {od37 an37 : Option Addr} {sl37 : Array (Option Value)} {oc37 kV37 dc37 pm37 cd37 ct37 : Value}
    {f38 : Addr} {od38 an38 : Option Addr} {sl38 : Array (Option Value)} {oc38 kV38 dc38 pm38 cd38 ct38 : Value}
    {f39 : Addr} {od39 an39 : Option Addr} {sl39 : Array (Option Value)} {oc39 kV39 dc39 pm39 cd39 ct39 : Value}
    {f40 : Addr} {od40 an40 : Option Addr} {sl40 : Array (Option Value)} {oc40 kV40 dc40 pm40 cd40 ct40 : Value}
    {f41 : Addr} {od41 an41 : Option Addr} {sl41 : Array (Option Value)} {oc41 kV41 dc41 pm41 cd41 ct41 : Value}
    {f42 : Addr} {od42 an42 : Option Addr} {sl42 : Array (Option Value)} {oc42 kV42 dc42 pm42 cd42 ct42 : Value}
    {f43 : Addr} {od43 an43 : Option Addr} {sl43 : Array (Option Value)} {oc43 kV43 dc43 pm43 cd43 ct43 : Value}
    {f44 : Addr} {od44 an44 : Option Addr} {sl44 : Array (Option Value)} {oc44 kV44 dc44 pm44 cd44 ct44 : Value}
    {f45 : Addr} {od45 an45 : Option Addr} {sl45 : Array (Option Value)} {oc45 kV45 dc45 pm45 cd45 ct45 : Value}
    {f46 : Addr} {od46 an46 : Option Addr} {sl46 : Array (Option Value)} {oc46 kV46 dc46 pm46 cd46 ct46 : Value}
    {f47 : Addr} {od47 an47 : Option Addr} {sl47 : Array (Option Value)} {oc47 kV47 dc47 pm47 cd47 ct47 : Value}
    {f48 : Addr} {od48 an48 : Option Addr} {sl48 : Array (Option Value)} {oc48 kV48 dc48 pm48 cd48 ct48 : Value}
    {f49 : Addr} {od49 an49 : Option Addr} {sl49 : Array (Option Value)} {oc49 kV49 dc49 pm49 cd49 ct49 : Value}
    {f50 : Addr} {od50 an50 : Option Addr} {sl50 : Array (Option Value)} {oc50 kV50 dc50 pm50 cd50 ct50 : Value}
    {f51 : Addr} {od51 an51 : Option Addr} {sl51 : Array (Option Value)} {oc51 kV51 dc51 pm51 cd51 ct51 : Value}
    {f52 : Addr} {od52 an52 : Option Addr} {sl52 : Array (Option Value)} {oc52 kV52 dc52 pm52 cd52 ct52 : Value}
    {f53 : Addr} {od53 an53 : Option Addr} {sl53 : Array (Option Value)} {oc53 kV53 dc53 pm53 cd53 ct53 : Value}
    {f54 : Addr} {od54 an54 : Option Addr} {sl54 : Array (Option Value)} {oc54 kV54 dc54 pm54 cd54 ct54 : Value}
    {f55 : Addr} {od55 an55 : Option Addr} {sl55 : Array (Option Value)} {oc55 kV55 dc55 pm55 cd55 ct55 : Value}
    {f56 : Addr} {od56 an56 : Option Addr} {sl56 : Array (Option Value)} {oc56 kV56 dc56 pm56 cd56 ct56 : Value}
    {f57 : Addr} {od57 an57 : Option Addr} {sl57 : Array (Option Value)} {oc57 kV57 dc57 pm57 cd57 ct57 : Value}
    {f58 : Addr} {od58 an58 : Option Addr} {sl58 : Array (Option Value)} {oc58 kV58 dc58 pm58 cd58 ct58 : Value}
    {f59 : Addr} {od59 an59 : Option Addr} {sl59 : Array (Option Value)} {oc59 kV59 dc59 pm59 cd59 ct59 : Value}
    {g0 : Addr}
    {t_g0_0 : Tok}
    {t_g0_1 : Tok}
    {dd_g0 : Option Addr} {nn_g0 : Nat} {ss_g0 : Array (Option Value)}
    {g1 : Addr}
    {t_g1_0 : Tok}
    {t_g1_1 : Tok}
    {dd_g1 : Option Addr} {nn_g1 : Nat} {ss_g1 : Array (Option Value)}
    {g2 : Addr}
    {g2_0 : Addr}
    {g2_1 : Addr}
    {dd_g2 : Option Addr} {nn_g2 : Nat} {ss_g2 : Array (Option Value)}
    {t_g2_0_0 : Tok}
    {t_g2_0_1 : Tok}
    {dd_g2_0 : Option Addr} {nn_g2_0 : Nat} {ss_g2_0 : Array (Option Value)}
    {t_g2_1_0 : Tok}
    {t_g2_1_1 : Tok}
    {dd_g2_1 : Option Addr} {nn_g2_1 : Nat} {ss_g2_1 : Array (Option Value)}
    {t_x3 : Tok}
    {t_x4 : Tok}
    {t_x5 : Tok}
    {t_x6 : Tok}
    {t_x7 : Tok}
    {t_x8 : Tok}
    {t_x9 : Tok}
    {t_x10 : Tok}
    {t_x11 : Tok}
    (a0 : PySem.W.nsIn K mainGlobals "is_integer" = some (some (.ref f0))) (l0 : K.lookup f0 = some ⟨oc0, od0, .func (PySem.W.fnOf "is_integer" "is_integer" (defArgs (topS 12)) (defBody (topS 12)) (defScope (topS 12)) .none kV0 dc0 pm0 an0 cd0 ct0), sl0⟩) (c0 : PySem.W.codeIn K cd0 "is_integer" = true) (k0 : PySem.W.keepIn K (.ref f0) = true)
    (a1 : PySem.W.nsIn K mainGlobals "divisor_of" = some (some (.ref f1))) (l1 : K.lookup f1 = some ⟨oc1, od1, .func (PySem.W.fnOf "divisor_of" "divisor_of" (defArgs (topS 13)) (defBody (topS 13)) (defScope (topS 13)) .none kV1 dc1 pm1 an1 cd1 ct1), sl1⟩) (c1 : PySem.W.codeIn K cd1 "divisor_of" = true) (k1 : PySem.W.keepIn K (.ref f1) = true)
    (a2 : PySem.W.nsIn K mainGlobals "is_fraction" = some (some (.ref f2))) (l2 : K.lookup f2 = some ⟨oc2, od2, .func (PySem.W.fnOf "is_fraction" "is_fraction" (defArgs (topS 14)) (defBody (topS 14)) (defScope (topS 14)) .none kV2 dc2 pm2 an2 cd2 ct2), sl2⟩) (c2 : PySem.W.codeIn K cd2 "is_fraction" = true) (k2 : PySem.W.keepIn K (.ref f2) = true)
    (a3 : PySem.W.nsIn K mainGlobals "lowest" = some (some (.ref f3))) (l3 : K.lookup f3 = some ⟨oc3, od3, .func (PySem.W.fnOf "lowest" "lowest" (defArgs (topS 15)) (defBody (topS 15)) (defScope (topS 15)) .none kV3 dc3 pm3 an3 cd3 ct3), sl3⟩) (c3 : PySem.W.codeIn K cd3 "lowest" = true) (k3 : PySem.W.keepIn K (.ref f3) = true)
    (a4 : PySem.W.nsIn K mainGlobals "add" = some (some (.ref f4))) (l4 : K.lookup f4 = some ⟨oc4, od4, .func (PySem.W.fnOf "add" "add" (defArgs (topS 16)) (defBody (topS 16)) (defScope (topS 16)) .none kV4 dc4 pm4 an4 cd4 ct4), sl4⟩) (c4 : PySem.W.codeIn K cd4 "add" = true) (k4 : PySem.W.keepIn K (.ref f4) = true)
    (a5 : PySem.W.nsIn K mainGlobals "less" = some (some (.ref f5))) (l5 : K.lookup f5 = some ⟨oc5, od5, .func (PySem.W.fnOf "less" "less" (defArgs (topS 17)) (defBody (topS 17)) (defScope (topS 17)) .none kV5 dc5 pm5 an5 cd5 ct5), sl5⟩) (c5 : PySem.W.codeIn K cd5 "less" = true) (k5 : PySem.W.keepIn K (.ref f5) = true)
    (a6 : PySem.W.nsIn K mainGlobals "mul" = some (some (.ref f6))) (l6 : K.lookup f6 = some ⟨oc6, od6, .func (PySem.W.fnOf "mul" "mul" (defArgs (topS 18)) (defBody (topS 18)) (defScope (topS 18)) .none kV6 dc6 pm6 an6 cd6 ct6), sl6⟩) (c6 : PySem.W.codeIn K cd6 "mul" = true) (k6 : PySem.W.keepIn K (.ref f6) = true)
    (a7 : PySem.W.nsIn K mainGlobals "div" = some (some (.ref f7))) (l7 : K.lookup f7 = some ⟨oc7, od7, .func (PySem.W.fnOf "div" "div" (defArgs (topS 19)) (defBody (topS 19)) (defScope (topS 19)) .none kV7 dc7 pm7 an7 cd7 ct7), sl7⟩) (c7 : PySem.W.codeIn K cd7 "div" = true) (k7 : PySem.W.keepIn K (.ref f7) = true)
    (a8 : PySem.W.nsIn K mainGlobals "order_of" = some (some (.ref f8))) (l8 : K.lookup f8 = some ⟨oc8, od8, .func (PySem.W.fnOf "order_of" "order_of" (defArgs (topS 20)) (defBody (topS 20)) (defScope (topS 20)) .none kV8 dc8 pm8 an8 cd8 ct8), sl8⟩) (c8 : PySem.W.codeIn K cd8 "order_of" = true) (k8 : PySem.W.keepIn K (.ref f8) = true)
    (a9 : PySem.W.nsIn K mainGlobals "is_pair" = some (some (.ref f9))) (l9 : K.lookup f9 = some ⟨oc9, od9, .func (PySem.W.fnOf "is_pair" "is_pair" (defArgs (topS 23)) (defBody (topS 23)) (defScope (topS 23)) .none kV9 dc9 pm9 an9 cd9 ct9), sl9⟩) (c9 : PySem.W.codeIn K cd9 "is_pair" = true) (k9 : PySem.W.keepIn K (.ref f9) = true)
    (a10 : PySem.W.nsIn K mainGlobals "turn_of" = some (some (.ref f10))) (l10 : K.lookup f10 = some ⟨oc10, od10, .func (PySem.W.fnOf "turn_of" "turn_of" (defArgs (topS 24)) (defBody (topS 24)) (defScope (topS 24)) .none kV10 dc10 pm10 an10 cd10 ct10), sl10⟩) (c10 : PySem.W.codeIn K cd10 "turn_of" = true) (k10 : PySem.W.keepIn K (.ref f10) = true)
    (a11 : PySem.W.nsIn K mainGlobals "joined" = some (some (.ref f11))) (l11 : K.lookup f11 = some ⟨oc11, od11, .func (PySem.W.fnOf "joined" "joined" (defArgs (topS 25)) (defBody (topS 25)) (defScope (topS 25)) .none kV11 dc11 pm11 an11 cd11 ct11), sl11⟩) (c11 : PySem.W.codeIn K cd11 "joined" = true) (k11 : PySem.W.keepIn K (.ref f11) = true)
    (a12 : PySem.W.nsIn K mainGlobals "spread_by" = some (some (.ref f12))) (l12 : K.lookup f12 = some ⟨oc12, od12, .func (PySem.W.fnOf "spread_by" "spread_by" (defArgs (topS 26)) (defBody (topS 26)) (defScope (topS 26)) .none kV12 dc12 pm12 an12 cd12 ct12), sl12⟩) (c12 : PySem.W.codeIn K cd12 "spread_by" = true) (k12 : PySem.W.keepIn K (.ref f12) = true)
    (a13 : PySem.W.nsIn K mainGlobals "need_pairs" = some (some (.ref f13))) (l13 : K.lookup f13 = some ⟨oc13, od13, .func (PySem.W.fnOf "need_pairs" "need_pairs" (defArgs (topS 27)) (defBody (topS 27)) (defScope (topS 27)) .none kV13 dc13 pm13 an13 cd13 ct13), sl13⟩) (c13 : PySem.W.codeIn K cd13 "need_pairs" = true) (k13 : PySem.W.keepIn K (.ref f13) = true)
    (a14 : PySem.W.nsIn K mainGlobals "need_list" = some (some (.ref f14))) (l14 : K.lookup f14 = some ⟨oc14, od14, .func (PySem.W.fnOf "need_list" "need_list" (defArgs (topS 30)) (defBody (topS 30)) (defScope (topS 30)) .none kV14 dc14 pm14 an14 cd14 ct14), sl14⟩) (c14 : PySem.W.codeIn K cd14 "need_list" = true) (k14 : PySem.W.keepIn K (.ref f14) = true)
    (a15 : PySem.W.nsIn K mainGlobals "measure" = some (some (.ref f15))) (l15 : K.lookup f15 = some ⟨oc15, od15, .func (PySem.W.fnOf "measure" "measure" (defArgs (topS 31)) (defBody (topS 31)) (defScope (topS 31)) .none kV15 dc15 pm15 an15 cd15 ct15), sl15⟩) (c15 : PySem.W.codeIn K cd15 "measure" = true) (k15 : PySem.W.keepIn K (.ref f15) = true)
    (a16 : PySem.W.nsIn K mainGlobals "is_along" = some (some (.ref f16))) (l16 : K.lookup f16 = some ⟨oc16, od16, .func (PySem.W.fnOf "is_along" "is_along" (defArgs (topS 32)) (defBody (topS 32)) (defScope (topS 32)) .none kV16 dc16 pm16 an16 cd16 ct16), sl16⟩) (c16 : PySem.W.codeIn K cd16 "is_along" = true) (k16 : PySem.W.keepIn K (.ref f16) = true)
    (a17 : PySem.W.nsIn K mainGlobals "find_ends" = some (some (.ref f17))) (l17 : K.lookup f17 = some ⟨oc17, od17, .func (PySem.W.fnOf "find_ends" "find_ends" (defArgs (topS 33)) (defBody (topS 33)) (defScope (topS 33)) .none kV17 dc17 pm17 an17 cd17 ct17), sl17⟩) (c17 : PySem.W.codeIn K cd17 "find_ends" = true) (k17 : PySem.W.keepIn K (.ref f17) = true)
    (a18 : PySem.W.nsIn K mainGlobals "find_witness" = some (some (.ref f18))) (l18 : K.lookup f18 = some ⟨oc18, od18, .func (PySem.W.fnOf "find_witness" "find_witness" (defArgs (topS 34)) (defBody (topS 34)) (defScope (topS 34)) .none kV18 dc18 pm18 an18 cd18 ct18), sl18⟩) (c18 : PySem.W.codeIn K cd18 "find_witness" = true) (k18 : PySem.W.keepIn K (.ref f18) = true)
    (a19 : PySem.W.nsIn K mainGlobals "cross" = some (some (.ref f19))) (l19 : K.lookup f19 = some ⟨oc19, od19, .func (PySem.W.fnOf "cross" "cross" (defArgs (topS 35)) (defBody (topS 35)) (defScope (topS 35)) .none kV19 dc19 pm19 an19 cd19 ct19), sl19⟩) (c19 : PySem.W.codeIn K cd19 "cross" = true) (k19 : PySem.W.keepIn K (.ref f19) = true)
    (a20 : PySem.W.nsIn K mainGlobals "opposite_of" = some (some (.ref f20))) (l20 : K.lookup f20 = some ⟨oc20, od20, .func (PySem.W.fnOf "opposite_of" "opposite_of" (defArgs (topS 36)) (defBody (topS 36)) (defScope (topS 36)) .none kV20 dc20 pm20 an20 cd20 ct20), sl20⟩) (c20 : PySem.W.codeIn K cd20 "opposite_of" = true) (k20 : PySem.W.keepIn K (.ref f20) = true)
    (a21 : PySem.W.nsIn K mainGlobals "round_of" = some (some (.ref f21))) (l21 : K.lookup f21 = some ⟨oc21, od21, .func (PySem.W.fnOf "round_of" "round_of" (defArgs (topS 37)) (defBody (topS 37)) (defScope (topS 37)) .none kV21 dc21 pm21 an21 cd21 ct21), sl21⟩) (c21 : PySem.W.codeIn K cd21 "round_of" = true) (k21 : PySem.W.keepIn K (.ref f21) = true)
    (a22 : PySem.W.nsIn K mainGlobals "find_ring" = some (some (.ref f22))) (l22 : K.lookup f22 = some ⟨oc22, od22, .func (PySem.W.fnOf "find_ring" "find_ring" (defArgs (topS 38)) (defBody (topS 38)) (defScope (topS 38)) .none kV22 dc22 pm22 an22 cd22 ct22), sl22⟩) (c22 : PySem.W.codeIn K cd22 "find_ring" = true) (k22 : PySem.W.keepIn K (.ref f22) = true)
    (a23 : PySem.W.nsIn K mainGlobals "witness" = some (some (.ref f23))) (l23 : K.lookup f23 = some ⟨oc23, od23, .func (PySem.W.fnOf "witness" "witness" (defArgs (topS 39)) (defBody (topS 39)) (defScope (topS 39)) .none kV23 dc23 pm23 an23 cd23 ct23), sl23⟩) (c23 : PySem.W.codeIn K cd23 "witness" = true) (k23 : PySem.W.keepIn K (.ref f23) = true)
    (a24 : PySem.W.nsIn K mainGlobals "ring" = some (some (.ref f24))) (l24 : K.lookup f24 = some ⟨oc24, od24, .func (PySem.W.fnOf "ring" "ring" (defArgs (topS 40)) (defBody (topS 40)) (defScope (topS 40)) .none kV24 dc24 pm24 an24 cd24 ct24), sl24⟩) (c24 : PySem.W.codeIn K cd24 "ring" = true) (k24 : PySem.W.keepIn K (.ref f24) = true)
    (a25 : PySem.W.nsIn K mainGlobals "is_share" = some (some (.ref f25))) (l25 : K.lookup f25 = some ⟨oc25, od25, .func (PySem.W.fnOf "is_share" "is_share" (defArgs (topS 41)) (defBody (topS 41)) (defScope (topS 41)) .none kV25 dc25 pm25 an25 cd25 ct25), sl25⟩) (c25 : PySem.W.codeIn K cd25 "is_share" = true) (k25 : PySem.W.keepIn K (.ref f25) = true)
    (a26 : PySem.W.nsIn K mainGlobals "is_ring" = some (some (.ref f26))) (l26 : K.lookup f26 = some ⟨oc26, od26, .func (PySem.W.fnOf "is_ring" "is_ring" (defArgs (topS 42)) (defBody (topS 42)) (defScope (topS 42)) .none kV26 dc26 pm26 an26 cd26 ct26), sl26⟩) (c26 : PySem.W.codeIn K cd26 "is_ring" = true) (k26 : PySem.W.keepIn K (.ref f26) = true)
    (a27 : PySem.W.nsIn K mainGlobals "weights_left" = some (some (.ref f27))) (l27 : K.lookup f27 = some ⟨oc27, od27, .func (PySem.W.fnOf "weights_left" "weights_left" (defArgs (topS 46)) (defBody (topS 46)) (defScope (topS 46)) .none kV27 dc27 pm27 an27 cd27 ct27), sl27⟩) (c27 : PySem.W.codeIn K cd27 "weights_left" = true) (k27 : PySem.W.keepIn K (.ref f27) = true)
    (a28 : PySem.W.nsIn K mainGlobals "are_rungs" = some (some (.ref f28))) (l28 : K.lookup f28 = some ⟨oc28, od28, .func (PySem.W.fnOf "are_rungs" "are_rungs" (defArgs (topS 47)) (defBody (topS 47)) (defScope (topS 47)) .none kV28 dc28 pm28 an28 cd28 ct28), sl28⟩) (c28 : PySem.W.codeIn K cd28 "are_rungs" = true) (k28 : PySem.W.keepIn K (.ref f28) = true)
    (a29 : PySem.W.nsIn K mainGlobals "is_ladder" = some (some (.ref f29))) (l29 : K.lookup f29 = some ⟨oc29, od29, .func (PySem.W.fnOf "is_ladder" "is_ladder" (defArgs (topS 48)) (defBody (topS 48)) (defScope (topS 48)) .none kV29 dc29 pm29 an29 cd29 ct29), sl29⟩) (c29 : PySem.W.codeIn K cd29 "is_ladder" = true) (k29 : PySem.W.keepIn K (.ref f29) = true)
    (a30 : PySem.W.nsIn K mainGlobals "need_ladder" = some (some (.ref f30))) (l30 : K.lookup f30 = some ⟨oc30, od30, .func (PySem.W.fnOf "need_ladder" "need_ladder" (defArgs (topS 49)) (defBody (topS 49)) (defScope (topS 49)) .none kV30 dc30 pm30 an30 cd30 ct30), sl30⟩) (c30 : PySem.W.codeIn K cd30 "need_ladder" = true) (k30 : PySem.W.keepIn K (.ref f30) = true)
    (a31 : PySem.W.nsIn K mainGlobals "need_ladders" = some (some (.ref f31))) (l31 : K.lookup f31 = some ⟨oc31, od31, .func (PySem.W.fnOf "need_ladders" "need_ladders" (defArgs (topS 50)) (defBody (topS 50)) (defScope (topS 50)) .none kV31 dc31 pm31 an31 cd31 ct31), sl31⟩) (c31 : PySem.W.codeIn K cd31 "need_ladders" = true) (k31 : PySem.W.keepIn K (.ref f31) = true)
    (a32 : PySem.W.nsIn K mainGlobals "sum_of_pays" = some (some (.ref f32))) (l32 : K.lookup f32 = some ⟨oc32, od32, .func (PySem.W.fnOf "sum_of_pays" "sum_of_pays" (defArgs (topS 51)) (defBody (topS 51)) (defScope (topS 51)) .none kV32 dc32 pm32 an32 cd32 ct32), sl32⟩) (c32 : PySem.W.codeIn K cd32 "sum_of_pays" = true) (k32 : PySem.W.keepIn K (.ref f32) = true)
    (a33 : PySem.W.nsIn K mainGlobals "pays" = some (some (.ref f33))) (l33 : K.lookup f33 = some ⟨oc33, od33, .func (PySem.W.fnOf "pays" "pays" (defArgs (topS 52)) (defBody (topS 52)) (defScope (topS 52)) .none kV33 dc33 pm33 an33 cd33 ct33), sl33⟩) (c33 : PySem.W.codeIn K cd33 "pays" = true) (k33 : PySem.W.keepIn K (.ref f33) = true)
    (a34 : PySem.W.nsIn K mainGlobals "chain" = some (some (.ref f34))) (l34 : K.lookup f34 = some ⟨oc34, od34, .func (PySem.W.fnOf "chain" "chain" (defArgs (topS 53)) (defBody (topS 53)) (defScope (topS 53)) .none kV34 dc34 pm34 an34 cd34 ct34), sl34⟩) (c34 : PySem.W.codeIn K cd34 "chain" = true) (k34 : PySem.W.keepIn K (.ref f34) = true)
    (a35 : PySem.W.nsIn K mainGlobals "need_frame" = some (some (.ref f35))) (l35 : K.lookup f35 = some ⟨oc35, od35, .func (PySem.W.fnOf "need_frame" "need_frame" (defArgs (topS 55)) (defBody (topS 55)) (defScope (topS 55)) .none kV35 dc35 pm35 an35 cd35 ct35), sl35⟩) (c35 : PySem.W.codeIn K cd35 "need_frame" = true) (k35 : PySem.W.keepIn K (.ref f35) = true)
    (a36 : PySem.W.nsIn K mainGlobals "merge" = some (some (.ref f36))) (l36 : K.lookup f36 = some ⟨oc36, od36, .func (PySem.W.fnOf "merge" "merge" (defArgs (topS 56)) (defBody (topS 56)) (defScope (topS 56)) .none kV36 dc36 pm36 an36 cd36 ct36), sl36⟩) (c36 : PySem.W.codeIn K cd36 "merge" = true) (k36 : PySem.W.keepIn K (.ref f36) = true)
    (a37 : PySem.W.nsIn K mainGlobals "glued" = some (some (.ref f37))) (l37 : K.lookup f37 = some ⟨oc37, od37, .func (PySem.W.fnOf "glued" "glued" (defArgs (topS 57)) (defBody (topS 57)) (defScope (topS 57)) .none kV37 dc37 pm37 an37 cd37 ct37), sl37⟩) (c37 : PySem.W.codeIn K cd37 "glued" = true) (k37 : PySem.W.keepIn K (.ref f37) = true)
    (a38 : PySem.W.nsIn K mainGlobals "foremost_of" = some (some (.ref f38))) (l38 : K.lookup f38 = some ⟨oc38, od38, .func (PySem.W.fnOf "foremost_of" "foremost_of" (defArgs (topS 58)) (defBody (topS 58)) (defScope (topS 58)) .none kV38 dc38 pm38 an38 cd38 ct38), sl38⟩) (c38 : PySem.W.codeIn K cd38 "foremost_of" = true) (k38 : PySem.W.keepIn K (.ref f38) = true)
    (a39 : PySem.W.nsIn K mainGlobals "beside_one_another" = some (some (.ref f39))) (l39 : K.lookup f39 = some ⟨oc39, od39, .func (PySem.W.fnOf "beside_one_another" "beside_one_another" (defArgs (topS 59)) (defBody (topS 59)) (defScope (topS 59)) .none kV39 dc39 pm39 an39 cd39 ct39), sl39⟩) (c39 : PySem.W.codeIn K cd39 "beside_one_another" = true) (k39 : PySem.W.keepIn K (.ref f39) = true)
    (a40 : PySem.W.nsIn K mainGlobals "shared" = some (some (.ref f40))) (l40 : K.lookup f40 = some ⟨oc40, od40, .func (PySem.W.fnOf "shared" "shared" (defArgs (topS 60)) (defBody (topS 60)) (defScope (topS 60)) .none kV40 dc40 pm40 an40 cd40 ct40), sl40⟩) (c40 : PySem.W.codeIn K cd40 "shared" = true) (k40 : PySem.W.keepIn K (.ref f40) = true)
    (a41 : PySem.W.nsIn K mainGlobals "glue" = some (some (.ref f41))) (l41 : K.lookup f41 = some ⟨oc41, od41, .func (PySem.W.fnOf "glue" "glue" (defArgs (topS 61)) (defBody (topS 61)) (defScope (topS 61)) .none kV41 dc41 pm41 an41 cd41 ct41), sl41⟩) (c41 : PySem.W.codeIn K cd41 "glue" = true) (k41 : PySem.W.keepIn K (.ref f41) = true)
    (a42 : PySem.W.nsIn K mainGlobals "side_by_side" = some (some (.ref f42))) (l42 : K.lookup f42 = some ⟨oc42, od42, .func (PySem.W.fnOf "side_by_side" "side_by_side" (defArgs (topS 62)) (defBody (topS 62)) (defScope (topS 62)) .none kV42 dc42 pm42 an42 cd42 ct42), sl42⟩) (c42 : PySem.W.codeIn K cd42 "side_by_side" = true) (k42 : PySem.W.keepIn K (.ref f42) = true)
    (a43 : PySem.W.nsIn K mainGlobals "counts_together" = some (some (.ref f43))) (l43 : K.lookup f43 = some ⟨oc43, od43, .func (PySem.W.fnOf "counts_together" "counts_together" (defArgs (topS 70)) (defBody (topS 70)) (defScope (topS 70)) .none kV43 dc43 pm43 an43 cd43 ct43), sl43⟩) (c43 : PySem.W.codeIn K cd43 "counts_together" = true) (k43 : PySem.W.keepIn K (.ref f43) = true)
    (a44 : PySem.W.nsIn K mainGlobals "is_outcome" = some (some (.ref f44))) (l44 : K.lookup f44 = some ⟨oc44, od44, .func (PySem.W.fnOf "is_outcome" "is_outcome" (defArgs (topS 71)) (defBody (topS 71)) (defScope (topS 71)) .none kV44 dc44 pm44 an44 cd44 ct44), sl44⟩) (c44 : PySem.W.codeIn K cd44 "is_outcome" = true) (k44 : PySem.W.keepIn K (.ref f44) = true)
    (a45 : PySem.W.nsIn K mainGlobals "counts_of" = some (some (.ref f45))) (l45 : K.lookup f45 = some ⟨oc45, od45, .func (PySem.W.fnOf "counts_of" "counts_of" (defArgs (topS 72)) (defBody (topS 72)) (defScope (topS 72)) .none kV45 dc45 pm45 an45 cd45 ct45), sl45⟩) (c45 : PySem.W.codeIn K cd45 "counts_of" = true) (k45 : PySem.W.keepIn K (.ref f45) = true)
    (a46 : PySem.W.nsIn K mainGlobals "is_term" = some (some (.ref f46))) (l46 : K.lookup f46 = some ⟨oc46, od46, .func (PySem.W.fnOf "is_term" "is_term" (defArgs (topS 73)) (defBody (topS 73)) (defScope (topS 73)) .none kV46 dc46 pm46 an46 cd46 ct46), sl46⟩) (c46 : PySem.W.codeIn K cd46 "is_term" = true) (k46 : PySem.W.keepIn K (.ref f46) = true)
    (a47 : PySem.W.nsIn K mainGlobals "is_mix" = some (some (.ref f47))) (l47 : K.lookup f47 = some ⟨oc47, od47, .func (PySem.W.fnOf "is_mix" "is_mix" (defArgs (topS 74)) (defBody (topS 74)) (defScope (topS 74)) .none kV47 dc47 pm47 an47 cd47 ct47), sl47⟩) (c47 : PySem.W.codeIn K cd47 "is_mix" = true) (k47 : PySem.W.keepIn K (.ref f47) = true)
    (a48 : PySem.W.nsIn K mainGlobals "within" = some (some (.ref f48))) (l48 : K.lookup f48 = some ⟨oc48, od48, .func (PySem.W.fnOf "within" "within" (defArgs (topS 75)) (defBody (topS 75)) (defScope (topS 75)) .none kV48 dc48 pm48 an48 cd48 ct48), sl48⟩) (c48 : PySem.W.codeIn K cd48 "within" = true) (k48 : PySem.W.keepIn K (.ref f48) = true)
    (a49 : PySem.W.nsIn K mainGlobals "parts_of" = some (some (.ref f49))) (l49 : K.lookup f49 = some ⟨oc49, od49, .func (PySem.W.fnOf "parts_of" "parts_of" (defArgs (topS 76)) (defBody (topS 76)) (defScope (topS 76)) .none kV49 dc49 pm49 an49 cd49 ct49), sl49⟩) (c49 : PySem.W.codeIn K cd49 "parts_of" = true) (k49 : PySem.W.keepIn K (.ref f49) = true)
    (a50 : PySem.W.nsIn K mainGlobals "factor_of" = some (some (.ref f50))) (l50 : K.lookup f50 = some ⟨oc50, od50, .func (PySem.W.fnOf "factor_of" "factor_of" (defArgs (topS 77)) (defBody (topS 77)) (defScope (topS 77)) .none kV50 dc50 pm50 an50 cd50 ct50), sl50⟩) (c50 : PySem.W.codeIn K cd50 "factor_of" = true) (k50 : PySem.W.keepIn K (.ref f50) = true)
    (a51 : PySem.W.nsIn K mainGlobals "step_pair" = some (some (.ref f51))) (l51 : K.lookup f51 = some ⟨oc51, od51, .func (PySem.W.fnOf "step_pair" "step_pair" (defArgs (topS 78)) (defBody (topS 78)) (defScope (topS 78)) .none kV51 dc51 pm51 an51 cd51 ct51), sl51⟩) (c51 : PySem.W.codeIn K cd51 "step_pair" = true) (k51 : PySem.W.keepIn K (.ref f51) = true)
    (a52 : PySem.W.nsIn K mainGlobals "frame_pairs" = some (some (.ref f52))) (l52 : K.lookup f52 = some ⟨oc52, od52, .func (PySem.W.fnOf "frame_pairs" "frame_pairs" (defArgs (topS 80)) (defBody (topS 80)) (defScope (topS 80)) .none kV52 dc52 pm52 an52 cd52 ct52), sl52⟩) (c52 : PySem.W.codeIn K cd52 "frame_pairs" = true) (k52 : PySem.W.keepIn K (.ref f52) = true)
    (a53 : PySem.W.nsIn K mainGlobals "find_ladder" = some (some (.ref f53))) (l53 : K.lookup f53 = some ⟨oc53, od53, .func (PySem.W.fnOf "find_ladder" "find_ladder" (defArgs (topS 81)) (defBody (topS 81)) (defScope (topS 81)) .none kV53 dc53 pm53 an53 cd53 ct53), sl53⟩) (c53 : PySem.W.codeIn K cd53 "find_ladder" = true) (k53 : PySem.W.keepIn K (.ref f53) = true)
    (a54 : PySem.W.nsIn K mainGlobals "number_of" = some (some (.ref f54))) (l54 : K.lookup f54 = some ⟨oc54, od54, .func (PySem.W.fnOf "number_of" "number_of" (defArgs (topS 82)) (defBody (topS 82)) (defScope (topS 82)) .none kV54 dc54 pm54 an54 cd54 ct54), sl54⟩) (c54 : PySem.W.codeIn K cd54 "number_of" = true) (k54 : PySem.W.keepIn K (.ref f54) = true)
    (a55 : PySem.W.nsIn K mainGlobals "need_term" = some (some (.ref f55))) (l55 : K.lookup f55 = some ⟨oc55, od55, .func (PySem.W.fnOf "need_term" "need_term" (defArgs (topS 83)) (defBody (topS 83)) (defScope (topS 83)) .none kV55 dc55 pm55 an55 cd55 ct55), sl55⟩) (c55 : PySem.W.codeIn K cd55 "need_term" = true) (k55 : PySem.W.keepIn K (.ref f55) = true)
    (a56 : PySem.W.nsIn K mainGlobals "ladder_of" = some (some (.ref f56))) (l56 : K.lookup f56 = some ⟨oc56, od56, .func (PySem.W.fnOf "ladder_of" "ladder_of" (defArgs (topS 84)) (defBody (topS 84)) (defScope (topS 84)) .none kV56 dc56 pm56 an56 cd56 ct56), sl56⟩) (c56 : PySem.W.codeIn K cd56 "ladder_of" = true) (k56 : PySem.W.keepIn K (.ref f56) = true)
    (a57 : PySem.W.nsIn K mainGlobals "numbers" = some (some (.ref f57))) (l57 : K.lookup f57 = some ⟨oc57, od57, .func (PySem.W.fnOf "numbers" "numbers" (defArgs (topS 85)) (defBody (topS 85)) (defScope (topS 85)) .none kV57 dc57 pm57 an57 cd57 ct57), sl57⟩) (c57 : PySem.W.codeIn K cd57 "numbers" = true) (k57 : PySem.W.keepIn K (.ref f57) = true)
    (a58 : PySem.W.nsIn K mainGlobals "mix_ladder" = some (some (.ref f58))) (l58 : K.lookup f58 = some ⟨oc58, od58, .func (PySem.W.fnOf "mix_ladder" "mix_ladder" (defArgs (topS 86)) (defBody (topS 86)) (defScope (topS 86)) .none kV58 dc58 pm58 an58 cd58 ct58), sl58⟩) (c58 : PySem.W.codeIn K cd58 "mix_ladder" = true) (k58 : PySem.W.keepIn K (.ref f58) = true)
    (a59 : PySem.W.nsIn K mainGlobals "law" = some (some (.ref f59))) (l59 : K.lookup f59 = some ⟨oc59, od59, .func (PySem.W.fnOf "law" "law" (defArgs (topS 88)) (defBody (topS 88)) (defScope (topS 88)) .none kV59 dc59 pm59 an59 cd59 ct59), sl59⟩) (c59 : PySem.W.codeIn K cd59 "law" = true) (k59 : PySem.W.keepIn K (.ref f59) = true)
    (z0 : PySem.W.nsIn K mainGlobals "len" = some none)
    (z1 : PySem.W.nsIn K mainGlobals "abs" = some none)
    (z2 : PySem.W.nsIn K mainGlobals "int" = some none)
    (z3 : PySem.W.nsIn K mainGlobals "list" = some none)
    (z4 : PySem.W.nsIn K mainGlobals "tuple" = some none)
    (z5 : PySem.W.nsIn K mainGlobals "all" = some none)
    (z6 : PySem.W.nsIn K mainGlobals "any" = some none)
    (z7 : PySem.W.nsIn K mainGlobals "sum" = some none)
    (z8 : PySem.W.nsIn K mainGlobals "isinstance" = some none)
    (z9 : PySem.W.nsIn K mainGlobals "bool" = some none)
    (z10 : PySem.W.nsIn K mainGlobals "str" = some none)
    (z11 : PySem.W.nsIn K mainGlobals "dict" = some none)
    (z12 : PySem.W.nsIn K mainGlobals "range" = some none)
    (z13 : PySem.W.nsIn K mainGlobals "enumerate" = some none)
    (z14 : PySem.W.nsIn K mainGlobals "zip" = some none)
    (x0 : PySem.W.nsIn K mainGlobals "NOUGHT" = some (some (.ref g0)))
    (y_g0 : K.lookup g0 = some ⟨.type "tuple", dd_g0, .seq [.int 0 t_g0_0, .int 1 t_g0_1].toArray nn_g0, ss_g0⟩)
    (x1 : PySem.W.nsIn K mainGlobals "WHOLE" = some (some (.ref g1)))
    (y_g1 : K.lookup g1 = some ⟨.type "tuple", dd_g1, .seq [.int 1 t_g1_0, .int 1 t_g1_1].toArray nn_g1, ss_g1⟩)
    (x2 : PySem.W.nsIn K mainGlobals "NONE" = some (some (.ref g2)))
    (y_g2 : K.lookup g2 = some ⟨.type "tuple", dd_g2, .seq [.ref g2_0, .ref g2_1].toArray nn_g2, ss_g2⟩)
    (y_g2_0 : K.lookup g2_0 = some ⟨.type "tuple", dd_g2_0, .seq [.int 0 t_g2_0_0, .int 1 t_g2_0_1].toArray nn_g2_0, ss_g2_0⟩)
    (y_g2_1 : K.lookup g2_1 = some ⟨.type "tuple", dd_g2_1, .seq [.int 0 t_g2_1_0, .int 1 t_g2_1_1].toArray nn_g2_1, ss_g2_1⟩)
    (x3 : PySem.W.nsIn K mainGlobals "MOST_PAIRS" = some (some (.int 80 t_x3)))
    (x4 : PySem.W.nsIn K mainGlobals "MOST_RUNGS" = some (some (.int 64 t_x4)))
    (x5 : PySem.W.nsIn K mainGlobals "MOST_CHAINED" = some (some (.int 16 t_x5)))
    (x6 : PySem.W.nsIn K mainGlobals "MOST_OUTCOMES" = some (some (.int 3 t_x6)))
    (x7 : PySem.W.nsIn K mainGlobals "MOST_MEMBERS" = some (some (.int 3 t_x7)))
    (x8 : PySem.W.nsIn K mainGlobals "MOST_STEPS" = some (some (.int 16 t_x8)))
    (x9 : PySem.W.nsIn K mainGlobals "MOST_PARTS" = some (some (.int 48 t_x9)))
    (x10 : PySem.W.nsIn K mainGlobals "MOST_TERMS" = some (some (.int 4 t_x10)))
    (x11 : PySem.W.nsIn K mainGlobals "MOST_MIX_PARTS" = some (some (.int 96 t_x11)))
    : ∃ fd : FuncData, (∀ (s : Shared) (v : Value), BindsTo s fd ⟨[v], []⟩ [("_law_script", v)]) ∧ ∀ base : Heap, K.In base → base.Ns mainGlobals mg → FnOk P w K mg base (L2.CX P w) 40 fa fd ["_law_script"] (spF ⟨K, fun _ => 0⟩ fs 40 556 1) := by
  have e : fa = f59 := by
    have z := hfa.symm.trans (PySem.W.mg_of X G a59)
    cases z
    rfl
  rw [e]
  have A0 : ∃ st a fd, FnAt K mg gt 60 f_is_integer st a fd := ⟨topS 12, f0, _, fun_mk (st := topS 12) l0 c0 k0, PySem.W.mg_of X G a0, (fun_mk (st := topS 12) l0 c0 k0).binds (ps := f_is_integer.ps) (fun _ _ _ _ _ _ us hl => match us, hl with | [_], _ => rfl), sc_is_integer, tr_is_integer⟩
  have A1 : ∃ st a fd, FnAt K mg gt 60 f_divisor_of st a fd := ⟨topS 13, f1, _, fun_mk (st := topS 13) l1 c1 k1, PySem.W.mg_of X G a1, (fun_mk (st := topS 13) l1 c1 k1).binds (ps := f_divisor_of.ps) (fun _ _ _ _ _ _ us hl => match us, hl with | [_, _], _ => rfl), sc_divisor_of, tr_divisor_of⟩
  have A2 : ∃ st a fd, FnAt K mg gt 60 f_is_fraction st a fd := ⟨topS 14, f2, _, fun_mk (st := topS 14) l2 c2 k2, PySem.W.mg_of X G a2, (fun_mk (st := topS 14) l2 c2 k2).binds (ps := f_is_fraction.ps) (fun _ _ _ _ _ _ us hl => match us, hl with | [_], _ => rfl), sc_is_fraction, tr_is_fraction⟩
  have A3 : ∃ st a fd, FnAt K mg gt 60 f_lowest st a fd := ⟨topS 15, f3, _, fun_mk (st := topS 15) l3 c3 k3, PySem.W.mg_of X G a3, (fun_mk (st := topS 15) l3 c3 k3).binds (ps := f_lowest.ps) (fun _ _ _ _ _ _ us hl => match us, hl with | [_, _], _ => rfl), sc_lowest, tr_lowest⟩
  have A4 : ∃ st a fd, FnAt K mg gt 60 f_add st a fd := ⟨topS 16, f4, _, fun_mk (st := topS 16) l4 c4 k4, PySem.W.mg_of X G a4, (fun_mk (st := topS 16) l4 c4 k4).binds (ps := f_add.ps) (fun _ _ _ _ _ _ us hl => match us, hl with | [_, _], _ => rfl), sc_add, tr_add⟩
  have A5 : ∃ st a fd, FnAt K mg gt 60 f_less st a fd := ⟨topS 17, f5, _, fun_mk (st := topS 17) l5 c5 k5, PySem.W.mg_of X G a5, (fun_mk (st := topS 17) l5 c5 k5).binds (ps := f_less.ps) (fun _ _ _ _ _ _ us hl => match us, hl with | [_, _], _ => rfl), sc_less, tr_less⟩
  have A6 : ∃ st a fd, FnAt K mg gt 60 f_mul st a fd := ⟨topS 18, f6, _, fun_mk (st := topS 18) l6 c6 k6, PySem.W.mg_of X G a6, (fun_mk (st := topS 18) l6 c6 k6).binds (ps := f_mul.ps) (fun _ _ _ _ _ _ us hl => match us, hl with | [_, _], _ => rfl), sc_mul, tr_mul⟩
  have A7 : ∃ st a fd, FnAt K mg gt 60 f_div st a fd := ⟨topS 19, f7, _, fun_mk (st := topS 19) l7 c7 k7, PySem.W.mg_of X G a7, (fun_mk (st := topS 19) l7 c7 k7).binds (ps := f_div.ps) (fun _ _ _ _ _ _ us hl => match us, hl with | [_, _], _ => rfl), sc_div, tr_div⟩
  have A8 : ∃ st a fd, FnAt K mg gt 60 f_order_of st a fd := ⟨topS 20, f8, _, fun_mk (st := topS 20) l8 c8 k8, PySem.W.mg_of X G a8, (fun_mk (st := topS 20) l8 c8 k8).binds (ps := f_order_of.ps) (fun _ _ _ _ _ _ us hl => match us, hl with | [_, _], _ => rfl), sc_order_of, tr_order_of⟩
  have A9 : ∃ st a fd, FnAt K mg gt 60 f_is_pair st a fd := ⟨topS 23, f9, _, fun_mk (st := topS 23) l9 c9 k9, PySem.W.mg_of X G a9, (fun_mk (st := topS 23) l9 c9 k9).binds (ps := f_is_pair.ps) (fun _ _ _ _ _ _ us hl => match us, hl with | [_], _ => rfl), sc_is_pair, tr_is_pair⟩
  have A10 : ∃ st a fd, FnAt K mg gt 60 f_turn_of st a fd := ⟨topS 24, f10, _, fun_mk (st := topS 24) l10 c10 k10, PySem.W.mg_of X G a10, (fun_mk (st := topS 24) l10 c10 k10).binds (ps := f_turn_of.ps) (fun _ _ _ _ _ _ us hl => match us, hl with | [_, _], _ => rfl), sc_turn_of, tr_turn_of⟩
  have A11 : ∃ st a fd, FnAt K mg gt 60 f_joined st a fd := ⟨topS 25, f11, _, fun_mk (st := topS 25) l11 c11 k11, PySem.W.mg_of X G a11, (fun_mk (st := topS 25) l11 c11 k11).binds (ps := f_joined.ps) (fun _ _ _ _ _ _ us hl => match us, hl with | [_, _], _ => rfl), sc_joined, tr_joined⟩
  have A12 : ∃ st a fd, FnAt K mg gt 60 f_spread_by st a fd := ⟨topS 26, f12, _, fun_mk (st := topS 26) l12 c12 k12, PySem.W.mg_of X G a12, (fun_mk (st := topS 26) l12 c12 k12).binds (ps := f_spread_by.ps) (fun _ _ _ _ _ _ us hl => match us, hl with | [_, _], _ => rfl), sc_spread_by, tr_spread_by⟩
  have A13 : ∃ st a fd, FnAt K mg gt 60 f_need_pairs st a fd := ⟨topS 27, f13, _, fun_mk (st := topS 27) l13 c13 k13, PySem.W.mg_of X G a13, (fun_mk (st := topS 27) l13 c13 k13).binds (ps := f_need_pairs.ps) (fun _ _ _ _ _ _ us hl => match us, hl with | [_], _ => rfl), sc_need_pairs, tr_need_pairs⟩
  have A14 : ∃ st a fd, FnAt K mg gt 60 f_need_list st a fd := ⟨topS 30, f14, _, fun_mk (st := topS 30) l14 c14 k14, PySem.W.mg_of X G a14, (fun_mk (st := topS 30) l14 c14 k14).binds (ps := f_need_list.ps) (fun _ _ _ _ _ _ us hl => match us, hl with | [_], _ => rfl), sc_need_list, tr_need_list⟩
  have A15 : ∃ st a fd, FnAt K mg gt 60 f_measure st a fd := ⟨topS 31, f15, _, fun_mk (st := topS 31) l15 c15 k15, PySem.W.mg_of X G a15, (fun_mk (st := topS 31) l15 c15 k15).binds (ps := f_measure.ps) (fun _ _ _ _ _ _ us hl => match us, hl with | [_, _], _ => rfl), sc_measure, tr_measure⟩
  have A16 : ∃ st a fd, FnAt K mg gt 60 f_is_along st a fd := ⟨topS 32, f16, _, fun_mk (st := topS 32) l16 c16 k16, PySem.W.mg_of X G a16, (fun_mk (st := topS 32) l16 c16 k16).binds (ps := f_is_along.ps) (fun _ _ _ _ _ _ us hl => match us, hl with | [_, _], _ => rfl), sc_is_along, tr_is_along⟩
  have A17 : ∃ st a fd, FnAt K mg gt 60 f_find_ends st a fd := ⟨topS 33, f17, _, fun_mk (st := topS 33) l17 c17 k17, PySem.W.mg_of X G a17, (fun_mk (st := topS 33) l17 c17 k17).binds (ps := f_find_ends.ps) (fun _ _ _ _ _ _ us hl => match us, hl with | [_], _ => rfl), sc_find_ends, tr_find_ends⟩
  have A18 : ∃ st a fd, FnAt K mg gt 60 f_find_witness st a fd := ⟨topS 34, f18, _, fun_mk (st := topS 34) l18 c18 k18, PySem.W.mg_of X G a18, (fun_mk (st := topS 34) l18 c18 k18).binds (ps := f_find_witness.ps) (fun _ _ _ _ _ _ us hl => match us, hl with | [_], _ => rfl), sc_find_witness, tr_find_witness⟩
  have A19 : ∃ st a fd, FnAt K mg gt 60 f_cross st a fd := ⟨topS 35, f19, _, fun_mk (st := topS 35) l19 c19 k19, PySem.W.mg_of X G a19, (fun_mk (st := topS 35) l19 c19 k19).binds (ps := f_cross.ps) (fun _ _ _ _ _ _ us hl => match us, hl with | [_, _], _ => rfl), sc_cross, tr_cross⟩
  have A20 : ∃ st a fd, FnAt K mg gt 60 f_opposite_of st a fd := ⟨topS 36, f20, _, fun_mk (st := topS 36) l20 c20 k20, PySem.W.mg_of X G a20, (fun_mk (st := topS 36) l20 c20 k20).binds (ps := f_opposite_of.ps) (fun _ _ _ _ _ _ us hl => match us, hl with | [_, _, _], _ => rfl), sc_opposite_of, tr_opposite_of⟩
  have A21 : ∃ st a fd, FnAt K mg gt 60 f_round_of st a fd := ⟨topS 37, f21, _, fun_mk (st := topS 37) l21 c21 k21, PySem.W.mg_of X G a21, (fun_mk (st := topS 37) l21 c21 k21).binds (ps := f_round_of.ps) (fun _ _ _ _ _ _ us hl => match us, hl with | [_, _], _ => rfl), sc_round_of, tr_round_of⟩
  have A22 : ∃ st a fd, FnAt K mg gt 60 f_find_ring st a fd := ⟨topS 38, f22, _, fun_mk (st := topS 38) l22 c22 k22, PySem.W.mg_of X G a22, (fun_mk (st := topS 38) l22 c22 k22).binds (ps := f_find_ring.ps) (fun _ _ _ _ _ _ us hl => match us, hl with | [_], _ => rfl), sc_find_ring, tr_find_ring⟩
  have A23 : ∃ st a fd, FnAt K mg gt 60 f_witness st a fd := ⟨topS 39, f23, _, fun_mk (st := topS 39) l23 c23 k23, PySem.W.mg_of X G a23, (fun_mk (st := topS 39) l23 c23 k23).binds (ps := f_witness.ps) (fun _ _ _ _ _ _ us hl => match us, hl with | [_], _ => rfl), sc_witness, tr_witness⟩
  have A24 : ∃ st a fd, FnAt K mg gt 60 f_ring st a fd := ⟨topS 40, f24, _, fun_mk (st := topS 40) l24 c24 k24, PySem.W.mg_of X G a24, (fun_mk (st := topS 40) l24 c24 k24).binds (ps := f_ring.ps) (fun _ _ _ _ _ _ us hl => match us, hl with | [_], _ => rfl), sc_ring, tr_ring⟩
  have A25 : ∃ st a fd, FnAt K mg gt 60 f_is_share st a fd := ⟨topS 41, f25, _, fun_mk (st := topS 41) l25 c25 k25, PySem.W.mg_of X G a25, (fun_mk (st := topS 41) l25 c25 k25).binds (ps := f_is_share.ps) (fun _ _ _ _ _ _ us hl => match us, hl with | [_, _], _ => rfl), sc_is_share, tr_is_share⟩
  have A26 : ∃ st a fd, FnAt K mg gt 60 f_is_ring st a fd := ⟨topS 42, f26, _, fun_mk (st := topS 42) l26 c26 k26, PySem.W.mg_of X G a26, (fun_mk (st := topS 42) l26 c26 k26).binds (ps := f_is_ring.ps) (fun _ _ _ _ _ _ us hl => match us, hl with | [_, _], _ => rfl), sc_is_ring, tr_is_ring⟩
  have A27 : ∃ st a fd, FnAt K mg gt 60 f_weights_left st a fd := ⟨topS 46, f27, _, fun_mk (st := topS 46) l27 c27 k27, PySem.W.mg_of X G a27, (fun_mk (st := topS 46) l27 c27 k27).binds (ps := f_weights_left.ps) (fun _ _ _ _ _ _ us hl => match us, hl with | [_], _ => rfl), sc_weights_left, tr_weights_left⟩
  have A28 : ∃ st a fd, FnAt K mg gt 60 f_are_rungs st a fd := ⟨topS 47, f28, _, fun_mk (st := topS 47) l28 c28 k28, PySem.W.mg_of X G a28, (fun_mk (st := topS 47) l28 c28 k28).binds (ps := f_are_rungs.ps) (fun _ _ _ _ _ _ us hl => match us, hl with | [_], _ => rfl), sc_are_rungs, tr_are_rungs⟩
  have A29 : ∃ st a fd, FnAt K mg gt 60 f_is_ladder st a fd := ⟨topS 48, f29, _, fun_mk (st := topS 48) l29 c29 k29, PySem.W.mg_of X G a29, (fun_mk (st := topS 48) l29 c29 k29).binds (ps := f_is_ladder.ps) (fun _ _ _ _ _ _ us hl => match us, hl with | [_], _ => rfl), sc_is_ladder, tr_is_ladder⟩
  have A30 : ∃ st a fd, FnAt K mg gt 60 f_need_ladder st a fd := ⟨topS 49, f30, _, fun_mk (st := topS 49) l30 c30 k30, PySem.W.mg_of X G a30, (fun_mk (st := topS 49) l30 c30 k30).binds (ps := f_need_ladder.ps) (fun _ _ _ _ _ _ us hl => match us, hl with | [_], _ => rfl), sc_need_ladder, tr_need_ladder⟩
  have A31 : ∃ st a fd, FnAt K mg gt 60 f_need_ladders st a fd := ⟨topS 50, f31, _, fun_mk (st := topS 50) l31 c31 k31, PySem.W.mg_of X G a31, (fun_mk (st := topS 50) l31 c31 k31).binds (ps := f_need_ladders.ps) (fun _ _ _ _ _ _ us hl => match us, hl with | [_], _ => rfl), sc_need_ladders, tr_need_ladders⟩
  have A32 : ∃ st a fd, FnAt K mg gt 60 f_sum_of_pays st a fd := ⟨topS 51, f32, _, fun_mk (st := topS 51) l32 c32 k32, PySem.W.mg_of X G a32, (fun_mk (st := topS 51) l32 c32 k32).binds (ps := f_sum_of_pays.ps) (fun _ _ _ _ _ _ us hl => match us, hl with | [_], _ => rfl), sc_sum_of_pays, tr_sum_of_pays⟩
  have A33 : ∃ st a fd, FnAt K mg gt 60 f_pays st a fd := ⟨topS 52, f33, _, fun_mk (st := topS 52) l33 c33 k33, PySem.W.mg_of X G a33, (fun_mk (st := topS 52) l33 c33 k33).binds (ps := f_pays.ps) (fun _ _ _ _ _ _ us hl => match us, hl with | [_], _ => rfl), sc_pays, tr_pays⟩
  have A34 : ∃ st a fd, FnAt K mg gt 60 f_chain st a fd := ⟨topS 53, f34, _, fun_mk (st := topS 53) l34 c34 k34, PySem.W.mg_of X G a34, (fun_mk (st := topS 53) l34 c34 k34).binds (ps := f_chain.ps) (fun _ _ _ _ _ _ us hl => match us, hl with | [_], _ => rfl), sc_chain, tr_chain⟩
  have A35 : ∃ st a fd, FnAt K mg gt 60 f_need_frame st a fd := ⟨topS 55, f35, _, fun_mk (st := topS 55) l35 c35 k35, PySem.W.mg_of X G a35, (fun_mk (st := topS 55) l35 c35 k35).binds (ps := f_need_frame.ps) (fun _ _ _ _ _ _ us hl => match us, hl with | [_], _ => rfl), sc_need_frame, tr_need_frame⟩
  have A36 : ∃ st a fd, FnAt K mg gt 60 f_merge st a fd := ⟨topS 56, f36, _, fun_mk (st := topS 56) l36 c36 k36, PySem.W.mg_of X G a36, (fun_mk (st := topS 56) l36 c36 k36).binds (ps := f_merge.ps) (fun _ _ _ _ _ _ us hl => match us, hl with | [_], _ => rfl), sc_merge, tr_merge⟩
  have A37 : ∃ st a fd, FnAt K mg gt 60 f_glued st a fd := ⟨topS 57, f37, _, fun_mk (st := topS 57) l37 c37 k37, PySem.W.mg_of X G a37, (fun_mk (st := topS 57) l37 c37 k37).binds (ps := f_glued.ps) (fun _ _ _ _ _ _ us hl => match us, hl with | [_, _], _ => rfl), sc_glued, tr_glued⟩
  have A38 : ∃ st a fd, FnAt K mg gt 60 f_foremost_of st a fd := ⟨topS 58, f38, _, fun_mk (st := topS 58) l38 c38 k38, PySem.W.mg_of X G a38, (fun_mk (st := topS 58) l38 c38 k38).binds (ps := f_foremost_of.ps) (fun _ _ _ _ _ _ us hl => match us, hl with | [_], _ => rfl), sc_foremost_of, tr_foremost_of⟩
  have A39 : ∃ st a fd, FnAt K mg gt 60 f_beside_one_another st a fd := ⟨topS 59, f39, _, fun_mk (st := topS 59) l39 c39 k39, PySem.W.mg_of X G a39, (fun_mk (st := topS 59) l39 c39 k39).binds (ps := f_beside_one_another.ps) (fun _ _ _ _ _ _ us hl => match us, hl with | [_], _ => rfl), sc_beside_one_another, tr_beside_one_another⟩
  have A40 : ∃ st a fd, FnAt K mg gt 60 f_shared st a fd := ⟨topS 60, f40, _, fun_mk (st := topS 60) l40 c40 k40, PySem.W.mg_of X G a40, (fun_mk (st := topS 60) l40 c40 k40).binds (ps := f_shared.ps) (fun _ _ _ _ _ _ us hl => match us, hl with | [_], _ => rfl), sc_shared, tr_shared⟩
  have A41 : ∃ st a fd, FnAt K mg gt 60 f_glue st a fd := ⟨topS 61, f41, _, fun_mk (st := topS 61) l41 c41 k41, PySem.W.mg_of X G a41, (fun_mk (st := topS 61) l41 c41 k41).binds (ps := f_glue.ps) (fun _ _ _ _ _ _ us hl => match us, hl with | [_, _], _ => rfl), sc_glue, tr_glue⟩
  have A42 : ∃ st a fd, FnAt K mg gt 60 f_side_by_side st a fd := ⟨topS 62, f42, _, fun_mk (st := topS 62) l42 c42 k42, PySem.W.mg_of X G a42, (fun_mk (st := topS 62) l42 c42 k42).binds (ps := f_side_by_side.ps) (fun _ _ _ _ _ _ us hl => match us, hl with | [_], _ => rfl), sc_side_by_side, tr_side_by_side⟩
  have A43 : ∃ st a fd, FnAt K mg gt 60 f_counts_together st a fd := ⟨topS 70, f43, _, fun_mk (st := topS 70) l43 c43 k43, PySem.W.mg_of X G a43, (fun_mk (st := topS 70) l43 c43 k43).binds (ps := f_counts_together.ps) (fun _ _ _ _ _ _ us hl => match us, hl with | [_], _ => rfl), sc_counts_together, tr_counts_together⟩
  have A44 : ∃ st a fd, FnAt K mg gt 60 f_is_outcome st a fd := ⟨topS 71, f44, _, fun_mk (st := topS 71) l44 c44 k44, PySem.W.mg_of X G a44, (fun_mk (st := topS 71) l44 c44 k44).binds (ps := f_is_outcome.ps) (fun _ _ _ _ _ _ us hl => match us, hl with | [_], _ => rfl), sc_is_outcome, tr_is_outcome⟩
  have A45 : ∃ st a fd, FnAt K mg gt 60 f_counts_of st a fd := ⟨topS 72, f45, _, fun_mk (st := topS 72) l45 c45 k45, PySem.W.mg_of X G a45, (fun_mk (st := topS 72) l45 c45 k45).binds (ps := f_counts_of.ps) (fun _ _ _ _ _ _ us hl => match us, hl with | [_], _ => rfl), sc_counts_of, tr_counts_of⟩
  have A46 : ∃ st a fd, FnAt K mg gt 60 f_is_term st a fd := ⟨topS 73, f46, _, fun_mk (st := topS 73) l46 c46 k46, PySem.W.mg_of X G a46, (fun_mk (st := topS 73) l46 c46 k46).binds (ps := f_is_term.ps) (fun _ _ _ _ _ _ us hl => match us, hl with | [_], _ => rfl), sc_is_term, tr_is_term⟩
  have A47 : ∃ st a fd, FnAt K mg gt 60 f_is_mix st a fd := ⟨topS 74, f47, _, fun_mk (st := topS 74) l47 c47 k47, PySem.W.mg_of X G a47, (fun_mk (st := topS 74) l47 c47 k47).binds (ps := f_is_mix.ps) (fun _ _ _ _ _ _ us hl => match us, hl with | [_], _ => rfl), sc_is_mix, tr_is_mix⟩
  have A48 : ∃ st a fd, FnAt K mg gt 60 f_within st a fd := ⟨topS 75, f48, _, fun_mk (st := topS 75) l48 c48 k48, PySem.W.mg_of X G a48, (fun_mk (st := topS 75) l48 c48 k48).binds (ps := f_within.ps) (fun _ _ _ _ _ _ us hl => match us, hl with | [_], _ => rfl), sc_within, tr_within⟩
  have A49 : ∃ st a fd, FnAt K mg gt 60 f_parts_of st a fd := ⟨topS 76, f49, _, fun_mk (st := topS 76) l49 c49 k49, PySem.W.mg_of X G a49, (fun_mk (st := topS 76) l49 c49 k49).binds (ps := f_parts_of.ps) (fun _ _ _ _ _ _ us hl => match us, hl with | [_], _ => rfl), sc_parts_of, tr_parts_of⟩
  have A50 : ∃ st a fd, FnAt K mg gt 60 f_factor_of st a fd := ⟨topS 77, f50, _, fun_mk (st := topS 77) l50 c50 k50, PySem.W.mg_of X G a50, (fun_mk (st := topS 77) l50 c50 k50).binds (ps := f_factor_of.ps) (fun _ _ _ _ _ _ us hl => match us, hl with | [_], _ => rfl), sc_factor_of, tr_factor_of⟩
  have A51 : ∃ st a fd, FnAt K mg gt 60 f_step_pair st a fd := ⟨topS 78, f51, _, fun_mk (st := topS 78) l51 c51 k51, PySem.W.mg_of X G a51, (fun_mk (st := topS 78) l51 c51 k51).binds (ps := f_step_pair.ps) (fun _ _ _ _ _ _ us hl => match us, hl with | [_], _ => rfl), sc_step_pair, tr_step_pair⟩
  have A52 : ∃ st a fd, FnAt K mg gt 60 f_frame_pairs st a fd := ⟨topS 80, f52, _, fun_mk (st := topS 80) l52 c52 k52, PySem.W.mg_of X G a52, (fun_mk (st := topS 80) l52 c52 k52).binds (ps := f_frame_pairs.ps) (fun _ _ _ _ _ _ us hl => match us, hl with | [_], _ => rfl), sc_frame_pairs, tr_frame_pairs⟩
  have A53 : ∃ st a fd, FnAt K mg gt 60 f_find_ladder st a fd := ⟨topS 81, f53, _, fun_mk (st := topS 81) l53 c53 k53, PySem.W.mg_of X G a53, (fun_mk (st := topS 81) l53 c53 k53).binds (ps := f_find_ladder.ps) (fun _ _ _ _ _ _ us hl => match us, hl with | [_], _ => rfl), sc_find_ladder, tr_find_ladder⟩
  have A54 : ∃ st a fd, FnAt K mg gt 60 f_number_of st a fd := ⟨topS 82, f54, _, fun_mk (st := topS 82) l54 c54 k54, PySem.W.mg_of X G a54, (fun_mk (st := topS 82) l54 c54 k54).binds (ps := f_number_of.ps) (fun _ _ _ _ _ _ us hl => match us, hl with | [_], _ => rfl), sc_number_of, tr_number_of⟩
  have A55 : ∃ st a fd, FnAt K mg gt 60 f_need_term st a fd := ⟨topS 83, f55, _, fun_mk (st := topS 83) l55 c55 k55, PySem.W.mg_of X G a55, (fun_mk (st := topS 83) l55 c55 k55).binds (ps := f_need_term.ps) (fun _ _ _ _ _ _ us hl => match us, hl with | [_], _ => rfl), sc_need_term, tr_need_term⟩
  have A56 : ∃ st a fd, FnAt K mg gt 60 f_ladder_of st a fd := ⟨topS 84, f56, _, fun_mk (st := topS 84) l56 c56 k56, PySem.W.mg_of X G a56, (fun_mk (st := topS 84) l56 c56 k56).binds (ps := f_ladder_of.ps) (fun _ _ _ _ _ _ us hl => match us, hl with | [_], _ => rfl), sc_ladder_of, tr_ladder_of⟩
  have A57 : ∃ st a fd, FnAt K mg gt 60 f_numbers st a fd := ⟨topS 85, f57, _, fun_mk (st := topS 85) l57 c57 k57, PySem.W.mg_of X G a57, (fun_mk (st := topS 85) l57 c57 k57).binds (ps := f_numbers.ps) (fun _ _ _ _ _ _ us hl => match us, hl with | [_], _ => rfl), sc_numbers, tr_numbers⟩
  have A58 : ∃ st a fd, FnAt K mg gt 60 f_mix_ladder st a fd := ⟨topS 86, f58, _, fun_mk (st := topS 86) l58 c58 k58, PySem.W.mg_of X G a58, (fun_mk (st := topS 86) l58 c58 k58).binds (ps := f_mix_ladder.ps) (fun _ _ _ _ _ _ us hl => match us, hl with | [_], _ => rfl), sc_mix_ladder, tr_mix_ladder⟩
  have A59 : ∃ st a fd, FnAt K mg gt 60 f_law st a fd := ⟨topS 88, f59, _, fun_mk (st := topS 88) l59 c59 k59, PySem.W.mg_of X G a59, (fun_mk (st := topS 88) l59 c59 k59).binds (ps := f_law.ps) (fun _ _ _ _ _ _ us hl => match us, hl with | [_], _ => rfl), sc_law, tr_law⟩
  have M : ModAt K mg gt fs ⟨K, fun _ => 0⟩ 60 := mod_at rfl (by decide) ⟨⟨_, .ref g0, PySem.W.mg_of X G x0, rfl, fun _ _ => (rep_tupK [.int 0, .int 1] y_g0 (.cons ⟨_, rfl⟩ (.cons ⟨_, rfl⟩ .nil)) (by show 2 ≤ sizeLine; decide) (.cons (.int _) (.cons (.int _) .nil)))⟩, ⟨⟨_, .ref g1, PySem.W.mg_of X G x1, rfl, fun _ _ => (rep_tupK [.int 1, .int 1] y_g1 (.cons ⟨_, rfl⟩ (.cons ⟨_, rfl⟩ .nil)) (by show 2 ≤ sizeLine; decide) (.cons (.int _) (.cons (.int _) .nil)))⟩, ⟨⟨_, .ref g2, PySem.W.mg_of X G x2, rfl, fun _ _ => (rep_tupK [.ref g2_0, .ref g2_1] y_g2 (.cons rfl (.cons rfl .nil)) (by show 2 ≤ sizeLine; decide) (.cons (rep_tupK [.int 0, .int 1] y_g2_0 (.cons ⟨_, rfl⟩ (.cons ⟨_, rfl⟩ .nil)) (by show 2 ≤ sizeLine; decide) (.cons (.int _) (.cons (.int _) .nil))) (.cons (rep_tupK [.int 0, .int 1] y_g2_1 (.cons ⟨_, rfl⟩ (.cons ⟨_, rfl⟩ .nil)) (by show 2 ≤ sizeLine; decide) (.cons (.int _) (.cons (.int _) .nil))) .nil)))⟩, ⟨⟨_, .int _, PySem.W.mg_of X G x3, ⟨_, rfl⟩, fun _ _ => .int _⟩, ⟨⟨_, .int _, PySem.W.mg_of X G x4, ⟨_, rfl⟩, fun _ _ => .int _⟩, ⟨⟨_, .int _, PySem.W.mg_of X G x5, ⟨_, rfl⟩, fun _ _ => .int _⟩, ⟨⟨_, .int _, PySem.W.mg_of X G x6, ⟨_, rfl⟩, fun _ _ => .int _⟩, ⟨⟨_, .int _, PySem.W.mg_of X G x7, ⟨_, rfl⟩, fun _ _ => .int _⟩, ⟨⟨_, .int _, PySem.W.mg_of X G x8, ⟨_, rfl⟩, fun _ _ => .int _⟩, ⟨⟨_, .int _, PySem.W.mg_of X G x9, ⟨_, rfl⟩, fun _ _ => .int _⟩, ⟨⟨_, .int _, PySem.W.mg_of X G x10, ⟨_, rfl⟩, fun _ _ => .int _⟩, ⟨⟨_, .int _, PySem.W.mg_of X G x11, ⟨_, rfl⟩, fun _ _ => .int _⟩, trivial⟩⟩⟩⟩⟩⟩⟩⟩⟩⟩⟩⟩ ⟨PySem.W.mg_none_of X G z0, ⟨PySem.W.mg_none_of X G z1, ⟨PySem.W.mg_none_of X G z2, ⟨PySem.W.mg_none_of X G z3, ⟨PySem.W.mg_none_of X G z4, ⟨PySem.W.mg_none_of X G z5, ⟨PySem.W.mg_none_of X G z6, ⟨PySem.W.mg_none_of X G z7, ⟨PySem.W.mg_none_of X G z8, ⟨PySem.W.mg_none_of X G z9, ⟨PySem.W.mg_none_of X G z10, ⟨PySem.W.mg_none_of X G z11, ⟨PySem.W.mg_none_of X G z12, ⟨PySem.W.mg_none_of X G z13, ⟨PySem.W.mg_none_of X G z14, trivial⟩⟩⟩⟩⟩⟩⟩⟩⟩⟩⟩⟩⟩⟩⟩ ⟨A0, ⟨A1, ⟨A2, ⟨A3, ⟨A4, ⟨A5, ⟨A6, ⟨A7, ⟨A8, ⟨A9, ⟨A10, ⟨A11, ⟨A12, ⟨A13, ⟨A14, ⟨A15, ⟨A16, ⟨A17, ⟨A18, ⟨A19, ⟨A20, ⟨A21, ⟨A22, ⟨A23, ⟨A24, ⟨A25, ⟨A26, ⟨A27, ⟨A28, ⟨A29, ⟨A30, ⟨A31, ⟨A32, ⟨A33, ⟨A34, ⟨A35, ⟨A36, ⟨A37, ⟨A38, ⟨A39, ⟨A40, ⟨A41, ⟨A42, ⟨A43, ⟨A44, ⟨A45, ⟨A46, ⟨A47, ⟨A48, ⟨A49, ⟨A50, ⟨A51, ⟨A52, ⟨A53, ⟨A54, ⟨A55, ⟨A56, ⟨A57, ⟨A58, ⟨A59, trivial⟩⟩⟩⟩⟩⟩⟩⟩⟩⟩⟩⟩⟩⟩⟩⟩⟩⟩⟩⟩⟩⟩⟩⟩⟩⟩⟩⟩⟩⟩⟩⟩⟩⟩⟩⟩⟩⟩⟩⟩⟩⟩⟩⟩⟩⟩⟩⟩⟩⟩⟩⟩⟩⟩⟩⟩⟩⟩⟩⟩
  have FL : FnAt K mg gt 60 f_law (topS 88) f59 _ := ⟨fun_mk (st := topS 88) l59 c59 k59, PySem.W.mg_of X G a59, (fun_mk (st := topS 88) l59 c59 k59).binds (ps := f_law.ps) (fun _ _ _ _ _ _ us hl => match us, hl with | [_], _ => rfl), sc_law, tr_law⟩
  exact ⟨_, fun s v => .of_eq rfl, fun base _ _ => fn_all M 40 f_law (by simp [fs]) _ _ _ FL⟩
end L_onenumber_k25_numbers_by_hand
open PySem PySem.W PyProof.Rows
set_option maxRecDepth 100000 in
set_option maxHeartbeats 0 in
theorem PySem.Challenge.cw_onenumber_k25_numbers_by_hand_holds : PySem.Challenge.rw_onenumber_k25_numbers_by_hand.Holds := by
  w_on; o_law; k_head; (case hw => w_witness2)
  k_fill
  refine L2.walk_of (l := PySem.Challenge.rw_onenumber_k25_numbers_by_hand) (n := 63) (k := 40) (x := "_law_script") (CX := fun w => L2.CX PySem.Challenge.pw_onenumber_k25_numbers_by_hand w) (sp := fun w => PD.spF ⟨_, fun _ => 0⟩ L_onenumber_k25_numbers_by_hand.fs 40 556 1) rfl (by decide) rfl ⟨rfl, by decide, by decide⟩ (fun w h Y => PySem.W.kIn_of Y) ?F (fun _ _ a ns hl hO hS => PD.law_post hO hS (L_onenumber_k25_numbers_by_hand.law_ok ns hl)) (fun _ _ _ _ _ h => PD.noCX h)
  case F =>
    intro w mg fa h KX G hmg
    refine' L_onenumber_k25_numbers_by_hand.all_mk KX G hmg ?a0 ?l0 ?c0 ?k0 ?a1 ?l1 ?c1 ?k1 ?a2 ?l2 ?c2 ?k2 ?a3 ?l3 ?c3 ?k3 ?a4 ?l4 ?c4 ?k4 ?a5 ?l5 ?c5 ?k5 ?a6 ?l6 ?c6 ?k6 ?a7 ?l7 ?c7 ?k7 ?a8 ?l8 ?c8 ?k8 ?a9 ?l9 ?c9 ?k9 ?a10 ?l10 ?c10 ?k10 ?a11 ?l11 ?c11 ?k11 ?a12 ?l12 ?c12 ?k12 ?a13 ?l13 ?c13 ?k13 ?a14 ?l14 ?c14 ?k14 ?a15 ?l15 ?c15 ?k15 ?a16 ?l16 ?c16 ?k16 ?a17 ?l17 ?c17 ?k17 ?a18 ?l18 ?c18 ?k18 ?a19 ?l19 ?c19 ?k19 ?a20 ?l20 ?c20 ?k20 ?a21 ?l21 ?c21 ?k21 ?a22 ?l22 ?c22 ?k22 ?a23 ?l23 ?c23 ?k23 ?a24 ?l24 ?c24 ?k24 ?a25 ?l25 ?c25 ?k25 ?a26 ?l26 ?c26 ?k26 ?a27 ?l27 ?c27 ?k27 ?a28 ?l28 ?c28 ?k28 ?a29 ?l29 ?c29 ?k29 ?a30 ?l30 ?c30 ?k30 ?a31 ?l31 ?c31 ?k31 ?a32 ?l32 ?c32 ?k32 ?a33 ?l33 ?c33 ?k33 ?a34 ?l34 ?c34 ?k34 ?a35 ?l35 ?c35 ?k35 ?a36 ?l36 ?c36 ?k36 ?a37 ?l37 ?c37 ?k37 ?a38 ?l38 ?c38 ?k38 ?a39 ?l39 ?c39 ?k39 ?a40 ?l40 ?c40 ?k40 ?a41 ?l41 ?c41 ?k41 ?a42 ?l42 ?c42 ?k42 ?a43 ?l43 ?c43 ?k43 ?a44 ?l44 ?c44 ?k44 ?a45 ?l45 ?c45 ?k45 ?a46 ?l46 ?c46 ?k46 ?a47 ?l47 ?c47 ?k47 ?a48 ?l48 ?c48 ?k48 ?a49 ?l49 ?c49 ?k49 ?a50 ?l50 ?c50 ?k50 ?a51 ?l51 ?c51 ?k51 ?a52 ?l52 ?c52 ?k52 ?a53 ?l53 ?c53 ?k53 ?a54 ?l54 ?c54 ?k54 ?a55 ?l55 ?c55 ?k55 ?a56 ?l56 ?c56 ?k56 ?a57 ?l57 ?c57 ?k57 ?a58 ?l58 ?c58 ?k58 ?a59 ?l59 ?c59 ?k59 ?z0 ?z1 ?z2 ?z3 ?z4 ?z5 ?z6 ?z7 ?z8 ?z9 ?z10 ?z11 ?z12 ?z13 ?z14 ?x0 ?y_g0 ?x1 ?y_g1 ?x2 ?y_g2 ?y_g2_0 ?y_g2_1 ?x3 ?x4 ?x5 ?x6 ?x7 ?x8 ?x9 ?x10 ?x11
    (case a0 => k_is)
    (case l0 => k_is)
    (case c0 => k_is)
    (case k0 => k_is)
    (case a1 => k_is)
    (case l1 => k_is)
    (case c1 => k_is)
    (case k1 => k_is)
    (case a2 => k_is)
    (case l2 => k_is)
    (case c2 => k_is)
    (case k2 => k_is)
    (case a3 => k_is)
    (case l3 => k_is)
    (case c3 => k_is)
    (case k3 => k_is)
    (case a4 => k_is)
    (case l4 => k_is)
    (case c4 => k_is)
    (case k4 => k_is)
    (case a5 => k_is)
    (case l5 => k_is)
    (case c5 => k_is)
    (case k5 => k_is)
    (case a6 => k_is)
    (case l6 => k_is)
    (case c6 => k_is)
    (case k6 => k_is)
    (case a7 => k_is)
    (case l7 => k_is)
    (case c7 => k_is)
    (case k7 => k_is)
    (case a8 => k_is)
    (case l8 => k_is)
    (case c8 => k_is)
    (case k8 => k_is)
    (case a9 => k_is)
    (case l9 => k_is)
    (case c9 => k_is)
    (case k9 => k_is)
    (case a10 => k_is)
    (case l10 => k_is)
    (case c10 => k_is)
    (case k10 => k_is)
    (case a11 => k_is)
    (case l11 => k_is)
    (case c11 => k_is)
    (case k11 => k_is)
    (case a12 => k_is)
    (case l12 => k_is)
    (case c12 => k_is)
    (case k12 => k_is)
    (case a13 => k_is)
    (case l13 => k_is)
    (case c13 => k_is)
    (case k13 => k_is)
    (case a14 => k_is)
    (case l14 => k_is)
    (case c14 => k_is)
    (case k14 => k_is)
    (case a15 => k_is)
    (case l15 => k_is)
    (case c15 => k_is)
    (case k15 => k_is)
    (case a16 => k_is)
    (case l16 => k_is)
    (case c16 => k_is)
    (case k16 => k_is)
    (case a17 => k_is)
    (case l17 => k_is)
    (case c17 => k_is)
    (case k17 => k_is)
    (case a18 => k_is)
    (case l18 => k_is)
    (case c18 => k_is)
    (case k18 => k_is)
    (case a19 => k_is)
    (case l19 => k_is)
    (case c19 => k_is)
    (case k19 => k_is)
    (case a20 => k_is)
    (case l20 => k_is)
    (case c20 => k_is)
    (case k20 => k_is)
    (case a21 => k_is)
    (case l21 => k_is)
    (case c21 => k_is)
    (case k21 => k_is)
    (case a22 => k_is)
    (case l22 => k_is)
    (case c22 => k_is)
    (case k22 => k_is)
    (case a23 => k_is)
    (case l23 => k_is)
    (case c23 => k_is)
    (case k23 => k_is)
    (case a24 => k_is)
    (case l24 => k_is)
    (case c24 => k_is)
    (case k24 => k_is)
    (case a25 => k_is)
    (case l25 => k_is)
    (case c25 => k_is)
    (case k25 => k_is)
    (case a26 => k_is)
    (case l26 => k_is)
    (case c26 => k_is)
    (case k26 => k_is)
    (case a27 => k_is)
    (case l27 => k_is)
    (case c27 => k_is)
    (case k27 => k_is)
    (case a28 => k_is)
    (case l28 => k_is)
    (case c28 => k_is)
    (case k28 => k_is)
    (case a29 => k_is)
    (case l29 => k_is)
    (case c29 => k_is)
    (case k29 => k_is)
    (case a30 => k_is)
    (case l30 => k_is)
    (case c30 => k_is)
    (case k30 => k_is)
    (case a31 => k_is)
    (case l31 => k_is)
    (case c31 => k_is)
    (case k31 => k_is)
    (case a32 => k_is)
    (case l32 => k_is)
    (case c32 => k_is)
    (case k32 => k_is)
    (case a33 => k_is)
    (case l33 => k_is)
    (case c33 => k_is)
    (case k33 => k_is)
    (case a34 => k_is)
    (case l34 => k_is)
    (case c34 => k_is)
    (case k34 => k_is)
    (case a35 => k_is)
    (case l35 => k_is)
    (case c35 => k_is)
    (case k35 => k_is)
    (case a36 => k_is)
    (case l36 => k_is)
    (case c36 => k_is)
    (case k36 => k_is)
    (case a37 => k_is)
    (case l37 => k_is)
    (case c37 => k_is)
    (case k37 => k_is)
    (case a38 => k_is)
    (case l38 => k_is)
    (case c38 => k_is)
    (case k38 => k_is)
    (case a39 => k_is)
    (case l39 => k_is)
    (case c39 => k_is)
    (case k39 => k_is)
    (case a40 => k_is)
    (case l40 => k_is)
    (case c40 => k_is)
    (case k40 => k_is)
    (case a41 => k_is)
    (case l41 => k_is)
    (case c41 => k_is)
    (case k41 => k_is)
    (case a42 => k_is)
    (case l42 => k_is)
    (case c42 => k_is)
    (case k42 => k_is)
    (case a43 => k_is)
    (case l43 => k_is)
    (case c43 => k_is)
    (case k43 => k_is)
    (case a44 => k_is)
    (case l44 => k_is)
    (case c44 => k_is)
    (case k44 => k_is)
    (case a45 => k_is)
    (case l45 => k_is)
    (case c45 => k_is)
    (case k45 => k_is)
    (case a46 => k_is)
    (case l46 => k_is)
    (case c46 => k_is)
    (case k46 => k_is)
    (case a47 => k_is)
    (case l47 => k_is)
    (case c47 => k_is)
    (case k47 => k_is)
    (case a48 => k_is)
    (case l48 => k_is)
    (case c48 => k_is)
    (case k48 => k_is)
    (case a49 => k_is)
    (case l49 => k_is)
    (case c49 => k_is)
    (case k49 => k_is)
    (case a50 => k_is)
    (case l50 => k_is)
    (case c50 => k_is)
    (case k50 => k_is)
    (case a51 => k_is)
    (case l51 => k_is)
    (case c51 => k_is)
    (case k51 => k_is)
    (case a52 => k_is)
    (case l52 => k_is)
    (case c52 => k_is)
    (case k52 => k_is)
    (case a53 => k_is)
    (case l53 => k_is)
    (case c53 => k_is)
    (case k53 => k_is)
    (case a54 => k_is)
    (case l54 => k_is)
    (case c54 => k_is)
    (case k54 => k_is)
    (case a55 => k_is)
    (case l55 => k_is)
    (case c55 => k_is)
    (case k55 => k_is)
    (case a56 => k_is)
    (case l56 => k_is)
    (case c56 => k_is)
    (case k56 => k_is)
    (case a57 => k_is)
    (case l57 => k_is)
    (case c57 => k_is)
    (case k57 => k_is)
    (case a58 => k_is)
    (case l58 => k_is)
    (case c58 => k_is)
    (case k58 => k_is)
    (case a59 => k_is)
    (case l59 => k_is)
    (case c59 => k_is)
    (case k59 => k_is)
    (case z0 => k_is)
    (case z1 => k_is)
    (case z2 => k_is)
    (case z3 => k_is)
    (case z4 => k_is)
    (case z5 => k_is)
    (case z6 => k_is)
    (case z7 => k_is)
    (case z8 => k_is)
    (case z9 => k_is)
    (case z10 => k_is)
    (case z11 => k_is)
    (case z12 => k_is)
    (case z13 => k_is)
    (case z14 => k_is)
    (case x0 => k_is)
    (case y_g0 => k_is)
    (case x1 => k_is)
    (case y_g1 => k_is)
    (case x2 => k_is)
    (case y_g2 => k_is)
    (case y_g2_0 => k_is)
    (case y_g2_1 => k_is)
    (case x3 => k_is)
    (case x4 => k_is)
    (case x5 => k_is)
    (case x6 => k_is)
    (case x7 => k_is)
    (case x8 => k_is)
    (case x9 => k_is)
    (case x10 => k_is)
    (case x11 => k_is)

