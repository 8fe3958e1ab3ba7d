import PyProof.Rows.All
import HandS.ForMost
import HandS.ForExc
import HandS.Wide
import HandS.IsInst
import HandS.Zip
import HandS.Style
import HandS.CallSlots
import HandS.TupAny
import PySem.Challenge.RW_onenumber_k06_whole_arithmetic
import Wide.All
import OpenK.AllK
import Wide.FinOn
set_option Elab.async false
set_option linter.all false
set_option maxRecDepth 100000
/-! Plain data, a small expression language and its evaluation. -/
namespace PD
open PySem

/-- plain data: tuples are values, lists stand in a heap -/
inductive D where
  | non | bl (b : Bool) | int (i : Int) | str (s : Str) | tup (ds : List D) | ref (n : Nat) | scr (ns : List Int)
inductive O where
  | lst (ds : List D)
abbrev Hh := List O
abbrev En := List (Option D)
inductive R (α : Type) where
  | ok (a : α) (h : Hh) | exc (c : Nat) (x : D) (h : Hh) | bad
def bnd {α β : Type} (r : R α) (f : α → Hh → R β) : R β := match r with
  | .ok a h => f a h
  | .exc c x h => .exc c x h
  | .bad => .bad
def optR {α β : Type} (o : Option α) (f : α → R β) : R β := match o with
  | some a => f a
  | none => .bad
theorem optR_some {α β : Type} (a : α) (f : α → R β) : optR (some a) f = f a := rfl
theorem optR_none {α β : Type} (f : α → R β) : optR none f = .bad := rfl
theorem bnd_ok {α β : Type} (a : α) (h : Hh) (f : α → Hh → R β) : bnd (.ok a h) f = f a h := rfl

inductive Bi where
  | len | abs | int | list | tuple | all | any | sum
  deriving DecidableEq
inductive Ty where
  | int | bool | str | tuple | list | dict
  deriving DecidableEq
mutual
inductive Ex where
  | con (d : D) | var (i : Nat) | tup (es : Exs) | lst (es : Exs)
  | bin (op : Operator) (a b : Ex) | neg (a : Ex) | not (a : Ex)
  | cmp (op : CmpOp) (a b : Ex) | chain (op op' : CmpOp) (a b c : Ex)
  | and (a b : Ex) | or (a b : Ex) | ite (c a b : Ex)
  | call (f : Nat) (es : Exs) | bi (b : Bi) (e : Ex) | isi (e : Ex) (t : Ty)
  | ix (a i : Ex) | sl (a : Ex) (lo hi : Ox)
  | comp (it : Ix) (t : Tg) (c e : Ex) (own : List Nat)
  | bad
inductive Exs where
  | nil | cons (e : Ex) (es : Exs)
inductive Ox where
  | none | some (e : Ex)
inductive Ix where
  | seq (e : Ex) | rng1 (a : Ex) | rng2 (a b : Ex) | enum (e : Ex) | zip (a b : Ex)
inductive Tg where
  | name (i : Nat) | tup (ts : Tgs) | sub (o i : Ex)
inductive Tgs where
  | nil | cons (t : Tg) (ts : Tgs)
end
inductive Sx where
  | asg (t : Tg) (e : Ex) | par (is : List Nat) (es : Exs) | aug (i : Nat) (op : Operator) (e : Ex) | expr (e : Ex) | ret (e : Ex) | retN
  | ife (c : Ex) (a b : Sx) | whl (c : Ex) (b : Sx) | for_ (it : Ix) (t : Tg) (b : Sx)
  | brk | cont | skip | seq (a b : Sx) | raise (c : Nat) (e : Ex) | bad

/-! ### operations -/
def lstOf (h : Hh) (n : Nat) : Option (List D) := match h[n]? with
  | some (.lst ds) => some ds
  | none => none
/-- a list's items: one of ours, or the script -/
def seqOf (h : Hh) : D → Option (List D)
  | .ref n => lstOf h n
  | .scr ns => some (ns.map .int)
  | _ => none
def allO {A B : Type} (f : A → Option B) : List A → Option (List B)
  | [] => some []
  | a :: as => match f a, allO f as with
    | some b, some bs => some (b :: bs)
    | _, _ => none
/-- what is to be compared: data through the heap -/
def toPy : Nat → Hh → D → Option PyData
  | 0, _, _ => none
  | _ + 1, _, .non => some .none
  | _ + 1, _, .bl b => some (.bool b)
  | _ + 1, _, .int i => some (.int i)
  | _ + 1, _, .str s => some (.str s)
  | n + 1, h, .tup ds => (allO (toPy n h) ds).map .tuple
  | n + 1, h, .ref a => (lstOf h a).bind fun ds => (allO (toPy n h) ds).map .list
  | _ + 1, _, .scr ns => some (.list (ns.map .int))
def eqD (h : Hh) (x y : D) : Option Bool := match toPy 66 h x, toPy 66 h y with
  | some a, some b => if (SeqAt.shaped a && SeqAt.shaped b) = true then some (PyData.eqv a b) else none
  | _, _ => none
def binOp : Operator → D → D → Hh → R D
  | .Add, .int a, .int b, h => .ok (.int (a + b)) h
  | .Sub, .int a, .int b, h => .ok (.int (a - b)) h
  | .Mult, .int a, .int b, h => if a.natAbs.log2 + b.natAbs.log2 < 1000000 then .ok (.int (a * b)) h else .bad
  | .FloorDiv, .int a, .int b, h => if b ≠ 0 ∧ b.natAbs.log2 < 9000 then .ok (.int (a.fdiv b)) h else .bad
  | .Mod, .int a, .int b, h => if b ≠ 0 then .ok (.int (a.fmod b)) h else .bad
  | .Pow, .int a, .int b, h => if 0 ≤ b ∧ b ≤ 1000000 ∧ a.natAbs < 2 ^ 64 then .ok (.int (a ^ b.toNat)) h else .bad
  | .Add, .str a, .str b, h => if a.length + b.length ≤ sizeLine then .ok (.str (a ++ b)) h else .bad
  | .Add, .tup a, .tup b, h => if a.length + b.length ≤ sizeLine then .ok (.tup (a ++ b)) h else .bad
  | .Add, .ref a, .ref b, h => optR (lstOf h a) fun x => optR (lstOf h b) fun y => if x.length + y.length ≤ sizeLine then .ok (.ref h.length) (h ++ [.lst (x ++ y)]) else .bad
  | _, _, _, _ => .bad
def isNon : D → Bool
  | .non => true
  | _ => false
def cmpOp : CmpOp → D → D → Hh → R D
  | .Lt, .int a, .int b, h => .ok (.bl (decide (a < b))) h
  | .LtE, .int a, .int b, h => .ok (.bl (decide (a ≤ b))) h
  | .Gt, .int a, .int b, h => .ok (.bl (decide (b < a))) h
  | .GtE, .int a, .int b, h => .ok (.bl (decide (b ≤ a))) h
  | .Eq, x, y, h => optR (eqD h x y) fun b => .ok (.bl b) h
  | .NotEq, x, y, h => optR (eqD h x y) fun b => .ok (.bl (!b)) h
  | .Is, x, .non, h => .ok (.bl (isNon x)) h
  | .IsNot, x, .non, h => .ok (.bl (!isNon x)) h
  | _, _, _, _ => .bad
def unNeg : D → Hh → R D
  | .int i, h => .ok (.int (-i)) h
  | _, _ => .bad
def ixOp : D → D → Hh → R D
  | .tup ds, .int i, h => optR (L2.atI ds i) fun d => .ok d h
  | x, .int i, h => optR ((seqOf h x).bind (fun ds => L2.atI ds i)) fun d => .ok d h
  | _, _, _ => .bad
def cutD (xs : List D) (lo hi : Option Int) : List D := (xs.drop (HT.sIx xs.length 0 lo)).take (HT.sIx xs.length xs.length hi - HT.sIx xs.length 0 lo)
def slOp : D → Option Int → Option Int → Hh → R D
  | .tup ds, lo, hi, h => .ok (.tup (cutD ds lo hi)) h
  | x, lo, hi, h => optR (seqOf h x) fun ds => .ok (.ref h.length) (h ++ [.lst (cutD ds lo hi)])
def boolsOf : List D → Option (List Bool)
  | [] => some []
  | .bl b :: r => (boolsOf r).map (b :: ·)
  | _ => none
def intsOf : List D → Option (List Int)
  | [] => some []
  | .int i :: r => (intsOf r).map (i :: ·)
  | _ => none
def biOp : Bi → D → Hh → R D
  | .len, .tup ds, h => .ok (.int ds.length) h
  | .len, x, h => optR (seqOf h x) fun ds => .ok (.int ds.length) h
  | .abs, .int i, h => .ok (.int (if i < 0 then -i else i)) h
  | .int, .int i, h => .ok (.int i) h
  | .int, .bl k, h => .ok (.int (if k then 1 else 0)) h
  | .list, .tup ds, h => .ok (.ref h.length) (h ++ [.lst ds])
  | .list, x, h => optR (seqOf h x) fun ds => .ok (.ref h.length) (h ++ [.lst ds])
  | .tuple, .tup ds, h => .ok (.tup ds) h
  | .tuple, x, h => optR (seqOf h x) fun ds => .ok (.tup ds) h
  | .all, x, h => optR ((seqOf h x).bind boolsOf) fun bs => .ok (.bl (bs.all id)) h
  | .any, x, h => optR ((seqOf h x).bind boolsOf) fun bs => .ok (.bl (bs.any id)) h
  | .sum, x, h => optR ((seqOf h x).bind intsOf) fun bs => .ok (.int bs.sum) h
  | _, _, _ => .bad
inductive Kd where
  | non | bool | int | str | tuple | list
def kd : D → Kd
  | .non => .non
  | .bl _ => .bool
  | .int _ => .int
  | .str _ => .str
  | .tup _ => .tuple
  | .ref _ => .list
  | .scr _ => .list
def isK : Ty → Kd → Bool
  | .int, .int => true
  | .int, .bool => true
  | .bool, .bool => true
  | .str, .str => true
  | .tuple, .tuple => true
  | .list, .list => true
  | _, _ => false
def isTy (t : Ty) (d : D) : Bool := isK t (kd d)
/-- iterables -/
inductive It where
  | tup (ds : List D) | lst (x : D) | rng (lo : Int) (k : Nat) | enum (x : D) | zip (a b : D)
/-- none: no answer; some none: the end -/
def It.next : It → Nat → Hh → Option (Option D)
  | .tup ds, i, _ => some ds[i]?
  | .lst x, i, h => (seqOf h x).map (·[i]?)
  | .rng lo k, i, _ => if i < k then some (some (.int (lo + i))) else some none
  | .enum x, i, h => (seqOf h x).map fun ds => ds[i]?.map fun d => .tup [.int i, d]
  | .zip a b, i, h => match seqOf h a, seqOf h b with
    | some x, some y => match x[i]?, y[i]? with
      | some d, some e => some (some (.tup [d, e]))
      | _, _ => some none
    | _, _ => none
def seqIt : D → Hh → R It
  | .tup ds, h => .ok (.tup ds) h
  | x, h => optR (seqOf h x) fun _ => .ok (.lst x) h
def enumIt (x : D) (h : Hh) : R It := optR (seqOf h x) fun _ => .ok (.enum x) h
def zipIt (x y : D) (h : Hh) : R It := optR (seqOf h x) fun _ => optR (seqOf h y) fun _ => .ok (.zip x y) h
def rngIt : Int → D → Hh → R It
  | lo, .int hi, h => if -(2 ^ 62) ≤ lo ∧ lo < 2 ^ 62 ∧ -(2 ^ 62) ≤ hi ∧ hi < 2 ^ 62 then .ok (.rng lo (hi - lo).toNat) h else .bad
  | _, _, _ => .bad
def toBool : D → Hh → R Bool
  | .bl b, h => .ok b h
  | _, _ => .bad
def toInt : D → Hh → R Int
  | .int b, h => .ok b h
  | _, _ => .bad
def setAt : D → D → D → Hh → R Unit
  | .ref n, .int k, v, h => optR (lstOf h n) fun ds => optR (L2.ixN ds.length k) fun j => .ok () (h.set n (.lst (ds.set j v)))
  | _, _, _, _ => .bad
def getE (en : En) (i : Nat) : Option D := match en[i]? with
  | some (some d) => some d
  | _ => none
def wipeE (en : En) : List Nat → En
  | [] => en
  | v :: vs => (wipeE en vs).set v none
/-- the turns of a comprehension -/
def compLoop (it : It) (body : D → Hh → R (Option D)) : Nat → Nat → List D → Hh → R (List D)
  | 0, _, _, _ => .bad
  | f + 1, i, acc, h => match it.next i h with
    | none => .bad
    | some none => .ok acc h
    | some (some d) => bnd (body d h) fun o h1 => match o with
      | none => compLoop it body f (i + 1) acc h1
      | some x => if acc.length < sizeLine then compLoop it body f (i + 1) (acc ++ [x]) h1 else .bad
/-- more turns than any loop takes -/
def turns : Nat := 1000000000000
def noExc {α : Type} : R α → R α
  | .exc _ _ _ => .bad
  | r => r
mutual
def ev (cl : Nat → List D → Hh → R D) : Ex → En → Hh → R D
  | .con d, _, h => .ok d h
  | .var i, en, h => optR (getE en i) fun d => .ok d h
  | .tup es, en, h => bnd (evs cl es en h) fun ds h1 => if ds.length ≤ sizeLine then .ok (.tup ds) h1 else .bad
  | .lst es, en, h => bnd (evs cl es en h) fun ds h1 => if ds.length ≤ sizeLine then .ok (.ref h1.length) (h1 ++ [.lst ds]) else .bad
  | .bin op a b, en, h => bnd (ev cl a en h) fun x h1 => bnd (ev cl b en h1) fun y h2 => binOp op x y h2
  | .neg a, en, h => bnd (ev cl a en h) unNeg
  | .not a, en, h => bnd (ev cl a en h) fun x h1 => bnd (toBool x h1) fun b h2 => .ok (.bl (!b)) h2
  | .cmp op a b, en, h => bnd (ev cl a en h) fun x h1 => bnd (ev cl b en h1) fun y h2 => cmpOp op x y h2
  | .chain op op' a b c, en, h => bnd (ev cl a en h) fun x h1 => bnd (ev cl b en h1) fun y h2 => bnd (cmpOp op x y h2) fun z h3 => bnd (toBool z h3) fun k h4 =>
      if k = true then bnd (ev cl c en h4) fun w h5 => cmpOp op' y w h5 else .ok (.bl false) h4
  | .and a b, en, h => bnd (ev cl a en h) fun x h1 => bnd (toBool x h1) fun k h2 => if k = true then ev cl b en h2 else .ok (.bl false) h2
  | .or a b, en, h => bnd (ev cl a en h) fun x h1 => bnd (toBool x h1) fun k h2 => if k = true then .ok (.bl true) h2 else ev cl b en h2
  | .ite c a b, en, h => bnd (test cl c en h) fun k h1 => if k = true then ev cl a en h1 else ev cl b en h1
  | .call f es, en, h => bnd (evs cl es en h) fun ds h1 => cl f ds h1
  | .bi b e, en, h => bnd (ev cl e en h) (biOp b)
  | .isi e t, en, h => bnd (ev cl e en h) fun x h1 => .ok (.bl (isTy t x)) h1
  | .ix a i, en, h => bnd (ev cl a en h) fun x h1 => bnd (ev cl i en h1) fun y h2 => ixOp x y h2
  | .sl a lo hi, en, h => bnd (ev cl a en h) fun x h1 => bnd (evo cl lo en h1) fun l h2 => bnd (evo cl hi en h2) fun u h3 => slOp x l u h3
  | .comp it t c e own, en, h => bnd (evi cl it en h) fun I h1 => bnd (noExc (compLoop I (fun d h2 => bnd (asgn cl t d (wipeE en own) h2) fun en3 h3 => bnd (test cl c en3 h3) fun k h4 =>
      if k = true then bnd (ev cl e en3 h4) fun y h5 => .ok (some y) h5 else .ok none h4) turns 0 [] h1)) fun ds h2 => .ok (.ref h2.length) (h2 ++ [.lst ds])
  | .bad, _, _ => .bad
def evs (cl : Nat → List D → Hh → R D) : Exs → En → Hh → R (List D)
  | .nil, _, h => .ok [] h
  | .cons e es, en, h => bnd (ev cl e en h) fun d h1 => bnd (evs cl es en h1) fun ds h2 => .ok (d :: ds) h2
def evo (cl : Nat → List D → Hh → R D) : Ox → En → Hh → R (Option Int)
  | .none, _, h => .ok none h
  | .some e, en, h => bnd (ev cl e en h) fun d h1 => bnd (toInt d h1) fun i h2 => .ok (some i) h2
def test (cl : Nat → List D → Hh → R D) : Ex → En → Hh → R Bool
  | .not a, en, h => bnd (test cl a en h) fun b h1 => .ok (!b) h1
  | .and a b, en, h => bnd (test cl a en h) fun k h1 => if k = true then test cl b en h1 else .ok false h1
  | .or a b, en, h => bnd (test cl a en h) fun k h1 => if k = true then .ok true h1 else test cl b en h1
  | .ite _ _ _, _, _ => .bad
  | e, en, h => bnd (ev cl e en h) toBool
def evi (cl : Nat → List D → Hh → R D) : Ix → En → Hh → R It
  | .seq e, en, h => bnd (ev cl e en h) seqIt
  | .rng1 a, en, h => bnd (ev cl a en h) fun x h1 => rngIt 0 x h1
  | .rng2 a b, en, h => bnd (ev cl a en h) fun x h1 => bnd (ev cl b en h1) fun y h2 => bnd (toInt x h2) fun lo h3 => rngIt lo y h3
  | .enum e, en, h => bnd (ev cl e en h) enumIt
  | .zip a b, en, h => bnd (ev cl a en h) fun x h1 => bnd (ev cl b en h1) fun y h2 => zipIt x y h2
def asgn (cl : Nat → List D → Hh → R D) : Tg → D → En → Hh → R En
  | .name i, d, en, h => .ok (en.set i (some d)) h
  | .tup ts, d, en, h => match d with
    | .tup ds => asgns cl ts ds en h
    | x => optR (seqOf h x) fun ds => asgns cl ts ds en h
  | .sub o i, d, en, h => bnd (ev cl o en h) fun x h1 => bnd (ev cl i en h1) fun y h2 => bnd (setAt x y d h2) fun _ h3 => .ok en h3
def asgns (cl : Nat → List D → Hh → R D) : Tgs → List D → En → Hh → R En
  | .nil, [], en, h => .ok en h
  | .cons t ts, d :: ds, en, h => bnd (asgn cl t d en h) fun en1 h1 => asgns cl ts ds en1 h1
  | _, _, _, _ => .bad
end
/-! ### statements -/
inductive RS where
  | nx (en : En) (h : Hh) | rt (d : D) (h : Hh) | bk (en : En) (h : Hh) | ct (en : En) (h : Hh) | exc (c : Nat) (x : D) (en : En) (h : Hh) | bad
def bndS {α : Type} (r : R α) (en : En) (f : α → Hh → RS) : RS := match r with
  | .ok a h => f a h
  | .exc c x h => .exc c x en h
  | .bad => .bad
def thenS (r : RS) (f : En → Hh → RS) : RS := match r with
  | .nx en h => f en h
  | r => r
def whileLoop (tst : En → Hh → R Bool) (body : En → Hh → RS) : Nat → En → Hh → RS
  | 0, _, _ => .bad
  | f + 1, en, h => bndS (tst en h) en fun k h1 => if k = true then
      (match body en h1 with
        | .nx en' h' => whileLoop tst body f en' h'
        | .ct en' h' => whileLoop tst body f en' h'
        | .bk en' h' => .nx en' h'
        | r => r)
    else .nx en h1
def forLoop (it : It) (asg : D → En → Hh → R En) (body : En → Hh → RS) : Nat → Nat → En → Hh → RS
  | 0, _, _, _ => .bad
  | f + 1, i, en, h => match it.next i h with
    | none => .bad
    | some none => .nx en h
    | some (some d) => bndS (noExc (asg d en h)) en fun en1 h1 =>
      match body en1 h1 with
        | .nx en' h' => forLoop it asg body f (i + 1) en' h'
        | .ct en' h' => forLoop it asg body f (i + 1) en' h'
        | .bk en' h' => .nx en' h'
        | r => r
def parSet : List Nat → List D → En → Option En
  | [], [], en => some en
  | i :: is, d :: ds, en => parSet is ds (en.set i (some d))
  | _, _, _ => none
def exec (cl : Nat → List D → Hh → R D) : Sx → En → Hh → RS
  | .asg t e, en, h => bndS (ev cl e en h) en fun d h1 => bndS (noExc (asgn cl t d en h1)) en fun en2 h2 => .nx en2 h2
  | .par is es, en, h => bndS (evs cl es en h) en fun ds h1 => match parSet is ds en with
    | some en' => .nx en' h1
    | none => .bad
  | .aug i op e, en, h => match en[i]? with
    | some (some x) => bndS (ev cl e en h) en fun y h1 => match op, x, y with
      | .Add, .int a, .int b => .nx (en.set i (some (.int (a + b)))) h1
      | .Sub, .int a, .int b => .nx (en.set i (some (.int (a - b)))) h1
      | _, _, _ => .bad
    | _ => .bad
  | .expr e, en, h => bndS (ev cl e en h) en fun _ h1 => .nx en h1
  | .ret e, en, h => bndS (ev cl e en h) en fun d h1 => .rt d h1
  | .retN, _, h => .rt .non h
  | .ife c a b, en, h => bndS (test cl c en h) en fun k h1 => if k = true then exec cl a en h1 else exec cl b en h1
  | .whl c b, en, h => whileLoop (test cl c) (exec cl b) turns en h
  | .for_ it t b, en, h => bndS (evi cl it en h) en fun I h1 => forLoop I (asgn cl t) (exec cl b) turns 0 en h1
  | .brk, en, h => .bk en h
  | .cont, en, h => .ct en h
  | .skip, en, h => .nx en h
  | .seq a b, en, h => thenS (exec cl a en h) (exec cl b)
  | .raise c e, en, h => bndS (ev cl e en h) en fun d h1 => .exc c d en h1
  | .bad, _, _ => .bad
structure Fn where
  id : Nat
  name : Str
  N : List Str
  ps : List Str
  body : Sx
def endOf : RS → R D
  | .nx _ h => .ok .non h
  | .rt d h => .ok d h
  | .exc c x _ h => .exc c x h
  | _ => .bad
def startE (N : List Str) (ds : List D) : En := ds.map some ++ List.replicate (N.length - ds.length) none
def fget (fs : List Fn) (i : Nat) : Option Fn := fs.find? fun f => f.id == i
def callF (fs : List Fn) : Nat → Nat → List D → Hh → R D
  | 0, _, _, _ => .bad
  | k + 1, i, ds, h => match fget fs i with
    | none => .bad
    | some f => if ds.length = f.ps.length then endOf (exec (callF fs k) f.body (startE f.N ds) h) else .bad
end PD

set_option Elab.async false
set_option linter.all false
set_option maxRecDepth 100000
/-! How plain data lie in the layer's heap. -/
namespace PD
open PySem PySem.Spec PyProof.Rows L2

structure Wd where
  K : PySem.W.Frag
  ca : Nat → Addr

/-- a list that nobody writes: the script -/
def RoL (K : PySem.W.Frag) (H : Hp) (a : Addr) (xs : List V) : Prop :=
  (∃ o, H a = some (.frz o (.lst xs))) ∨
    ∃ (o : Obj) (its : Array Value) (n : Nat), K.lookup a = some o ∧ o.cls = .type "list" ∧ o.dict = none ∧ o.data = .seq its n ∧ its.size ≤ sizeLine ∧ Vals xs its.toList
theorem RoL.sq {K : PySem.W.Frag} {H : Hp} {a : Addr} {xs : List V} (h : RoL K H a xs) : SqL K H a xs := by
  rcases h with h | h
  · exact .inl (.inr h)
  · exact .inr h
mutual
inductive Rep (K : PySem.W.Frag) (α : List Addr) (H : Hp) : D → V → Prop
  | non : Rep K α H .non .non
  | bl (b : Bool) : Rep K α H (.bl b) (.bl b)
  | int (i : Int) : Rep K α H (.int i) (.int i)
  | str (x : Str) : Rep K α H (.str x) (.str x)
  | tup {a : Addr} {vs : List V} {ds : List D} : SqT K H a vs → Reps K α H ds vs → Rep K α H (.tup ds) (.ref a)
  | ref {n : Nat} {a : Addr} : α[n]? = some a → Rep K α H (.ref n) (.ref a)
  | scr {ns : List Int} {a : Addr} : RoL K H a (ns.map V.int) → Rep K α H (.scr ns) (.ref a)
inductive Reps (K : PySem.W.Frag) (α : List Addr) (H : Hp) : List D → List V → Prop
  | nil : Reps K α H [] []
  | cons {d : D} {ds : List D} {v : V} {vs : List V} : Rep K α H d v → Reps K α H ds vs → Reps K α H (d :: ds) (v :: vs)
end

structure Ext (K : PySem.W.Frag) (α : List Addr) (H : Hp) (α' : List Addr) (H' : Hp) : Prop where
  pre : ∃ β, α' = α ++ β
  tup : ∀ a xs, SqT K H a xs → SqT K H' a xs
  ro : ∀ a xs, RoL K H a xs → RoL K H' a xs
structure Step (K : PySem.W.Frag) (α : List Addr) (H : Hp) (α' : List Addr) (H' : Hp) : Prop extends Ext K α H α' H' where
  new : ∀ a, a ∈ α' → a ∈ α ∨ H a = none
  frm : ∀ a o, a ∉ α → H a = some o → H' a = some o
theorem Step.refl {K : PySem.W.Frag} {α : List Addr} {H : Hp} : Step K α H α H := ⟨⟨⟨[], by simp⟩, fun _ _ h => h, fun _ _ h => h⟩, fun _ h => .inl h, fun _ _ _ h => h⟩
theorem Step.trans {K : PySem.W.Frag} {α α1 α2 : List Addr} {H H1 H2 : Hp} (a : Step K α H α1 H1) (b : Step K α1 H1 α2 H2) : Step K α H α2 H2 := by
  refine ⟨⟨?_, fun x xs h => b.tup _ _ (a.tup _ _ h), fun x xs h => b.ro _ _ (a.ro _ _ h)⟩, fun x hx => ?_, fun x o hx e => ?_⟩
  · obtain ⟨β, rfl⟩ := a.pre
    obtain ⟨γ, rfl⟩ := b.pre
    exact ⟨β ++ γ, by simp⟩
  · rcases b.new x hx with h | h
    · exact a.new x h
    · by_cases hm : x ∈ α
      · exact .inl hm
      · cases q : H x with
        | none => exact .inr rfl
        | some o =>
          rw [a.frm x o hm q] at h
          cases h
  · refine b.frm x o (fun hm => ?_) (a.frm x o hx e)
    rcases a.new x hm with h | h
    · exact hx h
    · rw [h] at e; cases e
theorem Ext.at {K : PySem.W.Frag} {α α1 : List Addr} {H H1 : Hp} (a : Ext K α H α1 H1) {n : Nat} {x : Addr} (h : α[n]? = some x) : α1[n]? = some x := by
  obtain ⟨β, rfl⟩ := a.pre
  have hn : n < α.length := (List.getElem?_eq_some_iff.mp h).1
  rw [List.getElem?_append_left hn]
  exact h
section
variable {K : PySem.W.Frag} {α α1 : List Addr} {H H1 : Hp}
mutual
theorem Rep.monoE (a : Ext K α H α1 H1) : ∀ {d : D} {v : V}, Rep K α H d v → Rep K α1 H1 d v
  | _, _, .non => .non
  | _, _, .bl b => .bl b
  | _, _, .int i => .int i
  | _, _, .str x => .str x
  | _, _, .tup h r => .tup (a.tup _ _ h) (Reps.monoE a r)
  | _, _, .ref h => .ref (a.at h)
  | _, _, .scr h => .scr (a.ro _ _ h)
theorem Reps.monoE (a : Ext K α H α1 H1) : ∀ {ds : List D} {vs : List V}, Reps K α H ds vs → Reps K α1 H1 ds vs
  | _, _, .nil => .nil
  | _, _, .cons r rs => .cons (Rep.monoE a r) (Reps.monoE a rs)
end
theorem Rep.mono (a : Step K α H α1 H1) {d : D} {v : V} (r : Rep K α H d v) : Rep K α1 H1 d v := r.monoE a.toExt
theorem Reps.mono (a : Step K α H α1 H1) {ds : List D} {vs : List V} (r : Reps K α H ds vs) : Reps K α1 H1 ds vs := r.monoE a.toExt
theorem Reps.length : ∀ {ds : List D} {vs : List V}, Reps K α H ds vs → ds.length = vs.length
  | _, _, .nil => rfl
  | _, _, .cons _ rs => by rw [List.length_cons, List.length_cons, Reps.length rs]
theorem Reps.get : ∀ {ds : List D} {vs : List V} {i : Nat} {d : D}, Reps K α H ds vs → ds[i]? = some d → ∃ v, vs[i]? = some v ∧ Rep K α H d v
  | _, _, _, _, .nil, h => by simp at h
  | _, _, 0, _, .cons r _, h => by simp at h; subst h; exact ⟨_, rfl, r⟩
  | _, _, i + 1, d, .cons _ rs, h => by
    obtain ⟨v, e, q⟩ := Reps.get (i := i) (d := d) rs (by simpa using h)
    exact ⟨v, by simpa using e, q⟩
theorem Reps.getV : ∀ {ds : List D} {vs : List V} {i : Nat} {v : V}, Reps K α H ds vs → vs[i]? = some v → ∃ d, ds[i]? = some d ∧ Rep K α H d v
  | _, _, _, _, .nil, h => by simp at h
  | _, _, 0, _, .cons r _, h => by simp at h; subst h; exact ⟨_, rfl, r⟩
  | _, _, i + 1, v, .cons _ rs, h => by
    obtain ⟨d, e, q⟩ := Reps.getV (i := i) (v := v) rs (by simpa using h)
    exact ⟨d, by simpa using e, q⟩
theorem Reps.append : ∀ {ds ds' : List D} {vs vs' : List V}, Reps K α H ds vs → Reps K α H ds' vs' → Reps K α H (ds ++ ds') (vs ++ vs')
  | _, _, _, _, .nil, h => h
  | _, _, _, _, .cons r rs, h => .cons r (Reps.append rs h)
theorem Reps.set {d : D} {v : V} (r : Rep K α H d v) : ∀ {ds : List D} {vs : List V} (i : Nat), Reps K α H ds vs → Reps K α H (ds.set i d) (vs.set i v)
  | _, _, _, .nil => .nil
  | _, _, 0, .cons _ t => .cons r t
  | _, _, i + 1, .cons q t => .cons q (Reps.set r i t)
theorem Reps.take : ∀ {ds : List D} {vs : List V} (n : Nat), Reps K α H ds vs → Reps K α H (ds.take n) (vs.take n)
  | _, _, 0, _ => .nil
  | _, _, _ + 1, .nil => .nil
  | _, _, n + 1, .cons r t => .cons r (Reps.take n t)
theorem Reps.drop : ∀ {ds : List D} {vs : List V} (n : Nat), Reps K α H ds vs → Reps K α H (ds.drop n) (vs.drop n)
  | _, _, 0, r => r
  | _, _, _ + 1, .nil => .nil
  | _, _, n + 1, .cons _ t => Reps.drop n t
theorem Reps.cut {ds : List D} {vs : List V} (r : Reps K α H ds vs) (lo hi : Option Int) : Reps K α H (cutD ds lo hi) (cutV vs lo hi) := by
  unfold cutD cutV
  rw [r.length]
  exact (r.drop _).take _
theorem Reps.atI {ds : List D} {vs : List V} {i : Int} {d : D} (r : Reps K α H ds vs) (h : L2.atI ds i = some d) : ∃ v, L2.atI vs i = some v ∧ Rep K α H d v := by
  unfold L2.atI at h ⊢
  rw [← r.length]
  cases q : ixN ds.length i with
  | none => rw [q] at h; cases h
  | some j =>
    rw [q] at h
    exact r.get h
theorem nodup_at : ∀ {l : List Addr} {i j : Nat} {x : Addr}, l.Nodup → l[i]? = some x → l[j]? = some x → i = j
  | [], _, _, _, _, h, _ => by simp at h
  | y :: l, 0, 0, _, _, _, _ => rfl
  | y :: l, 0, j + 1, x, nd, h1, h2 => by
    simp at h1 h2; subst h1
    exact absurd (List.mem_of_getElem? h2) (List.nodup_cons.mp nd).1
  | y :: l, i + 1, 0, x, nd, h1, h2 => by
    simp at h1 h2; subst h2
    exact absurd (List.mem_of_getElem? h1) (List.nodup_cons.mp nd).1
  | y :: l, i + 1, j + 1, x, nd, h1, h2 => by
    simp at h1 h2
    rw [nodup_at (List.nodup_cons.mp nd).2 h1 h2]
/-- one object -/
def OR (K : PySem.W.Frag) (α : List Addr) (H : Hp) (a : Addr) : O → Prop
  | .lst ds => ∃ vs, H a = some (.lst vs) ∧ Reps K α H ds vs
structure HR (K : PySem.W.Frag) (α : List Addr) (h : Hh) (H : Hp) : Prop where
  len : α.length = h.length
  nd : α.Nodup
  obj : ∀ (n : Nat) (a : Addr) (o : O), α[n]? = some a → h[n]? = some o → OR K α H a o
variable {h : Hh}
theorem HR.lst (r : HR K α h H) {n : Nat} {a : Addr} {ds : List D} (ha : α[n]? = some a) (hl : h[n]? = some (.lst ds)) : ∃ vs, H a = some (.lst vs) ∧ Reps K α H ds vs := r.obj n a _ ha hl
theorem lstOf_some {h : Hh} {n : Nat} {ds : List D} (hl : lstOf h n = some ds) : h[n]? = some (.lst ds) := by
  unfold lstOf at hl
  cases q : h[n]? with
  | none => rw [q] at hl; cases hl
  | some o => rw [q] at hl; cases o; cases hl; rfl
theorem reps_ints : ∀ ns : List Int, Reps K α H (ns.map D.int) (ns.map V.int)
  | [] => .nil
  | i :: r => .cons (.int i) (reps_ints r)
theorem HR.seq (r : HR K α h H) {x : D} {v : V} {ds : List D} (rx : Rep K α H x v) (hl : seqOf h x = some ds) : ∃ a vs, v = .ref a ∧ SqL K H a vs ∧ Reps K α H ds vs := by
  cases rx with
  | ref ha =>
    obtain ⟨vs, e, w⟩ := r.lst ha (lstOf_some hl)
    exact ⟨_, vs, rfl, .inl (.inl e), w⟩
  | scr hs =>
    cases hl
    exact ⟨_, _, rfl, hs.sq, reps_ints _⟩
  | _ => cases hl
theorem upd_ro {p a : Addr} {o : HO} {xs : List V} (hp : H p = none) (s : RoL K H a xs) : RoL K (upd H p o) a xs := by
  rcases s with ⟨u, s⟩ | s
  · exact .inl ⟨u, by rw [upd_ne (ne_of_none s hp)]; exact s⟩
  · exact .inr s
theorem upd_sqT {p a : Addr} {o : HO} {xs : List V} (hp : H p = none) (s : SqT K H a xs) : SqT K (upd H p o) a xs := by
  rcases s with (s | ⟨u, s⟩) | s
  · exact .inl (.inl (by rw [upd_ne (ne_of_none s hp)]; exact s))
  · exact .inl (.inr ⟨u, by rw [upd_ne (ne_of_none s hp)]; exact s⟩)
  · exact .inr s
theorem upd_sqL {p a : Addr} {o : HO} {xs : List V} (hp : H p = none) (s : SqL K H a xs) : SqL K (upd H p o) a xs := by
  rcases s with (s | ⟨u, s⟩) | s
  · exact .inl (.inl (by rw [upd_ne (ne_of_none s hp)]; exact s))
  · exact .inl (.inr ⟨u, by rw [upd_ne (ne_of_none s hp)]; exact s⟩)
  · exact .inr s
theorem upd_sqL' {p a : Addr} {o : HO} {xs : List V} (hp : a ≠ p) (s : SqL K H a xs) : SqL K (upd H p o) a xs := by
  rcases s with (s | ⟨u, s⟩) | s
  · exact .inl (.inl (by rw [upd_ne hp]; exact s))
  · exact .inl (.inr ⟨u, by rw [upd_ne hp]; exact s⟩)
  · exact .inr s
/-- something new that is not one of ours -/
theorem Step.other {p : Addr} {o : HO} (hp : H p = none) : Step K α H α (upd H p o) :=
  ⟨⟨⟨[], by simp⟩, fun _ _ s => upd_sqT hp s, fun _ _ s => upd_ro hp s⟩, fun _ h => .inl h, fun a u _ e => by rw [upd_ne (ne_of_none e hp)]; exact e⟩
theorem OR.mono {α' : List Addr} {H' : Hp} {a : Addr} {o : O} (s : Ext K α H α' H') (k1 : ∀ vs, H a = some (.lst vs) → H' a = some (.lst vs)) (x : OR K α H a o) : OR K α' H' a o := by
  cases o with
  | lst ds => obtain ⟨vs, e, r⟩ := x; exact ⟨vs, k1 _ e, r.monoE s⟩
theorem HR.other {p : Addr} {o : HO} (r : HR K α h H) (hp : H p = none) : HR K α h (upd H p o) :=
  ⟨r.len, r.nd, fun n a u ha hu => (r.obj n a u ha hu).mono (Step.other hp).toExt (fun vs e => by rw [upd_ne (ne_of_none e hp)]; exact e)⟩
/-- a new list of ours -/
theorem Step.new' {p : Addr} {vs : List V} (hp : H p = none) : Step K α H (α ++ [p]) (upd H p (.lst vs)) :=
  ⟨⟨⟨[p], rfl⟩, fun _ _ s => upd_sqT hp s, fun _ _ s => upd_ro hp s⟩, fun a ha => by
    rcases List.mem_append.mp ha with h | h
    · exact .inl h
    · rw [List.mem_singleton] at h; subst h; exact .inr hp, fun a u _ e => by rw [upd_ne (ne_of_none e hp)]; exact e⟩
theorem HR.fresh {p : Addr} (r : HR K α h H) (hp : H p = none) : p ∉ α := fun hm => by
  obtain ⟨n, hn⟩ := List.mem_iff_getElem?.mp hm
  have hl : n < h.length := by rw [← r.len]; exact (List.getElem?_eq_some_iff.mp hn).1
  have x := r.obj n p _ hn (List.getElem?_eq_getElem hl)
  cases q : h[n] with
  | lst ds =>
    rw [q] at x
    obtain ⟨vs, e, _⟩ := x
    rw [hp] at e
    cases e
/-- a new list -/
theorem HR.new {p : Addr} {ds : List D} {vs : List V} (r : HR K α h H) (hp : H p = none) (rs : Reps K α H ds vs) : HR K (α ++ [p]) (h ++ [.lst ds]) (upd H p (.lst vs)) := by
  have st : Step K α H (α ++ [p]) (upd H p (.lst vs)) := Step.new' hp
  have hq : p ∉ α := r.fresh hp
  refine ⟨by simp [r.len], ?_, fun n a u ha hu => ?_⟩
  · rw [List.nodup_append]
    refine ⟨r.nd, by simp, fun a ha b hb => ?_⟩
    rw [List.mem_singleton] at hb
    subst hb
    exact fun e => hq (e ▸ ha)
  · by_cases hn : n < α.length
    · rw [List.getElem?_append_left hn] at ha
      rw [List.getElem?_append_left (by rw [← r.len]; exact hn)] at hu
      exact (r.obj n a u ha hu).mono st.toExt (fun vs e => by rw [upd_ne (ne_of_none e hp)]; exact e)
    · have hn' : n = α.length := by
        have := (List.getElem?_eq_some_iff.mp ha).1
        rw [List.length_append, List.length_singleton] at this
        omega
      subst hn'
      rw [List.getElem?_append_right (Nat.le_refl _), Nat.sub_self] at ha
      rw [r.len, List.getElem?_append_right (Nat.le_refl _), Nat.sub_self] at hu
      cases ha
      cases hu
      exact ⟨vs, upd_same, rs.mono st⟩
theorem ext_over {p : Addr} {vs vs' : List V} (hp : H p = some (.lst vs)) : Ext K α H α (upd H p (.lst vs')) := by
  refine ⟨⟨[], by simp⟩, fun a xs s => ?_, fun a xs s => ?_⟩
  · rcases s with (s | ⟨u, s⟩) | s
    · have : a ≠ p := fun z => by subst z; rw [hp] at s; cases s
      exact .inl (.inl (by rw [upd_ne this]; exact s))
    · have : a ≠ p := fun z => by subst z; rw [hp] at s; cases s
      exact .inl (.inr ⟨u, by rw [upd_ne this]; exact s⟩)
    · exact .inr s
  · rcases s with ⟨u, s⟩ | s
    · have : a ≠ p := fun z => by subst z; rw [hp] at s; cases s
      exact .inl ⟨u, by rw [upd_ne this]; exact s⟩
    · exact .inr s
theorem Step.set {p : Addr} {vs vs' : List V} (hp : H p = some (.lst vs)) (hm : p ∈ α) : Step K α H α (upd H p (.lst vs')) := by
  refine ⟨ext_over hp, fun _ h => .inl h, fun a u ha e => ?_⟩
  rw [upd_ne (fun (z : a = p) => ha (by rw [z]; exact hm))]; exact e
/-- something that was not there at first is changed -/
theorem Step.over {p : Addr} {H' : Hp} {α' : List Addr} {vs vs' : List V} (st : Step K α H α' H') (h0 : H p = none) (hp : H' p = some (.lst vs)) : Step K α H α' (upd H' p (.lst vs')) := by
  have e := ext_over (K := K) (α := α') (vs' := vs') hp
  refine ⟨⟨st.pre, fun a xs s => e.tup _ _ (st.tup _ _ s), fun a xs s => e.ro _ _ (st.ro _ _ s)⟩, st.new, fun a u ha q => ?_⟩
  rw [upd_ne (ne_of_none q h0)]
  exact st.frm a u ha q
theorem HR.over {p : Addr} {vs vs' : List V} (r : HR K α h H) (hp : H p = some (.lst vs)) (hn : p ∉ α) : HR K α h (upd H p (.lst vs')) :=
  ⟨r.len, r.nd, fun n a u ha hu => (r.obj n a u ha hu).mono (ext_over hp) (fun vs e => by
    rw [upd_ne (fun (z : a = p) => hn (by rw [← z]; exact List.mem_of_getElem? ha))]
    exact e)⟩
/-- what stands is taken as one of ours -/
theorem HR.adopt {p : Addr} {vs : List V} {ds : List D} (r : HR K α h H) (hp : H p = some (.lst vs)) (hn : p ∉ α) (rs : Reps K α H ds vs) : HR K (α ++ [p]) (h ++ [.lst ds]) H := by
  have st : Ext K α H (α ++ [p]) H := ⟨⟨[p], rfl⟩, fun _ _ s => s, fun _ _ s => s⟩
  refine ⟨by simp [r.len], ?_, fun n a u ha hu => ?_⟩
  · rw [List.nodup_append]
    refine ⟨r.nd, by simp, fun a ha b hb => ?_⟩
    rw [List.mem_singleton] at hb
    subst hb
    exact fun e => hn (e ▸ ha)
  · by_cases hl : n < α.length
    · rw [List.getElem?_append_left hl] at ha
      rw [List.getElem?_append_left (by rw [← r.len]; exact hl)] at hu
      exact (r.obj n a u ha hu).mono st (fun vs e => e)
    · have hn' : n = α.length := by
        have := (List.getElem?_eq_some_iff.mp ha).1
        rw [List.length_append, List.length_singleton] at this
        omega
      subst hn'
      rw [List.getElem?_append_right (Nat.le_refl _), Nat.sub_self] at ha
      rw [r.len, List.getElem?_append_right (Nat.le_refl _), Nat.sub_self] at hu
      cases ha
      cases hu
      exact ⟨vs, hp, rs.monoE st⟩
theorem HR.set {n : Nat} {p : Addr} {vs vs' : List V} {ds' : List D} (r : HR K α h H) (ha : α[n]? = some p) (hp : H p = some (.lst vs)) (rs : Reps K α H ds' vs') : HR K α (h.set n (.lst ds')) (upd H p (.lst vs')) := by
  have hm : p ∈ α := List.mem_of_getElem? ha
  have st : Step K α H α (upd H p (.lst vs')) := Step.set hp hm
  have hn : n < h.length := by rw [← r.len]; exact (List.getElem?_eq_some_iff.mp ha).1
  refine ⟨by rw [List.length_set]; exact r.len, r.nd, fun m a u hma hu => ?_⟩
  by_cases e : m = n
  · subst e
    rw [ha] at hma
    cases hma
    rw [List.getElem?_set_self hn] at hu
    cases hu
    exact ⟨vs', upd_same, rs.mono st⟩
  · rw [List.getElem?_set_ne (Ne.symm e)] at hu
    have ne : a ≠ p := fun z => by
      subst z
      exact e (nodup_at r.nd hma ha)
    exact (r.obj m a u hma hu).mono st.toExt (fun vs q => by rw [upd_ne ne]; exact q)
end
/-- the slots -/
structure ER (K : PySem.W.Frag) (α : List Addr) (H : Hp) (en : En) (σ : L2.St) : Prop where
  len : en.length = σ.length
  get : ∀ (i : Nat) (d : D), en[i]? = some (some d) → ∃ v, σ[i]? = some (some v) ∧ Rep K α H d v
theorem ER.mono {K : PySem.W.Frag} {α α1 : List Addr} {H H1 : Hp} {en : En} {σ : L2.St} (s : Step K α H α1 H1) (r : ER K α H en σ) : ER K α1 H1 en σ :=
  ⟨r.len, fun i d h => let ⟨v, e, q⟩ := r.get i d h; ⟨v, e, q.mono s⟩⟩
theorem ER.set {K : PySem.W.Frag} {α : List Addr} {H : Hp} {en : En} {σ : L2.St} {d : D} {v : V} (r : ER K α H en σ) (i : Nat) (q : Rep K α H d v) : ER K α H (en.set i (some d)) (σ.set i (some v)) := by
  refine ⟨by simp [r.len], fun j e h => ?_⟩
  by_cases hj : j = i
  · subst hj
    have hl : j < en.length := by
      have := (List.getElem?_eq_some_iff.mp h).1
      rw [List.length_set] at this
      exact this
    rw [List.getElem?_set_self hl] at h
    cases h
    exact ⟨v, by rw [List.getElem?_set_self (by rw [← r.len]; exact hl)], q⟩
  · rw [List.getElem?_set_ne (Ne.symm hj)] at h ⊢
    exact r.get j e h
theorem ER.unset {K : PySem.W.Frag} {α : List Addr} {H : Hp} {en : En} {σ : L2.St} (r : ER K α H en σ) (i : Nat) : ER K α H (en.set i none) (σ.set i none) := by
  refine ⟨by simp [r.len], fun j e h => ?_⟩
  by_cases hj : j = i
  · subst hj
    have hl : j < en.length := by
      have := (List.getElem?_eq_some_iff.mp h).1
      rw [List.length_set] at this
      exact this
    rw [List.getElem?_set_self hl] at h
    cases h
  · rw [List.getElem?_set_ne (Ne.symm hj)] at h ⊢
    exact r.get j e h
theorem ER.wipe {K : PySem.W.Frag} {α : List Addr} {H : Hp} {en : En} {σ : L2.St} (r : ER K α H en σ) : ∀ vs : List Nat, ER K α H (wipeE en vs) (L2.wipe σ vs)
  | [] => r
  | v :: vs => (ER.wipe r vs).unset v

/-! ### what is wanted of an evaluation -/
def XR (Γ : Wd) (α : List Addr) (H : Hp) (c : Nat) (x : D) (cls : Value) (d : Option Addr) : Prop :=
  ∃ da v, cls = .ref (Γ.ca c) ∧ d = some da ∧ da ∉ α ∧ H da = some (.xd [(("value" : Str), v)]) ∧ Rep Γ.K α H x v
def Pst {A B : Type} (Γ : Wd) (Rl : List Addr → Hp → A → B → Prop) (α : List Addr) (H : Hp) (r : R A) (Q : B → Hp → Prop) (E : XK) : Prop :=
  match r with
  | .ok a h' => ∀ α' H' b, Step Γ.K α H α' H' → HR Γ.K α' h' H' → Rl α' H' a b → Q b H'
  | .exc c x h' => ∀ α' H' cls d, Step Γ.K α H α' H' → HR Γ.K α' h' H' → XR Γ α' H' c x cls d → E cls d H'
  | .bad => False
section
variable {Γ : Wd} {A B C B' : Type} {Rl : List Addr → Hp → A → B → Prop} {Rl' : List Addr → Hp → C → B' → Prop} {α α1 : List Addr} {H H1 : Hp} {Q : B → Hp → Prop} {Q' : B' → Hp → Prop} {E : XK}
theorem Pst.step {r : R A} (s : Step Γ.K α H α1 H1) (p : Pst Γ Rl α H r Q E) : Pst Γ Rl α1 H1 r Q E := by
  cases r with
  | ok a h => exact fun α' H' b st => p α' H' b (s.trans st)
  | exc c x h => exact fun α' H' cls d st => p α' H' cls d (s.trans st)
  | bad => exact p
theorem Pst.bnd {r : R A} {f : A → Hh → R C} (p : Pst Γ Rl' α H (bnd r f) Q' E) (k : ∀ a h' α' H' b, Step Γ.K α H α' H' → HR Γ.K α' h' H' → Rl α' H' a b → Pst Γ Rl' α' H' (f a h') Q' E → Q b H') : Pst Γ Rl α H r Q E := by
  cases r with
  | ok a h => exact fun α' H' b st hr rl => k a h α' H' b st hr rl (Pst.step st p)
  | exc c x h => exact p
  | bad => exact p
end
/-- the same, what is wanted being told from an earlier state -/
theorem Pst.bndAt {Γ : Wd} {A B C B' : Type} {Rl : List Addr → Hp → A → B → Prop} {Rl' : List Addr → Hp → C → B' → Prop} {α α1 : List Addr} {H H1 : Hp} {Q : B → Hp → Prop} {Q' : B' → Hp → Prop} {E : XK} {r : R A} {f : A → Hh → R C} (s : Step Γ.K α H α1 H1) (p : Pst Γ Rl' α H (PD.bnd r f) Q' E)
    (k : ∀ a h' α' H' b, Step Γ.K α1 H1 α' H' → HR Γ.K α' h' H' → Rl α' H' a b → Pst Γ Rl' α H (f a h') Q' E → Q b H') : Pst Γ Rl α1 H1 r Q E := by
  cases r with
  | ok a h => exact fun α' H' b st hr rl => k a h α' H' b st hr rl p
  | exc c x h => exact fun α' H' cls d st hr xr => p α' H' cls d (s.trans st) hr xr
  | bad => exact p
theorem Pst.opt {Γ : Wd} {A B C : Type} {Rl : List Addr → Hp → A → B → Prop} {α : List Addr} {H : Hp} {Q : B → Hp → Prop} {E : XK} {o : Option C} {f : C → R A} (p : Pst Γ Rl α H (optR o f) Q E) : ∃ a, o = some a ∧ Pst Γ Rl α H (f a) Q E := by
  cases o with
  | none => exact False.elim p
  | some a => exact ⟨a, rfl, p⟩
theorem getE_some {en : En} {i : Nat} {d : D} (h : getE en i = some d) : en[i]? = some (some d) := by
  unfold getE at h
  cases q : en[i]? with
  | none => rw [q] at h; cases h
  | some o =>
    cases o with
    | none => rw [q] at h; cases h
    | some d' => rw [q] at h; cases h; rfl
abbrev RV (Γ : Wd) : List Addr → Hp → D → V → Prop := fun α H d v => Rep Γ.K α H d v
abbrev RVs (Γ : Wd) : List Addr → Hp → List D → List V → Prop := fun α H d v => Reps Γ.K α H d v
abbrev REq {A : Type} : List Addr → Hp → A → A → Prop := fun _ _ a b => a = b

structure DE (Γ : Wd) (X : Cx) (W : WX) (e : Expr) (f : En → Hh → R D) : Prop where
  ex : ∃ t, PE X e t ∧ ∀ α h H en σ Q, HR Γ.K α h H → ER Γ.K α H en σ → Pst Γ (RV Γ) α H (f en h) Q (fun c d H' => W c d σ H') → t σ H Q
structure DT (Γ : Wd) (X : Cx) (W : WX) (e : Expr) (f : En → Hh → R Bool) : Prop where
  ex : ∃ t, PT X e t ∧ ∀ α h H en σ Q, HR Γ.K α h H → ER Γ.K α H en σ → Pst Γ REq α H (f en h) Q (fun c d H' => W c d σ H') → t σ H Q
/-- and, or: a test whatever its whole is -/
structure DW (Γ : Wd) (X : Cx) (W : WX) (e : Expr) (f : En → Hh → R Bool) : Prop where
  ex : ∃ t, PW X e t ∧ ∀ α h H en σ Q, HR Γ.K α h H → ER Γ.K α H en σ → Pst Γ REq α H (f en h) Q (fun c d H' => W c d σ H') → t σ H Q
structure DA (Γ : Wd) (X : Cx) (W : WX) (es : List Expr) (f : En → Hh → R (List D)) : Prop where
  ex : ∃ t, PA X es t ∧ ∀ α h H en σ Q, HR Γ.K α h H → ER Γ.K α H en σ → Pst Γ (RVs Γ) α H (f en h) Q (fun c d H' => W c d σ H') → t σ H Q
structure DO (Γ : Wd) (X : Cx) (W : WX) (e : Option Expr) (f : En → Hh → R (Option Int)) : Prop where
  ex : ∃ t, PO X e t ∧ ∀ α h H en σ Q, HR Γ.K α h H → ER Γ.K α H en σ → Pst Γ REq α H (f en h) Q (fun c d H' => W c d σ H') → t σ H Q
/-- an iterable of ours and one of the layer's -/
def ItR (Γ : Wd) (α : List Addr) (H : Hp) (it : It) (J : L2.It) : Prop := ∀ α' h' H', Step Γ.K α H α' H' → HR Γ.K α' h' H' → ∀ i, match it.next i h' with
  | none => True
  | some none => J.stop i H'
  | some (some d) => J.go i H' ∧ ∀ x H'', J.yld i H' x H'' → Step Γ.K α' H' α' H'' ∧ HR Γ.K α' h' H'' ∧ Rep Γ.K α' H'' d x
structure DI (Γ : Wd) (X : Cx) (W : WX) (tg e : Expr) (f : En → Hh → R It) : Prop where
  ex : ∃ t, PI X tg e t ∧ ∀ α h H en σ Q, HR Γ.K α h H → ER Γ.K α H en σ → Pst Γ (ItR Γ) α H (f en h) Q (fun c d H' => W c d σ H') → t σ H Q
/-- slots but those at sl are as they were -/
def Agr (sl : List Nat) (σ σ' : L2.St) : Prop := σ'.length = σ.length ∧ ∀ j : Nat, j ∉ sl → σ'[j]? = σ[j]?
theorem Agr.refl {sl : List Nat} {σ : L2.St} : Agr sl σ σ := ⟨rfl, fun _ _ => rfl⟩
theorem Agr.trans {sl sl' : List Nat} {σ σ1 σ2 : L2.St} (a : Agr sl σ σ1) (b : Agr sl' σ1 σ2) : Agr (sl ++ sl') σ σ2 :=
  ⟨b.1.trans a.1, fun j hj => (b.2 j fun h => hj (List.mem_append_right _ h)).trans (a.2 j fun h => hj (List.mem_append_left _ h))⟩
theorem Agr.set (σ : L2.St) (i : Nat) (o : Option V) : Agr [i] σ (σ.set i o) :=
  ⟨by simp, fun j hj => List.getElem?_set_ne fun e => hj (by simp [e])⟩
abbrev REn (Γ : Wd) (sl : List Nat) (σ : L2.St) : List Addr → Hp → En → L2.St → Prop := fun α H en σ' => ER Γ.K α H en σ' ∧ Agr sl σ σ'
/-- a target -/
structure DG (Γ : Wd) (X : Cx) (tg : Expr) (sl : List Nat) (f : D → En → Hh → R En) : Prop where
  ex : ∃ t, PG X tg t ∧ ∀ α h H d v en σ Q, HR Γ.K α h H → ER Γ.K α H en σ → Rep Γ.K α H d v → Pst Γ (REn Γ sl σ) α H (noExc (f d en h)) Q (fun _ _ _ => False) → t v σ H Q
structure DGs (Γ : Wd) (X : Cx) (tgs : List Expr) (sl : List Nat) (f : List D → En → Hh → R En) : Prop where
  ex : ∃ t, PGs X tgs t ∧ ∀ α h H ds vs en σ Q, HR Γ.K α h H → ER Γ.K α H en σ → Reps Γ.K α H ds vs → Pst Γ (REn Γ sl σ) α H (noExc (f ds en h)) Q (fun _ _ _ => False) → t vs σ H Q
theorem noExc_bnd {A B : Type} (r : R A) (f : A → Hh → R B) : noExc (bnd r f) = bnd (noExc r) fun a h => noExc (f a h) := by cases r <;> rfl
theorem bnd_assoc {A B C : Type} (r : R A) (f : A → Hh → R B) (g : B → Hh → R C) : bnd (bnd r f) g = bnd r fun a h => bnd (f a h) g := by cases r <;> rfl
theorem noExc_opt {A B : Type} (o : Option A) (f : A → R B) : noExc (optR o f) = optR o fun a => noExc (f a) := by cases o <;> rfl
theorem Pst.noExc {Γ : Wd} {A B : Type} {Rl : List Addr → Hp → A → B → Prop} {α : List Addr} {H : Hp} {Q : B → Hp → Prop} {E E' : XK} {r : R A} (p : Pst Γ Rl α H (noExc r) Q E) : Pst Γ Rl α H r Q E' := by
  cases r with
  | ok a h => exact p
  | exc c x h => exact False.elim p
  | bad => exact p
theorem Pst.noExc' {Γ : Wd} {A B : Type} {Rl : List Addr → Hp → A → B → Prop} {α : List Addr} {H : Hp} {Q : B → Hp → Prop} {E E' : XK} {r : R A} (p : Pst Γ Rl α H (PD.noExc r) Q E) : Pst Γ Rl α H (PD.noExc r) Q E' := by
  cases r with
  | ok a h => exact p
  | exc c x h => exact False.elim p
  | bad => exact p
/-! ### canonical readings -/
def tD (Γ : Wd) (W : WX) (f : En → Hh → R D) : TE := fun σ H Q => ∃ α h en, HR Γ.K α h H ∧ ER Γ.K α H en σ ∧ Pst Γ (RV Γ) α H (f en h) Q (fun c d H' => W c d σ H')
def tTD (Γ : Wd) (W : WX) (f : En → Hh → R Bool) : TT := fun σ H Q => ∃ α h en, HR Γ.K α h H ∧ ER Γ.K α H en σ ∧ Pst Γ REq α H (f en h) Q (fun c d H' => W c d σ H')
def tGD (Γ : Wd) (sl : List Nat) (f : D → En → Hh → R En) : TG := fun v σ H Q => ∃ α h d en, HR Γ.K α h H ∧ ER Γ.K α H en σ ∧ Rep Γ.K α H d v ∧ Pst Γ (REn Γ sl σ) α H (noExc (f d en h)) Q (fun _ _ _ => False)
theorem DE.pe {Γ : Wd} {X : Cx} {W : WX} {e : Expr} {f : En → Hh → R D} (h : DE Γ X W e f) : PE X e (tD Γ W f) := by
  obtain ⟨t, pt, k⟩ := h.ex
  exact ⟨fun pins s σ H Q I ⟨α, hh, en, hr, er, p⟩ => pt.run pins s σ H Q I (k _ _ _ _ _ _ hr er p)⟩
theorem DT.pt {Γ : Wd} {X : Cx} {W : WX} {e : Expr} {f : En → Hh → R Bool} (h : DT Γ X W e f) : PT X e (tTD Γ W f) := by
  obtain ⟨t, pt, k⟩ := h.ex
  exact ⟨fun pins s σ H Q I ⟨α, hh, en, hr, er, p⟩ => pt.run pins s σ H Q I (k _ _ _ _ _ _ hr er p)⟩
theorem DG.pg {Γ : Wd} {X : Cx} {tg : Expr} {sl : List Nat} {f : D → En → Hh → R En} (h : DG Γ X tg sl f) : PG X tg (tGD Γ sl f) := by
  obtain ⟨t, pt, k⟩ := h.ex
  exact ⟨fun pins s σ H v u Q I r ⟨α, hh, d, en, hr, er, rd, p⟩ => pt.run pins s σ H v u Q I r (k _ _ _ _ _ _ _ _ hr er rd p)⟩
def PstS (Γ : Wd) (α : List Addr) (H : Hp) (r : RS) (Dn : Ends) (W : WX) : Prop :=
  match r with
  | .nx en h => ∀ α' H' σ', Step Γ.K α H α' H' → HR Γ.K α' h H' → ER Γ.K α' H' en σ' → Dn.nx σ' H'
  | .rt d h => ∀ α' H' v, Step Γ.K α H α' H' → HR Γ.K α' h H' → Rep Γ.K α' H' d v → Dn.rt v H'
  | .bk en h => ∀ α' H' σ', Step Γ.K α H α' H' → HR Γ.K α' h H' → ER Γ.K α' H' en σ' → Dn.bk σ' H'
  | .ct en h => ∀ α' H' σ', Step Γ.K α H α' H' → HR Γ.K α' h H' → ER Γ.K α' H' en σ' → Dn.ct σ' H'
  | .exc c x en h => ∀ α' H' σ' cls d, Step Γ.K α H α' H' → HR Γ.K α' h H' → ER Γ.K α' H' en σ' → XR Γ α' H' c x cls d → W cls d σ' H'
  | .bad => False
theorem PstS.step {Γ : Wd} {α α1 : List Addr} {H H1 : Hp} {Dn : Ends} {W : WX} {r : RS} (s : Step Γ.K α H α1 H1) (p : PstS Γ α H r Dn W) : PstS Γ α1 H1 r Dn W := by
  cases r with
  | nx en h => exact fun α' H' b st => p α' H' b (s.trans st)
  | rt en h => exact fun α' H' b st => p α' H' b (s.trans st)
  | bk en h => exact fun α' H' b st => p α' H' b (s.trans st)
  | ct en h => exact fun α' H' b st => p α' H' b (s.trans st)
  | exc c x en h => exact fun α' H' σ' cls d st => p α' H' σ' cls d (s.trans st)
  | bad => exact p
theorem PstS.bnd {Γ : Wd} {A B : Type} {Rl : List Addr → Hp → A → B → Prop} {α : List Addr} {H : Hp} {Dn : Ends} {W : WX} {Q : B → Hp → Prop} {r : R A} {en : En} {σ : L2.St} {f : A → Hh → RS} (p : PstS Γ α H (bndS r en f) Dn W) (er : ER Γ.K α H en σ)
    (k : ∀ a h' α' H' b, Step Γ.K α H α' H' → HR Γ.K α' h' H' → Rl α' H' a b → PstS Γ α' H' (f a h') Dn W → Q b H') : Pst Γ Rl α H r Q (fun c d H' => W c d σ H') := by
  cases r with
  | ok a h => exact fun α' H' b st hr rl => k a h α' H' b st hr rl (PstS.step st p)
  | exc c x h => exact fun α' H' cls d st hr xr => p α' H' σ cls d st hr (er.mono st) xr
  | bad => exact p
structure DS (Γ : Wd) (X : Cx) (W : WX) (st : Stmt) (f : En → Hh → RS) : Prop where
  ex : ∃ t, PS X st t ∧ ∀ α h H en σ Dn, HR Γ.K α h H → ER Γ.K α H en σ → PstS Γ α H (f en h) Dn W → t Dn σ H
structure DSs (Γ : Wd) (X : Cx) (W : WX) (sts : List Stmt) (f : En → Hh → RS) : Prop where
  ex : ∃ t, PSs X sts t ∧ ∀ α h H en σ Dn, HR Γ.K α h H → ER Γ.K α H en σ → PstS Γ α H (f en h) Dn W → t Dn σ H
end PD

set_option Elab.async false
set_option linter.all false
set_option maxRecDepth 100000
set_option maxHeartbeats 1000000
/-! Each construct keeps to the evaluation. -/
namespace PD
open PySem PySem.Spec PyProof.Rows L2
section
variable {Γ : Wd} {X : Cx} {W : WX}

/-! ### data to be compared -/
theorem allO_dp {K : PySem.W.Frag} {α : List Addr} {H : Hp} {f : D → Option PyData} (ih : ∀ d p v, f d = some p → Rep K α H d v → Dp K H v p) :
    ∀ {ds : List D} {ps : List PyData} {vs : List V}, allO f ds = some ps → Reps K α H ds vs → DpAll K H vs ps
  | [], ps, vs, h, r => by
    cases r
    cases h
    exact .nil
  | d :: ds, ps, vs, h, r => by
    cases r with
    | cons r rs =>
      unfold allO at h
      cases q1 : f d with
      | none => rw [q1] at h; cases h
      | some p =>
        cases q2 : allO f ds with
        | none => rw [q1, q2] at h; cases h
        | some ps' =>
          rw [q1, q2] at h
          cases h
          exact .cons (ih d p _ q1 r) (allO_dp ih q2 rs)
theorem dpAll_ints {K : PySem.W.Frag} {H : Hp} : ∀ ns : List Int, DpAll K H (ns.map V.int) (ns.map PyData.int)
  | [] => .nil
  | i :: r => .cons (.int i) (dpAll_ints r)
theorem toPy_dp {K : PySem.W.Frag} {α : List Addr} {h : Hh} {H : Hp} (hr : HR K α h H) : ∀ (n : Nat) (d : D) (p : PyData) (v : V), toPy n h d = some p → Rep K α H d v → Dp K H v p
  | 0, _, _, _, h, _ => by cases h
  | n + 1, d, p, v, hp, r => by
    have ih := toPy_dp hr n
    cases r with
    | non => cases hp; exact .non
    | bl b => cases hp; exact .bl b
    | int b => cases hp; exact .int b
    | str b => cases hp; exact .str b
    | @tup a vs ds s rs =>
      unfold toPy at hp
      cases q : allO (toPy n h) ds with
      | none => rw [q] at hp; cases hp
      | some ps =>
        rw [q] at hp
        cases hp
        exact .tup s (allO_dp ih q rs)
    | @ref m a ha =>
      unfold toPy at hp
      cases q1 : lstOf h m with
      | none => rw [q1] at hp; cases hp
      | some ds =>
        rw [q1] at hp
        obtain ⟨vs, e, rs⟩ := hr.lst ha (lstOf_some q1)
        cases q : allO (toPy n h) ds with
        | none =>
          rw [Option.bind_some, q] at hp
          cases hp
        | some ps =>
          rw [Option.bind_some, q] at hp
          cases hp
          exact .lst (SqL.of e) (allO_dp ih q rs)
    | scr hs =>
      cases hp
      exact .lst hs.sq (dpAll_ints _)
/-! ### operators -/
def OpS (Γ : Wd) (X : Cx) (f : Value → Value → Sem Value) (g : D → D → Hh → R D) : Prop :=
  ∃ r : R2, OpR X f r ∧ ∀ α h H x y dx dy Q E, HR Γ.K α h H → Rep Γ.K α H dx x → Rep Γ.K α H dy y → Pst Γ (RV Γ) α H (g dx dy h) Q E → r x y H Q
theorem op_fdivA : OpR X (binaryOp .FloorDiv) (rI (fun _ j => j ≠ 0 ∧ j.natAbs.log2 < 9000) fun i j => .int (i.fdiv j)) :=
  opI fun _ _ _ _ _ _ _ hc q => floordiv_int hc.1 q (.inl (PyProof.noPylong_of_log2 hc.2))
theorem ops_I {f : Value → Value → Sem Value} {C : Int → Int → Prop} {g : Int → Int → Int} (o : OpR X f (rI C fun i j => .int (g i j))) {op : Operator}
    (hg : ∀ dx dy h Q α H E, Pst Γ (RV Γ) α H (binOp op dx dy h) Q E → ∃ i j, dx = .int i ∧ dy = .int j ∧ C i j ∧ binOp op dx dy h = .ok (.int (g i j)) h) : OpS Γ X f (binOp op) := by
  refine ⟨_, o, fun α h H x y dx dy Q E hr rx ry p => ?_⟩
  obtain ⟨i, j, rfl, rfl, c, e⟩ := hg dx dy h Q α H E p
  rw [e] at p
  cases rx
  cases ry
  exact ⟨i, j, rfl, rfl, c, p _ _ _ Step.refl hr (.int _)⟩
theorem ops_mul : OpS Γ X (binaryOp .Mult) (binOp .Mult) := by
  refine ops_I op_mulW fun dx dy h Q α H E p => ?_
  cases dx <;> first | exact False.elim p | skip
  cases dy <;> first | exact False.elim p | skip
  rename_i i j
  by_cases c : i.natAbs.log2 + j.natAbs.log2 < 1000000
  · exact ⟨i, j, rfl, rfl, c, by simp only [binOp]; rw [if_pos c]⟩
  · simp only [binOp] at p; rw [if_neg c] at p; exact False.elim p
theorem ops_fdiv : OpS Γ X (binaryOp .FloorDiv) (binOp .FloorDiv) := by
  refine ops_I op_fdivA fun dx dy h Q α H E p => ?_
  cases dx <;> first | exact False.elim p | skip
  cases dy <;> first | exact False.elim p | skip
  rename_i i j
  by_cases c : j ≠ 0 ∧ j.natAbs.log2 < 9000
  · exact ⟨i, j, rfl, rfl, c, by simp only [binOp]; rw [if_pos c]⟩
  · simp only [binOp] at p; rw [if_neg c] at p; exact False.elim p
theorem ops_mod : OpS Γ X (binaryOp .Mod) (binOp .Mod) := by
  refine ops_I op_modN fun dx dy h Q α H E p => ?_
  cases dx <;> first | exact False.elim p | skip
  cases dy <;> first | exact False.elim p | skip
  rename_i i j
  by_cases c : j ≠ 0
  · exact ⟨i, j, rfl, rfl, c, by simp only [binOp]; rw [if_pos c]⟩
  · simp only [binOp] at p; rw [if_neg c] at p; exact False.elim p
theorem ops_pow : OpS Γ X (binaryOp .Pow) (binOp .Pow) := by
  refine ops_I op_pow fun dx dy h Q α H E p => ?_
  cases dx <;> first | exact False.elim p | skip
  cases dy <;> first | exact False.elim p | skip
  rename_i i j
  by_cases c : 0 ≤ j ∧ j ≤ 1000000 ∧ i.natAbs < 2 ^ 64
  · exact ⟨i, j, rfl, rfl, c, by simp only [binOp]; rw [if_pos c]⟩
  · simp only [binOp] at p; rw [if_neg c] at p; exact False.elim p
theorem ops_sub : OpS Γ X (binaryOp .Sub) (binOp .Sub) := by
  refine ⟨_, op_sub, fun α h H x y dx dy Q E hr rx ry p => ?_⟩
  cases rx <;> first | exact False.elim p | skip
  cases ry <;> first | exact False.elim p | skip
  exact ⟨_, _, rfl, rfl, p _ _ _ Step.refl hr (.int _)⟩
theorem reps_nil_iff {K : PySem.W.Frag} {α : List Addr} {H : Hp} {ds : List D} {vs : List V} (r : Reps K α H ds vs) : vs = [] ↔ ds = [] := by
  cases r <;> simp
theorem ops_add (hK : X.K = Γ.K) : OpS Γ X (binaryOp .Add) (binOp .Add) := by
  refine ⟨_, (op_add.or op_add_str).or (op_catA.or op_cat), fun α h H x y dx dy Q E hr rx ry p => ?_⟩
  cases rx with
  | int i =>
    cases ry <;> first | exact False.elim p | skip
    exact .inl (.inl ⟨_, _, rfl, rfl, p _ _ _ Step.refl hr (.int _)⟩)
  | str i =>
    cases ry <;> first | exact False.elim p | skip
    rename_i j
    simp only [binOp] at p
    by_cases c : i.length + j.length ≤ sizeLine
    · rw [if_pos c] at p
      exact .inl (.inr ⟨_, _, rfl, rfl, c, p _ _ _ Step.refl hr (.str _)⟩)
    · rw [if_neg c] at p; exact False.elim p
  | @tup a vs ds s rs =>
    cases ry <;> first | exact False.elim p | skip
    rename_i b ws es s' rs'
    simp only [binOp] at p
    by_cases c : ds.length + es.length ≤ sizeLine
    · rw [if_pos c] at p
      refine .inr (.inl ⟨_, _, _, _, rfl, rfl, by rw [hK]; exact s, by rw [hK]; exact s', by rw [← rs.length, ← rs'.length]; exact c, fun z => ?_, fun _ z => ?_, fun _ _ q hq => ?_⟩)
      · refine p _ _ _ Step.refl hr ?_
        rw [(reps_nil_iff rs).mp z, List.nil_append]
        exact .tup s' rs'
      · refine p _ _ _ Step.refl hr ?_
        rw [(reps_nil_iff rs').mp z, List.append_nil]
        exact .tup s rs
      · exact p _ _ _ (Step.other hq) (hr.other hq) (.tup (SqT.of upd_same) ((rs.append rs').mono (Step.other hq)))
    · rw [if_neg c] at p; exact False.elim p
  | @ref n a ha =>
    cases ry <;> first | exact False.elim p | skip
    rename_i m b hb
    obtain ⟨ds, q1, p⟩ := Pst.opt p
    obtain ⟨es, q2, p⟩ := Pst.opt p
    by_cases c : ds.length + es.length ≤ sizeLine
    · rw [if_pos c] at p
      obtain ⟨vs, e1, r1⟩ := hr.lst ha (lstOf_some q1)
      obtain ⟨ws, e2, r2⟩ := hr.lst hb (lstOf_some q2)
      refine .inr (.inr ⟨_, _, _, _, rfl, rfl, e1, e2, by rw [← r1.length, ← r2.length]; exact c, fun q hq => ?_⟩)
      refine p _ _ _ (Step.new' hq) (hr.new hq (r1.append r2)) (.ref ?_)
      rw [← hr.len]
      simp
    · rw [if_neg c] at p; exact False.elim p
  | _ => exact False.elim p
theorem ops_bin (hK : X.K = Γ.K) : ∀ op : Operator, OpS Γ X (binaryOp op) (binOp op)
  | .Add => ops_add hK
  | .Sub => ops_sub
  | .Mult => ops_mul
  | .FloorDiv => ops_fdiv
  | .Mod => ops_mod
  | .Pow => ops_pow
  | .MatMult | .Div | .LShift | .RShift | .BitOr | .BitXor | .BitAnd => ⟨fun _ _ _ _ => False, fun _ _ _ _ _ _ _ _ _ _ _ _ h => h.elim, fun α h H x y dx dy Q E hr rx ry p => by
      cases dx <;> first | exact p | (cases dy <;> exact p)⟩
theorem ops_int {op : CmpOp} {g : Int → Int → Bool} (o : OpR X (compareOp op) (rI0 fun i j => .bl (g i j))) (hb : ∀ dx dy h, cmpOp op dx dy h = match dx, dy with | .int i, .int j => .ok (.bl (g i j)) h | _, _ => .bad) : OpS Γ X (compareOp op) (cmpOp op) := by
  refine ⟨_, o, fun α h H x y dx dy Q E hr rx ry p => ?_⟩
  rw [hb] at p
  cases rx <;> first | exact False.elim p | skip
  cases ry <;> first | exact False.elim p | skip
  exact ⟨_, _, rfl, rfl, p _ _ _ Step.refl hr (.bl _)⟩
theorem rep_non {K : PySem.W.Frag} {α : List Addr} {H : Hp} {d : D} {v : V} (r : Rep K α H d v) : decide (v = .non) = isNon d := by
  cases r <;> rfl
theorem eqD_some {h : Hh} {x y : D} {b : Bool} (e : eqD h x y = some b) : ∃ p q, toPy 66 h x = some p ∧ toPy 66 h y = some q ∧ SeqAt.shaped p = true ∧ SeqAt.shaped q = true ∧ b = PyData.eqv p q := by
  unfold eqD at e
  cases q1 : toPy 66 h x with
  | none => rw [q1] at e; cases e
  | some p =>
    cases q2 : toPy 66 h y with
    | none => rw [q1, q2] at e; cases e
    | some q =>
      rw [q1, q2] at e
      dsimp only at e
      by_cases c : (SeqAt.shaped p && SeqAt.shaped q) = true
      · rw [if_pos c] at e
        cases e
        exact ⟨p, q, rfl, rfl, (Bool.and_eq_true_iff.mp c).1, (Bool.and_eq_true_iff.mp c).2, rfl⟩
      · rw [if_neg c] at e; cases e
theorem ops_cmp {k : Nat} (hK : X.K = Γ.K) (hr : Room k X.A) : ∀ op : CmpOp, OpS Γ X (compareOp op) (cmpOp op)
  | .Lt => ops_int op_lt fun dx dy h => by cases dx <;> cases dy <;> rfl
  | .LtE => ops_int op_le fun dx dy h => by cases dx <;> cases dy <;> rfl
  | .Gt => ops_int op_gt fun dx dy h => by cases dx <;> cases dy <;> rfl
  | .GtE => ops_int op_ge fun dx dy h => by cases dx <;> cases dy <;> rfl
  | .Eq => by
    refine ⟨_, op_eqD hr.units, fun α h H x y dx dy Q E hr rx ry p => ?_⟩
    have p0 : Pst Γ (RV Γ) α H (optR (eqD h dx dy) fun b => .ok (.bl b) h) Q E := by
      cases dx <;> cases dy <;> exact p
    obtain ⟨b, e, p'⟩ := Pst.opt p0
    obtain ⟨a, c, e1, e2, s1, s2, rfl⟩ := eqD_some e
    exact ⟨a, c, by rw [hK]; exact toPy_dp hr 66 _ _ _ e1 rx, by rw [hK]; exact toPy_dp hr 66 _ _ _ e2 ry, s1, s2, p' _ _ _ Step.refl hr (.bl _)⟩
  | .NotEq => by
    refine ⟨_, op_neD hr.units, fun α h H x y dx dy Q E hr rx ry p => ?_⟩
    have p0 : Pst Γ (RV Γ) α H (optR (eqD h dx dy) fun b => .ok (.bl (!b)) h) Q E := by
      cases dx <;> cases dy <;> exact p
    obtain ⟨b, e, p'⟩ := Pst.opt p0
    obtain ⟨a, c, e1, e2, s1, s2, rfl⟩ := eqD_some e
    exact ⟨a, c, by rw [hK]; exact toPy_dp hr 66 _ _ _ e1 rx, by rw [hK]; exact toPy_dp hr 66 _ _ _ e2 ry, s1, s2, p' _ _ _ Step.refl hr (.bl _)⟩
  | .Is => by
    refine ⟨_, op_isN, fun α h H x y dx dy Q E hr rx ry p => ?_⟩
    cases ry <;> first | (cases dx <;> exact False.elim p) | skip
    refine ⟨rfl, ?_⟩
    rw [rep_non rx]
    have p' : Pst Γ (RV Γ) α H (.ok (.bl (isNon dx)) h) Q E := by cases dx <;> exact p
    exact p' _ _ _ Step.refl hr (.bl _)
  | .IsNot => by
    refine ⟨_, op_notN, fun α h H x y dx dy Q E hr rx ry p => ?_⟩
    cases ry <;> first | (cases dx <;> exact False.elim p) | skip
    refine ⟨rfl, ?_⟩
    rw [rep_non rx]
    have p' : Pst Γ (RV Γ) α H (.ok (.bl (!isNon dx)) h) Q E := by cases dx <;> exact p
    exact p' _ _ _ Step.refl hr (.bl _)
  | .In | .NotIn => ⟨fun _ _ _ _ => False, fun _ _ _ _ _ _ _ _ _ _ _ _ h => h.elim, fun α h H x y dx dy Q E hr rx ry p => by
      cases dx <;> first | exact p | (cases dy <;> exact p)⟩
end
end PD

set_option Elab.async false
set_option linter.all false
set_option maxRecDepth 100000
set_option maxHeartbeats 1000000
namespace PD
open PySem PySem.Spec PyProof.Rows L2
section
variable {Γ : Wd} {X : Cx} {W : WX} {pos : Pos}
theorem PE.false {e : Expr} : PE X e (fun _ _ _ => False) := ⟨fun _ _ _ _ _ _ h => h.elim⟩
theorem de_bad {e : Expr} : DE Γ X W e (fun _ _ => .bad) := ⟨_, PE.false, fun _ _ _ _ _ _ _ _ p => p⟩
theorem dt_bad {e : Expr} : DT Γ X W e (fun _ _ => .bad) := ⟨fun _ _ _ => False, ⟨fun _ _ _ _ _ _ h => h.elim⟩, fun _ _ _ _ _ _ _ _ p => p⟩
theorem di_bad {tg e : Expr} : DI Γ X W tg e (fun _ _ => .bad) := ⟨fun _ _ _ => False, ⟨fun _ _ _ _ _ _ h => h.elim⟩, fun _ _ _ _ _ _ _ _ p => p⟩
theorem dg_bad {tg : Expr} {sl : List Nat} : DG Γ X tg sl (fun _ _ _ => .bad) := ⟨fun _ _ _ _ => False, ⟨fun _ _ _ _ _ _ _ _ _ h => h.elim⟩, fun _ _ _ _ _ _ _ _ _ _ _ p => p⟩
theorem ds_bad {st : Stmt} : DS Γ X W st (fun _ _ => .bad) := ⟨_, ps_never, fun _ _ _ _ _ _ _ _ p => p⟩
theorem do_bad {e : Option Expr} : DO Γ X W e (fun _ _ => .bad) := ⟨fun _ _ _ => False, ⟨fun _ _ _ _ _ _ h => h.elim⟩, fun _ _ _ _ _ _ _ _ p => p⟩
theorem da_bad {es : List Expr} : DA Γ X W es (fun _ _ => .bad) := ⟨fun _ _ _ => False, ⟨fun _ _ _ _ _ _ _ h => h.elim⟩, fun _ _ _ _ _ _ _ _ p => p⟩
theorem de_int {i j} : DE Γ X W (.Constant (.int i) j pos) (fun _ h => .ok (.int i) h) := ⟨_, pe_int, fun _ _ _ _ _ _ hr _ p => p _ _ _ Step.refl hr (.int i)⟩
theorem de_bl {i j} : DE Γ X W (.Constant (.bool i) j pos) (fun _ h => .ok (.bl i) h) := ⟨_, pe_bl, fun _ _ _ _ _ _ hr _ p => p _ _ _ Step.refl hr (.bl i)⟩
theorem de_str {i j} : DE Γ X W (.Constant (.str i) j pos) (fun _ h => .ok (.str i) h) := ⟨_, pe_str, fun _ _ _ _ _ _ hr _ p => p _ _ _ Step.refl hr (.str i)⟩
theorem de_non {j} : DE Γ X W (.Constant .none j pos) (fun _ h => .ok .non h) := ⟨_, pe_non, fun _ _ _ _ _ _ hr _ p => p _ _ _ Step.refl hr .non⟩
theorem de_var {i : Nat} {x : Str} (hN : X.N[i]? = some x) (hv : Vis X.env.scope x) (hd : (x == ("__debug__" : Str)) = false) (hcd : (x == ("__classdict__" : Str)) = false) :
    DE Γ X W (.Name x pos) (fun en h => optR (getE en i) fun d => .ok d h) := by
  refine ⟨_, pe_var hN hv hd hcd, fun α h H en σ Q hr er p => ?_⟩
  obtain ⟨d, q, p⟩ := Pst.opt p
  obtain ⟨v, e, r⟩ := er.get i d (getE_some q)
  exact ⟨v, e, p _ _ _ Step.refl hr r⟩
theorem de_glob {x : Str} {d : D} {v : V} {u : Value} (hg : Gl X x) (hm : X.mg x = some u) (r : RelV v u) (hd : (x == ("__debug__" : Str)) = false) (rep : ∀ α H, Rep Γ.K α H d v) : DE Γ X W (.Name x pos) (fun _ h => .ok d h) :=
  ⟨_, pe_glob hg hm r hd, fun _ _ _ _ _ _ hr _ p => p _ _ _ Step.refl hr (rep _ _)⟩
/-! ### arguments, displays -/
def star (e : Expr) : Bool := match e with | .Starred .. => true | _ => false
theorem starEach_cons {e : Expr} {es : List Expr} {env : Env} (h : star e = false) : starEach (e :: es) env = (false, eval e env) :: starEach es env := by
  cases e <;> first | rfl | cases h
theorem starEach_any {env : Env} : ∀ {es : List Expr}, es.any star = false → (backTo pos (starEach es env)).any (·.1) = false
  | [], _ => rfl
  | e :: es, h => by
    rw [List.any_cons, Bool.or_eq_false_iff] at h
    rw [starEach_cons h.1]
    show (false || (backTo pos (starEach es env)).any (·.1)) = false
    rw [Bool.false_or]
    exact starEach_any h.2
theorem da_nil : DA Γ X W [] (fun _ h => .ok [] h) := ⟨_, pa_nil, fun _ _ _ _ _ _ hr _ p => p _ _ _ Step.refl hr .nil⟩
theorem da_cons {e : Expr} {es : List Expr} {f : En → Hh → R D} {g : En → Hh → R (List D)} (hs : star e = false) (he : DE Γ X W e f) (hes : DA Γ X W es g) :
    DA Γ X W (e :: es) (fun en h => bnd (f en h) fun d h1 => bnd (g en h1) fun ds h2 => .ok (d :: ds) h2) := by
  obtain ⟨t, pt, k⟩ := he.ex
  obtain ⟨u, pu, l⟩ := hes.ex
  refine ⟨_, pa_cons pt pu (starEach_cons hs), fun α h H en σ Q hr er p => k _ _ _ _ _ _ hr er (p.bnd fun d h1 α1 H1 v st1 hr1 r1 p1 => ?_)⟩
  refine l _ _ _ _ _ _ hr1 (er.mono st1) (p1.bnd fun ds h2 α2 H2 vs st2 hr2 r2 p2 => ?_)
  exact p2 _ _ _ Step.refl hr2 (.cons (r1.mono st2) r2)
theorem de_tup {es : List Expr} {k : Nat} {g : En → Hh → R (List D)} (hes : DA Γ X W es g) : DE Γ X W (.Tuple es k pos) (fun en h => bnd (g en h) fun ds h1 => if ds.length ≤ sizeLine then .ok (.tup ds) h1 else .bad) := by
  obtain ⟨u, pu, l⟩ := hes.ex
  refine ⟨_, pe_tup pu, fun α h H en σ Q hr er p => l _ _ _ _ _ _ hr er (p.bnd fun ds h1 α1 H1 vs st1 hr1 r1 p1 => ?_)⟩
  by_cases c : ds.length ≤ sizeLine
  · rw [if_pos c] at p1
    exact ⟨by rw [← r1.length]; exact c, fun q hq => p1 _ _ _ (Step.other hq) (hr1.other hq) (.tup (SqT.of upd_same) (r1.mono (Step.other hq)))⟩
  · rw [if_neg c] at p1; exact False.elim p1
theorem rep_new {K : PySem.W.Frag} {α : List Addr} {h : Hh} {H H' : Hp} {p : Addr} (hr : HR K α h H) : Rep K (α ++ [p]) H' (.ref h.length) (.ref p) := by
  refine .ref ?_
  rw [← hr.len]
  simp
theorem de_lst {es : List Expr} {g : En → Hh → R (List D)} (hes : DA Γ X W es g) : DE Γ X W (.List es pos) (fun en h => bnd (g en h) fun ds h1 => if ds.length ≤ sizeLine then .ok (.ref h1.length) (h1 ++ [.lst ds]) else .bad) := by
  obtain ⟨u, pu, l⟩ := hes.ex
  refine ⟨_, pe_lst pu, fun α h H en σ Q hr er p => l _ _ _ _ _ _ hr er (p.bnd fun ds h1 α1 H1 vs st1 hr1 r1 p1 => ?_)⟩
  by_cases c : ds.length ≤ sizeLine
  · rw [if_pos c] at p1
    exact ⟨by rw [← r1.length]; exact c, fun q hq => p1 _ _ _ (Step.new' hq) (hr1.new hq r1) (rep_new hr1)⟩
  · rw [if_neg c] at p1; exact False.elim p1
/-! ### operators -/
theorem de_bin {a b : Expr} {op : Operator} {f g : En → Hh → R D} (o : OpS Γ X (binaryOp op) (binOp op)) (ha : DE Γ X W a f) (hb : DE Γ X W b g) :
    DE Γ X W (.BinOp a op b pos) (fun en h => bnd (f en h) fun x h1 => bnd (g en h1) fun y h2 => binOp op x y h2) := by
  obtain ⟨t, pt, k⟩ := ha.ex
  obtain ⟨u, pu, l⟩ := hb.ex
  obtain ⟨r, pr, m⟩ := o
  refine ⟨_, pe_op pr pt pu, fun α h H en σ Q hr er p => k _ _ _ _ _ _ hr er (p.bnd fun d h1 α1 H1 v st1 hr1 r1 p1 => ?_)⟩
  refine l _ _ _ _ _ _ hr1 (er.mono st1) (p1.bnd fun ds h2 α2 H2 vs st2 hr2 r2 p2 => ?_)
  exact m _ _ _ _ _ _ _ _ _ hr2 (r1.mono st2) r2 p2
theorem de_cmp {a b : Expr} {op : CmpOp} {f g : En → Hh → R D} (hm : behindInMarks op b = false) (o : OpS Γ X (compareOp op) (cmpOp op)) (ha : DE Γ X W a f) (hb : DE Γ X W b g) :
    DE Γ X W (.Compare a [op] [b] pos) (fun en h => bnd (f en h) fun x h1 => bnd (g en h1) fun y h2 => cmpOp op x y h2) := by
  obtain ⟨t, pt, k⟩ := ha.ex
  obtain ⟨u, pu, l⟩ := hb.ex
  obtain ⟨r, pr, m⟩ := o
  refine ⟨_, pe_cmpR pr pt pu hm, fun α h H en σ Q hr er p => k _ _ _ _ _ _ hr er (p.bnd fun d h1 α1 H1 v st1 hr1 r1 p1 => ?_)⟩
  refine l _ _ _ _ _ _ hr1 (er.mono st1) (p1.bnd fun ds h2 α2 H2 vs st2 hr2 r2 p2 => ?_)
  exact m _ _ _ _ _ _ _ _ _ hr2 (r1.mono st2) r2 p2
theorem toBool_post {α : List Addr} {h : Hh} {H : Hp} {d : D} {v : V} {Q : Bool → Hp → Prop} {E : XK} (hr : HR Γ.K α h H) (r : Rep Γ.K α H d v) (p : Pst Γ REq α H (toBool d h) Q E) : ∃ k, v = .bl k ∧ d = .bl k ∧ Q k H := by
  cases r <;> first | exact False.elim p | skip
  exact ⟨_, rfl, rfl, p _ _ _ Step.refl hr rfl⟩
theorem dt_cmp {a b : Expr} {op : CmpOp} {f g : En → Hh → R D} (hm : behindInMarks op b = false) (o : OpS Γ X (compareOp op) (cmpOp op)) (ha : DE Γ X W a f) (hb : DE Γ X W b g) :
    DT Γ X W (.Compare a [op] [b] pos) (fun en h => bnd (bnd (f en h) fun x h1 => bnd (g en h1) fun y h2 => cmpOp op x y h2) toBool) := by
  obtain ⟨t, pt, k⟩ := ha.ex
  obtain ⟨u, pu, l⟩ := hb.ex
  obtain ⟨r, pr, m⟩ := o
  refine ⟨_, pt_cmpR pr pt pu hm, fun α h H en σ Q hr er p => ?_⟩
  have p' := Pst.bnd (Rl := RV Γ) (Q := fun x H' => ∃ k, x = V.bl k ∧ Q k H') p fun d h1 α1 H1 v st1 hr1 r1 p1 => by
    obtain ⟨kk, e, _, q⟩ := toBool_post hr1 r1 p1
    exact ⟨kk, e, q⟩
  refine k _ _ _ _ _ _ hr er (p'.bnd fun d h1 α1 H1 v st1 hr1 r1 p1 => ?_)
  refine l _ _ _ _ _ _ hr1 (er.mono st1) (p1.bnd fun ds h2 α2 H2 vs st2 hr2 r2 p2 => ?_)
  exact m _ _ _ _ _ _ _ _ _ hr2 (r1.mono st2) r2 p2
/-- a value's truth, where the value is a bool -/
theorem dt_val {e : Expr} {f : En → Hh → R D} (he : DE Γ X W e f) (hp : ∀ whole, isTrue e X.env whole = (do let v ← whole; standAt e.pos; holding [v] (truthy v))) : DT Γ X W e (fun en h => bnd (f en h) toBool) := by
  obtain ⟨t, pt, k⟩ := he.ex
  refine ⟨_, pt_val pt hp, fun α h H en σ Q hr er p => k _ _ _ _ _ _ hr er (p.bnd fun d h1 α1 H1 v st1 hr1 r1 p1 => ?_)⟩
  obtain ⟨kk, e, _, q⟩ := toBool_post hr1 r1 p1
  exact ⟨kk, e, q⟩
theorem chain_post {op op' : CmpOp} {t tb tc : TE} {r r' : R2} {g w : En → Hh → R D} {en : En} {σ : L2.St} {x : V} {dx : D} {α : List Addr} {h : Hh} {H : Hp} {Q : V → Hp → Prop}
    (l : ∀ α h H en σ Q, HR Γ.K α h H → ER Γ.K α H en σ → Pst Γ (RV Γ) α H (g en h) Q (fun c d H' => W c d σ H') → tb σ H Q)
    (n : ∀ α h H en σ Q, HR Γ.K α h H → ER Γ.K α H en σ → Pst Γ (RV Γ) α H (w en h) Q (fun c d H' => W c d σ H') → tc σ H Q)
    (m : ∀ α h H x y dx dy Q E, HR Γ.K α h H → Rep Γ.K α H dx x → Rep Γ.K α H dy y → Pst Γ (RV Γ) α H (cmpOp op dx dy h) Q E → r x y H Q)
    (m' : ∀ α h H x y dx dy Q E, HR Γ.K α h H → Rep Γ.K α H dx x → Rep Γ.K α H dy y → Pst Γ (RV Γ) α H (cmpOp op' dx dy h) Q E → r' x y H Q)
    (hr : HR Γ.K α h H) (er : ER Γ.K α H en σ) (rx : Rep Γ.K α H dx x)
    (p : Pst Γ (RV Γ) α H (bnd (g en h) fun y h2 => bnd (cmpOp op dx y h2) fun z h3 => bnd (toBool z h3) fun k h4 => if k = true then bnd (w en h4) fun v h5 => cmpOp op' y v h5 else .ok (.bl false) h4) Q (fun c d H' => W c d σ H')) :
    tb σ H fun y H2 => r x y H2 fun z H3 => ∃ k, z = .bl k ∧ (if k = true then tc σ H3 fun w' H4 => r' y w' H4 Q else Q (.bl false) H3) := by
  refine l _ _ _ _ _ _ hr er (p.bnd fun d h1 α1 H1 v st1 hr1 r1 p1 => ?_)
  refine m _ _ _ _ _ _ _ _ _ hr1 (rx.mono st1) r1 (p1.bnd fun z h2 α2 H2 zv st2 hr2 r2 p2 => ?_)
  cases r2 <;> first | exact False.elim p2 | skip
  rename_i kk
  refine ⟨kk, rfl, ?_⟩
  have p2' : Pst Γ (RV Γ) α2 H2 (if kk = true then bnd (w en h2) fun v h5 => cmpOp op' d v h5 else .ok (.bl false) h2) Q (fun c d H' => W c d σ H') := p2
  cases kk with
  | true =>
    rw [if_pos rfl] at p2' ⊢
    refine n _ _ _ _ _ _ hr2 ((er.mono st1).mono st2) (p2'.bnd fun e h3 α3 H3 ev st3 hr3 r3 p3 => ?_)
    exact m' _ _ _ _ _ _ _ _ _ hr3 ((r1.mono st2).mono st3) r3 p3
  | false =>
    rw [if_neg (by decide)] at p2' ⊢
    exact p2' _ _ _ Step.refl hr2 (.bl _)
theorem de_chain {a b c : Expr} {op op' : CmpOp} {f g w : En → Hh → R D} (hm : lastMarks [op, op'] [b, c] = false) (o : OpS Γ X (compareOp op) (cmpOp op)) (o' : OpS Γ X (compareOp op') (cmpOp op')) (ha : DE Γ X W a f) (hb : DE Γ X W b g) (hc : DE Γ X W c w) :
    DE Γ X W (.Compare a [op, op'] [b, c] pos) (fun en h => bnd (f en h) fun x h1 => bnd (g en h1) fun y h2 => bnd (cmpOp op x y h2) fun z h3 => bnd (toBool z h3) fun k h4 =>
      if k = true then bnd (w en h4) fun v h5 => cmpOp op' y v h5 else .ok (.bl false) h4) := by
  obtain ⟨t, pt, k⟩ := ha.ex
  obtain ⟨u, pu, l⟩ := hb.ex
  obtain ⟨z, pz, n⟩ := hc.ex
  obtain ⟨r, pr, m⟩ := o
  obtain ⟨r', pr', m'⟩ := o'
  refine ⟨_, pe_chain pr pr' pt pu pz hm, fun α h H en σ Q hr er p => k _ _ _ _ _ _ hr er (p.bnd fun d h1 α1 H1 v st1 hr1 r1 p1 => ?_)⟩
  exact chain_post (t := t) l n m m' hr1 (er.mono st1) r1 p1
theorem dt_chain {a b c : Expr} {op op' : CmpOp} {f g w : En → Hh → R D} (hm : lastMarks [op, op'] [b, c] = false) (o : OpS Γ X (compareOp op) (cmpOp op)) (o' : OpS Γ X (compareOp op') (cmpOp op')) (ha : DE Γ X W a f) (hb : DE Γ X W b g) (hc : DE Γ X W c w) :
    DT Γ X W (.Compare a [op, op'] [b, c] pos) (fun en h => bnd (bnd (f en h) fun x h1 => bnd (g en h1) fun y h2 => bnd (cmpOp op x y h2) fun z h3 => bnd (toBool z h3) fun k h4 =>
      if k = true then bnd (w en h4) fun v h5 => cmpOp op' y v h5 else .ok (.bl false) h4) toBool) := by
  obtain ⟨t, pt, k⟩ := ha.ex
  obtain ⟨u, pu, l⟩ := hb.ex
  obtain ⟨z, pz, n⟩ := hc.ex
  obtain ⟨r, pr, m⟩ := o
  obtain ⟨r', pr', m'⟩ := o'
  refine ⟨_, pt_chain pr pr' pt pu pz hm, fun α h H en σ Q hr er p => ?_⟩
  have p' := Pst.bnd (Rl := RV Γ) (Q := fun x H' => ∃ k, x = V.bl k ∧ Q k H') p fun d h1 α1 H1 v st1 hr1 r1 p1 => by
    obtain ⟨kk, e, _, q⟩ := toBool_post hr1 r1 p1
    exact ⟨kk, e, q⟩
  refine k _ _ _ _ _ _ hr er (p'.bnd fun d h1 α1 H1 v st1 hr1 r1 p1 => ?_)
  exact chain_post (t := t) l n m m' hr1 (er.mono st1) r1 p1
theorem de_neg {a : Expr} {f : En → Hh → R D} (ha : DE Γ X W a f) : DE Γ X W (.UnaryOp .USub a pos) (fun en h => bnd (f en h) unNeg) := by
  obtain ⟨t, pt, k⟩ := ha.ex
  refine ⟨_, pe_un un_neg pt, fun α h H en σ Q hr er p => k _ _ _ _ _ _ hr er (p.bnd fun d h1 α1 H1 v st1 hr1 r1 p1 => ?_)⟩
  cases r1 <;> first | exact False.elim p1 | skip
  exact ⟨_, rfl, p1 _ _ _ Step.refl hr1 (.int _)⟩
theorem dt_not {a : Expr} {f : En → Hh → R Bool} (ha : DT Γ X W a f) : DT Γ X W (.UnaryOp .Not a pos) (fun en h => bnd (f en h) fun b h1 => .ok (!b) h1) := by
  obtain ⟨t, pt, k⟩ := ha.ex
  refine ⟨_, pt_not pt, fun α h H en σ Q hr er p => k _ _ _ _ _ _ hr er (p.bnd fun d h1 α1 H1 v st1 hr1 r1 p1 => ?_)⟩
  cases r1
  exact p1 _ _ _ Step.refl hr1 rfl
theorem dt_and {a b : Expr} {rest : List Expr} {f g : En → Hh → R Bool} (ha : DT Γ X W a f) (hb : DW Γ X W (.BoolOp .And (b :: rest) pos) g) : DW Γ X W (.BoolOp .And (a :: b :: rest) pos) (fun en h => bnd (f en h) fun k h1 => if k = true then g en h1 else .ok false h1) := by
  obtain ⟨t, pt, k⟩ := ha.ex
  obtain ⟨u, pu, l⟩ := hb.ex
  refine ⟨_, pw_and pt pu, fun α h H en σ Q hr er p => k _ _ _ _ _ _ hr er (p.bnd fun d h1 α1 H1 v st1 hr1 r1 p1 => ?_)⟩
  cases r1
  cases d with
  | true => rw [if_pos rfl] at p1 ⊢; exact l _ _ _ _ _ _ hr1 (er.mono st1) p1
  | false => rw [if_neg (by decide)] at p1 ⊢; exact p1 _ _ _ Step.refl hr1 rfl
theorem dt_or {a b : Expr} {rest : List Expr} {f g : En → Hh → R Bool} (ha : DT Γ X W a f) (hb : DW Γ X W (.BoolOp .Or (b :: rest) pos) g) : DW Γ X W (.BoolOp .Or (a :: b :: rest) pos) (fun en h => bnd (f en h) fun k h1 => if k = true then .ok true h1 else g en h1) := by
  obtain ⟨t, pt, k⟩ := ha.ex
  obtain ⟨u, pu, l⟩ := hb.ex
  refine ⟨_, pw_or pt pu, fun α h H en σ Q hr er p => k _ _ _ _ _ _ hr er (p.bnd fun d h1 α1 H1 v st1 hr1 r1 p1 => ?_)⟩
  cases r1
  cases d with
  | true => rw [if_pos rfl] at p1 ⊢; exact p1 _ _ _ Step.refl hr1 rfl
  | false => rw [if_neg (by decide)] at p1 ⊢; exact l _ _ _ _ _ _ hr1 (er.mono st1) p1
theorem dw_one {a : Expr} {op : BoolOp} {f : En → Hh → R Bool} (ha : DT Γ X W a f) : DW Γ X W (.BoolOp op [a] pos) f := by
  obtain ⟨t, pt, k⟩ := ha.ex
  cases op with
  | And => exact ⟨_, pw_and1 pt, k⟩
  | Or => exact ⟨_, pw_or1 pt, k⟩
theorem DW.dt {a : Expr} {f : En → Hh → R Bool} (h : DW Γ X W a f) : DT Γ X W a f := by
  obtain ⟨t, pt, k⟩ := h.ex
  exact ⟨_, pt.pt, k⟩
theorem de_and {a b : Expr} {rest : List Expr} {f g : En → Hh → R D} (ha : DE Γ X W a f) (hb : DE Γ X W (.BoolOp .And (b :: rest) pos) g) :
    DE Γ X W (.BoolOp .And (a :: b :: rest) pos) (fun en h => bnd (f en h) fun x h1 => bnd (toBool x h1) fun k h2 => if k = true then g en h2 else .ok (.bl false) h2) := by
  obtain ⟨t, pt, k⟩ := ha.ex
  obtain ⟨u, pu, l⟩ := hb.ex
  refine ⟨_, pe_and pt pu, fun α h H en σ Q hr er p => k _ _ _ _ _ _ hr er (p.bnd fun d h1 α1 H1 v st1 hr1 r1 p1 => ?_)⟩
  cases r1 <;> first | exact False.elim p1 | skip
  rename_i kk
  refine ⟨kk, rfl, ?_⟩
  have p2 : Pst Γ (RV Γ) α1 H1 (if kk = true then g en h1 else .ok (.bl false) h1) Q (fun c d H' => W c d σ H') := p1
  cases kk with
  | true => rw [if_pos rfl] at p2 ⊢; exact l _ _ _ _ _ _ hr1 (er.mono st1) p2
  | false => rw [if_neg (by decide)] at p2 ⊢; exact p2 _ _ _ Step.refl hr1 (.bl _)
theorem de_or {a b : Expr} {rest : List Expr} {f g : En → Hh → R D} (ha : DE Γ X W a f) (hb : DE Γ X W (.BoolOp .Or (b :: rest) pos) g) :
    DE Γ X W (.BoolOp .Or (a :: b :: rest) pos) (fun en h => bnd (f en h) fun x h1 => bnd (toBool x h1) fun k h2 => if k = true then .ok (.bl true) h2 else g en h2) := by
  obtain ⟨t, pt, k⟩ := ha.ex
  obtain ⟨u, pu, l⟩ := hb.ex
  refine ⟨_, pe_or pt pu, fun α h H en σ Q hr er p => k _ _ _ _ _ _ hr er (p.bnd fun d h1 α1 H1 v st1 hr1 r1 p1 => ?_)⟩
  cases r1 <;> first | exact False.elim p1 | skip
  rename_i kk
  refine ⟨kk, rfl, ?_⟩
  have p2 : Pst Γ (RV Γ) α1 H1 (if kk = true then .ok (.bl true) h1 else g en h1) Q (fun c d H' => W c d σ H') := p1
  cases kk with
  | true => rw [if_pos rfl] at p2 ⊢; exact p2 _ _ _ Step.refl hr1 (.bl _)
  | false => rw [if_neg (by decide)] at p2 ⊢; exact l _ _ _ _ _ _ hr1 (er.mono st1) p2
theorem de_one {a : Expr} {op : BoolOp} {f : En → Hh → R D} (ha : DE Γ X W a f) : DE Γ X W (.BoolOp op [a] pos) f := by
  obtain ⟨t, pt, k⟩ := ha.ex
  exact ⟨_, pe_one pt, k⟩
theorem de_not {a : Expr} {f : En → Hh → R D} (ha : DE Γ X W a f) : DE Γ X W (.UnaryOp .Not a pos) (fun en h => bnd (f en h) fun x h1 => bnd (toBool x h1) fun b h2 => .ok (.bl (!b)) h2) := by
  obtain ⟨t, pt, k⟩ := ha.ex
  refine ⟨_, pe_not pt, fun α h H en σ Q hr er p => k _ _ _ _ _ _ hr er (p.bnd fun d h1 α1 H1 v st1 hr1 r1 p1 => ?_)⟩
  cases r1 <;> first | exact False.elim p1 | skip
  rename_i kk
  have p2 : Pst Γ (RV Γ) α1 H1 (.ok (.bl (!kk)) h1) Q (fun c d H' => W c d σ H') := p1
  exact ⟨kk, rfl, p2 _ _ _ Step.refl hr1 (.bl _)⟩
theorem de_ite {c a b : Expr} {w : En → Hh → R Bool} {f g : En → Hh → R D} (hc : DT Γ X W c w) (ha : DE Γ X W a f) (hb : DE Γ X W b g) :
    DE Γ X W (.IfExp c a b pos) (fun en h => bnd (w en h) fun k h1 => if k = true then f en h1 else g en h1) := by
  obtain ⟨z, pz, n⟩ := hc.ex
  obtain ⟨t, pt, k⟩ := ha.ex
  obtain ⟨u, pu, l⟩ := hb.ex
  refine ⟨_, pe_ifExp pz pt pu, fun α h H en σ Q hr er p => n _ _ _ _ _ _ hr er (p.bnd fun d h1 α1 H1 v st1 hr1 r1 p1 => ?_)⟩
  cases r1
  cases d with
  | true => rw [if_pos rfl] at p1 ⊢; exact k _ _ _ _ _ _ hr1 (er.mono st1) p1
  | false => rw [if_neg (by decide)] at p1 ⊢; exact l _ _ _ _ _ _ hr1 (er.mono st1) p1
/-! ### subscripts -/
theorem ix_post (hK : X.K = Γ.K) {α : List Addr} {h : Hh} {H : Hp} {x y : V} {dx dy : D} {Q : V → Hp → Prop} {E : XK} (hr : HR Γ.K α h H) (rx : Rep Γ.K α H dx x) (ry : Rep Γ.K α H dy y) (p : Pst Γ (RV Γ) α H (ixOp dx dy h) Q E) : rIx X.K x y H Q := by
  cases ry <;> first | (cases dx <;> exact False.elim p) | skip
  rename_i i
  have key : Pst Γ (RV Γ) α H (optR ((seqOf h dx).bind (fun ds => L2.atI ds i)) fun d => .ok d h) Q E → rIx X.K x (.int i) H Q := fun p' => by
    obtain ⟨d, e, p'⟩ := Pst.opt p'
    obtain ⟨ds, e1, q⟩ := Option.bind_eq_some_iff.mp e
    obtain ⟨a, vs, rfl, s, rs⟩ := hr.seq rx e1
    obtain ⟨v, ev, rv⟩ := rs.atI q
    exact .inl ⟨a, vs, i, v, rfl, rfl, by rw [hK]; exact s, ev, p' _ _ _ Step.refl hr rv⟩
  cases rx with
  | @tup a vs ds s rs =>
    have p' : Pst Γ (RV Γ) α H (optR (L2.atI ds i) fun d => .ok d h) Q E := p
    obtain ⟨d, q, p'⟩ := Pst.opt p'
    obtain ⟨v, ev, rv⟩ := rs.atI q
    exact .inr (.inl ⟨a, vs, i, v, rfl, rfl, by rw [hK]; exact s, ev, p' _ _ _ Step.refl hr rv⟩)
  | _ => exact key p
theorem de_ix {a b : Expr} {f g : En → Hh → R D} (hK : X.K = Γ.K) (hp : PlainIx b) (ha : DE Γ X W a f) (hb : DE Γ X W b g) : DE Γ X W (.Subscript a b pos) (fun en h => bnd (f en h) fun x h1 => bnd (g en h1) fun y h2 => ixOp x y h2) := by
  obtain ⟨t, pt, k⟩ := ha.ex
  obtain ⟨u, pu, l⟩ := hb.ex
  refine ⟨_, pe_ix ix_seq pt pu hp, fun α h H en σ Q hr er p => k _ _ _ _ _ _ hr er (p.bnd fun d h1 α1 H1 v st1 hr1 r1 p1 => ?_)⟩
  refine l _ _ _ _ _ _ hr1 (er.mono st1) (p1.bnd fun ds h2 α2 H2 vs st2 hr2 r2 p2 => ?_)
  exact ix_post hK hr2 (r1.mono st2) r2 p2
theorem do_none : DO Γ X W none (fun _ h => .ok none h) := ⟨_, po_none, fun _ _ _ _ _ _ hr _ p => p _ _ _ Step.refl hr rfl⟩
theorem do_some {e : Expr} {f : En → Hh → R D} (he : DE Γ X W e f) : DO Γ X W (some e) (fun en h => bnd (f en h) fun d h1 => bnd (toInt d h1) fun i h2 => .ok (some i) h2) := by
  obtain ⟨t, pt, k⟩ := he.ex
  refine ⟨_, po_some pt, fun α h H en σ Q hr er p => k _ _ _ _ _ _ hr er (p.bnd fun d h1 α1 H1 v st1 hr1 r1 p1 => ?_)⟩
  cases r1 <;> first | exact False.elim p1 | skip
  rename_i i
  have p2 : Pst Γ REq α1 H1 (.ok (some i) h1) Q (fun c d H' => W c d σ H') := p1
  exact ⟨i, rfl, p2 _ _ _ Step.refl hr1 rfl⟩
theorem cut_whole {α : Type} (ds : List α) (lo hi : Option Int) (h : HT.sIx ds.length 0 lo = 0 ∧ HT.sIx ds.length ds.length hi = ds.length) : (ds.drop (HT.sIx ds.length 0 lo)).take (HT.sIx ds.length ds.length hi - HT.sIx ds.length 0 lo) = ds := by
  rw [h.1, h.2, List.drop_zero, Nat.sub_zero, List.take_length]
theorem de_sl {a : Expr} {lo hi : Option Expr} {p2 : Pos} {f : En → Hh → R D} {g w : En → Hh → R (Option Int)} (hK : X.K = Γ.K) (ha : DE Γ X W a f) (hl : DO Γ X W lo g) (hh : DO Γ X W hi w) :
    DE Γ X W (.Subscript a (.Slice lo hi none p2) pos) (fun en h => bnd (f en h) fun x h1 => bnd (g en h1) fun l h2 => bnd (w en h2) fun u h3 => slOp x l u h3) := by
  obtain ⟨t, pt, k⟩ := ha.ex
  obtain ⟨u, pu, l⟩ := hl.ex
  obtain ⟨z, pz, n⟩ := hh.ex
  refine ⟨_, pe_slice (sl_list.or sl_tupA) pt pu pz, fun α h H en σ Q hr er p => k _ _ _ _ _ _ hr er (p.bnd fun d h1 α1 H1 v st1 hr1 r1 p1 => ?_)⟩
  refine l _ _ _ _ _ _ hr1 (er.mono st1) (p1.bnd fun lo' h2 α2 H2 _ st2 hr2 r2 p2 => ?_)
  cases r2
  refine n _ _ _ _ _ _ hr2 ((er.mono st1).mono st2) (p2.bnd fun hi' h3 α3 H3 _ st3 hr3 r3 p3 => ?_)
  cases r3
  have rd := (r1.mono st2).mono st3
  have key : Pst Γ (RV Γ) α3 H3 (optR (seqOf h3 d) fun ds => .ok (.ref h3.length) (h3 ++ [.lst (cutD ds lo' hi')])) Q (fun c d H' => W c d σ H') → rSlL X.K v lo' hi' H3 Q := fun p' => by
    obtain ⟨ds, e, p'⟩ := Pst.opt p'
    obtain ⟨b, vs, rfl, s, rs⟩ := hr3.seq rd e
    exact ⟨b, vs, rfl, by rw [hK]; exact s, fun q hq => p' _ _ _ (Step.new' hq) (hr3.new hq (rs.cut lo' hi')) (rep_new hr3)⟩
  cases rd with
  | @tup b vs ds s rs =>
    refine .inr ⟨b, vs, rfl, by rw [hK]; exact s, fun hw => ?_, fun _ q hq => ?_⟩
    · have p' : Pst Γ (RV Γ) α3 H3 (.ok (.tup (cutD ds lo' hi')) h3) Q (fun c d H' => W c d σ H') := p3
      refine p' _ _ _ Step.refl hr3 ?_
      have e : cutD ds lo' hi' = ds := by
        unfold cutD
        exact cut_whole ds lo' hi' (by rw [rs.length]; exact hw)
      rw [e]
      exact .tup s rs
    · have p' : Pst Γ (RV Γ) α3 H3 (.ok (.tup (cutD ds lo' hi')) h3) Q (fun c d H' => W c d σ H') := p3
      exact p' _ _ _ (Step.other hq) (hr3.other hq) (.tup (SqT.of upd_same) ((rs.cut lo' hi').mono (Step.other hq)))
  | _ => exact .inl (key p3)
end
end PD

set_option Elab.async false
set_option linter.all false
set_option maxRecDepth 100000
set_option maxHeartbeats 1000000
namespace PD
open PySem PySem.Spec PyProof.Rows L2
section
variable {Γ : Wd} {X : Cx} {W : WX} {pos p : Pos}
/-! ### built-in functions of one argument -/
def biName : Bi → Str
  | .len => "len" | .abs => "abs" | .int => "int" | .list => "list" | .tuple => "tuple" | .all => "all" | .any => "any" | .sum => "sum"
/-- a call by values -/
def CallS (Γ : Wd) (r : List V → Hp → VK → Prop) (b : Bi) : Prop := ∀ α h H x dx Q E, HR Γ.K α h H → Rep Γ.K α H dx x → Pst Γ (RV Γ) α H (biOp b dx h) Q E → r [x] H Q
theorem de_call1B {id : String} {r : List V → Hp → VK → Prop} {b : Bi} {x : Str} {e : Expr} {f : En → Hh → R D} (hc : CallR X (.builtin id) r) (cs : CallS Γ r b) (hg : Gl X x) (hm : X.mg x = none) (hv : bootBuiltins x = some (.builtin id)) (hn : x ≠ "__name__") (hdb : (x == ("__debug__" : Str)) = false)
    (hs : star e = false) (he : DE Γ X W e f) : DE Γ X W (.Call (.Name x p) [e] [] pos) (fun en h => bnd (f en h) (biOp b)) := by
  obtain ⟨t, pt, k⟩ := he.ex
  refine ⟨_, pe_callB hc hg hm hv (pa_cons pt pa_nil (starEach_cons hs)) hn hdb (starEach_cons hs) rfl, fun α h H en σ Q hr er p => k _ _ _ _ _ _ hr er (p.bnd fun d h1 α1 H1 v st1 hr1 r1 p1 => ?_)⟩
  exact cs _ _ _ _ _ _ _ hr1 r1 p1
theorem de_call1T {id : String} {r : List V → Hp → VK → Prop} {b : Bi} {x : Str} {e : Expr} {f : En → Hh → R D} (hc : CallR X (.type id) r) (cs : CallS Γ r b) (hg : Gl X x) (hm : X.mg x = none) (hv : bootBuiltins x = some (.type id)) (hn : x ≠ "__name__") (hdb : (x == ("__debug__" : Str)) = false)
    (hs : star e = false) (he : DE Γ X W e f) : DE Γ X W (.Call (.Name x p) [e] [] pos) (fun en h => bnd (f en h) (biOp b)) := by
  obtain ⟨t, pt, k⟩ := he.ex
  refine ⟨_, pe_callTy hc hg hm hv (pa_cons pt pa_nil (starEach_cons hs)) hn hdb (starEach_cons hs) rfl, fun α h H en σ Q hr er p => k _ _ _ _ _ _ hr er (p.bnd fun d h1 α1 H1 v st1 hr1 r1 p1 => ?_)⟩
  exact cs _ _ _ _ _ _ _ hr1 r1 p1
theorem seq_post {α : List Addr} {h : Hh} {H : Hp} {x : V} {dx : D} {Q : V → Hp → Prop} {E : XK} {g : List D → R D} (hr : HR Γ.K α h H) (rx : Rep Γ.K α H dx x) (p : Pst Γ (RV Γ) α H (optR (seqOf h dx) g) Q E) :
    ∃ a vs ds, x = .ref a ∧ seqOf h dx = some ds ∧ SqL Γ.K H a vs ∧ Reps Γ.K α H ds vs ∧ Pst Γ (RV Γ) α H (g ds) Q E := by
  obtain ⟨ds, e, p⟩ := Pst.opt p
  obtain ⟨a, vs, rfl, s, rs⟩ := hr.seq rx e
  exact ⟨a, vs, ds, rfl, e, s, rs, p⟩
theorem seq_post2 {A : Type} {α : List Addr} {h : Hh} {H : Hp} {x : V} {dx : D} {Q : V → Hp → Prop} {E : XK} {w : List D → Option A} {g : A → R D} (hr : HR Γ.K α h H) (rx : Rep Γ.K α H dx x) (p : Pst Γ (RV Γ) α H (optR ((seqOf h dx).bind w) g) Q E) :
    ∃ a vs ds y, x = .ref a ∧ w ds = some y ∧ SqL Γ.K H a vs ∧ Reps Γ.K α H ds vs ∧ Pst Γ (RV Γ) α H (g y) Q E := by
  obtain ⟨y, e, p⟩ := Pst.opt p
  obtain ⟨ds, e1, e2⟩ := Option.bind_eq_some_iff.mp e
  obtain ⟨a, vs, rfl, s, rs⟩ := hr.seq rx e1
  exact ⟨a, vs, ds, y, rfl, e2, s, rs, p⟩
theorem reps_bools {K : PySem.W.Frag} {α : List Addr} {H : Hp} : ∀ {ds : List D} {bs : List Bool} {vs : List V}, boolsOf ds = some bs → Reps K α H ds vs → vs = bs.map V.bl
  | [], bs, _, h, .nil => by cases h; rfl
  | d :: ds, bs, _, h, .cons r rs => by
    cases d with
    | bl b =>
      unfold boolsOf at h
      cases q : boolsOf ds with
      | none => rw [q] at h; cases h
      | some bs' =>
        rw [q] at h
        cases h
        cases r
        rw [reps_bools q rs]
        rfl
    | _ => cases h
theorem reps_intsOf {K : PySem.W.Frag} {α : List Addr} {H : Hp} : ∀ {ds : List D} {bs : List Int} {vs : List V}, intsOf ds = some bs → Reps K α H ds vs → vs = bs.map V.int
  | [], bs, _, h, .nil => by cases h; rfl
  | d :: ds, bs, _, h, .cons r rs => by
    cases d with
    | int b =>
      unfold intsOf at h
      cases q : intsOf ds with
      | none => rw [q] at h; cases h
      | some bs' =>
        rw [q] at h
        cases h
        cases r
        rw [reps_intsOf q rs]
        rfl
    | _ => cases h
theorem cs_len (hK : X.K = Γ.K) : CallS Γ (fun xs H Q => ∃ p ys, xs = [.ref p] ∧ (SqL X.K H p ys ∨ SqT X.K H p ys) ∧ Q (.int ys.length) H) .len := fun α h H x dx Q E hr rx p => by
  have key : Pst Γ (RV Γ) α H (optR (seqOf h dx) fun ds => .ok (.int ds.length) h) Q E → ∃ p ys, [x] = [.ref p] ∧ (SqL X.K H p ys ∨ SqT X.K H p ys) ∧ Q (.int ys.length) H := fun p' => by
    obtain ⟨a, vs, ds, rfl, _, s, rs, p''⟩ := seq_post hr rx p'
    refine ⟨a, vs, rfl, .inl (by rw [hK]; exact s), ?_⟩
    rw [← rs.length]
    exact p'' _ _ _ Step.refl hr (.int _)
  cases rx with
  | @tup a vs ds s rs =>
    refine ⟨a, vs, rfl, .inr (by rw [hK]; exact s), ?_⟩
    have p' : Pst Γ (RV Γ) α H (.ok (.int ds.length) h) Q E := p
    rw [← rs.length]
    exact p' _ _ _ Step.refl hr (.int _)
  | _ => exact key p
theorem cs_abs : CallS Γ (fun xs H Q => ∃ i, xs = [.int i] ∧ Q (.int (if i < 0 then -i else i)) H) .abs := fun α h H x dx Q E hr rx p => by
  cases rx <;> first | exact False.elim p | skip
  exact ⟨_, rfl, p _ _ _ Step.refl hr (.int _)⟩
theorem cs_int : CallS Γ (fun xs H Q => (∃ i, xs = [.int i] ∧ Q (.int i) H) ∨ ∃ k, xs = [.bl k] ∧ Q (.int (if k then 1 else 0)) H) .int := fun α h H x dx Q E hr rx p => by
  cases rx <;> first | exact False.elim p | skip
  · exact .inr ⟨_, rfl, p _ _ _ Step.refl hr (.int _)⟩
  · exact .inl ⟨_, rfl, p _ _ _ Step.refl hr (.int _)⟩
theorem cs_list (hK : X.K = Γ.K) : CallS Γ (fun xs H Q => ∃ p ys, xs = [.ref p] ∧ (SqL X.K H p ys ∨ SqT X.K H p ys) ∧ ∀ l, H l = none → Q (.ref l) (upd H l (.lst ys))) .list := fun α h H x dx Q E hr rx p => by
  have key : Pst Γ (RV Γ) α H (optR (seqOf h dx) fun ds => .ok (.ref h.length) (h ++ [.lst ds])) Q E → ∃ p ys, [x] = [.ref p] ∧ (SqL X.K H p ys ∨ SqT X.K H p ys) ∧ ∀ l, H l = none → Q (.ref l) (upd H l (.lst ys)) := fun p' => by
    obtain ⟨a, vs, ds, rfl, _, s, rs, p''⟩ := seq_post hr rx p'
    exact ⟨a, vs, rfl, .inl (by rw [hK]; exact s), fun l hl => p'' _ _ _ (Step.new' hl) (hr.new hl rs) (rep_new hr)⟩
  cases rx with
  | @tup a vs ds s rs =>
    have p' : Pst Γ (RV Γ) α H (.ok (.ref h.length) (h ++ [.lst ds])) Q E := p
    exact ⟨a, vs, rfl, .inr (by rw [hK]; exact s), fun l hl => p' _ _ _ (Step.new' hl) (hr.new hl rs) (rep_new hr)⟩
  | _ => exact key p
theorem cs_tuple (hK : X.K = Γ.K) : CallS Γ (fun xs H Q => ∃ p ys, xs = [.ref p] ∧ ((SqL X.K H p ys ∧ ∀ l, H l = none → Q (.ref l) (upd H l (.tup ys))) ∨ (SqT X.K H p ys ∧ Q (.ref p) H))) .tuple := fun α h H x dx Q E hr rx p => by
  have key : Pst Γ (RV Γ) α H (optR (seqOf h dx) fun ds => .ok (.tup ds) h) Q E → ∃ p ys, [x] = [.ref p] ∧ ((SqL X.K H p ys ∧ ∀ l, H l = none → Q (.ref l) (upd H l (.tup ys))) ∨ (SqT X.K H p ys ∧ Q (.ref p) H)) := fun p' => by
    obtain ⟨a, vs, ds, rfl, _, s, rs, p''⟩ := seq_post hr rx p'
    exact ⟨a, vs, rfl, .inl ⟨by rw [hK]; exact s, fun l hl => p'' _ _ _ (Step.other hl) (hr.other hl) (.tup (SqT.of upd_same) (rs.mono (Step.other hl)))⟩⟩
  cases rx with
  | @tup a vs ds s rs =>
    have p' : Pst Γ (RV Γ) α H (.ok (.tup ds) h) Q E := p
    exact ⟨a, vs, rfl, .inr ⟨by rw [hK]; exact s, p' _ _ _ Step.refl hr (.tup s rs)⟩⟩
  | _ => exact key p
theorem cs_all (hK : X.K = Γ.K) : CallS Γ (rAll X.K) .all := fun α h H x dx Q E hr rx p => by
  have p0 : Pst Γ (RV Γ) α H (optR ((seqOf h dx).bind boolsOf) fun bs => .ok (.bl (bs.all id)) h) Q E := by cases dx <;> exact p
  obtain ⟨a, vs, ds, y, rfl, e, s, rs, p''⟩ := seq_post2 hr rx p0
  rw [reps_bools e rs] at s
  exact ⟨a, y, rfl, by rw [hK]; exact s, p'' _ _ _ Step.refl hr (.bl _)⟩
theorem cs_any (hK : X.K = Γ.K) : CallS Γ (rAny X.K) .any := fun α h H x dx Q E hr rx p => by
  have p0 : Pst Γ (RV Γ) α H (optR ((seqOf h dx).bind boolsOf) fun bs => .ok (.bl (bs.any id)) h) Q E := by cases dx <;> exact p
  obtain ⟨a, vs, ds, y, rfl, e, s, rs, p''⟩ := seq_post2 hr rx p0
  rw [reps_bools e rs] at s
  exact ⟨a, y, rfl, by rw [hK]; exact s, p'' _ _ _ Step.refl hr (.bl _)⟩
theorem cs_sum (hK : X.K = Γ.K) : CallS Γ (rSum X.K) .sum := fun α h H x dx Q E hr rx p => by
  have p0 : Pst Γ (RV Γ) α H (optR ((seqOf h dx).bind intsOf) fun bs => .ok (.int bs.sum) h) Q E := by cases dx <;> exact p
  obtain ⟨a, vs, ds, y, rfl, e, s, rs, p''⟩ := seq_post2 hr rx p0
  rw [reps_intsOf e rs] at s
  exact ⟨a, y, rfl, by rw [hK]; exact s, p'' _ _ _ Step.refl hr (.int _)⟩
theorem de_bi {b : Bi} {e : Expr} {f : En → Hh → R D} (hK : X.K = Γ.K) (hc : X.calm = true) (hg : Gl X (biName b)) (hm : X.mg (biName b) = none) (hs : star e = false) (he : DE Γ X W e f) :
    DE Γ X W (.Call (.Name (biName b) p) [e] [] pos) (fun en h => bnd (f en h) (biOp b)) := by
  cases b with
  | len => exact de_call1B call_len_seq (cs_len hK) hg hm (by decide +kernel) (by decide) (by decide) hs he
  | abs => exact de_call1B call_abs cs_abs hg hm (by decide +kernel) (by decide) (by decide) hs he
  | int => exact de_call1T call_int1 cs_int hg hm (by decide +kernel) (by decide) (by decide) hs he
  | list => exact de_call1T call_list_of (cs_list hK) hg hm (by decide +kernel) (by decide) (by decide) hs he
  | tuple => exact de_call1T call_tuple_of (cs_tuple hK) hg hm (by decide +kernel) (by decide) (by decide) hs he
  | all => exact de_call1B (cr_all hc) (cs_all hK) hg hm (by decide +kernel) (by decide) (by decide) hs he
  | any => exact de_call1B (cr_any hc) (cs_any hK) hg hm (by decide +kernel) (by decide) (by decide) hs he
  | sum => exact de_call1B (cr_sum hc) (cs_sum hK) hg hm (by decide +kernel) (by decide) (by decide) hs he
/-! ### isinstance -/
def tyName : Ty → String
  | .int => "int" | .bool => "bool" | .str => "str" | .tuple => "tuple" | .list => "list" | .dict => "dict"
def kdName : Kd → String
  | .non => "NoneType" | .bool => "bool" | .int => "int" | .str => "str" | .tuple => "tuple" | .list => "list"
theorem kit_kd (t : Ty) (k : Kd) : kitB (kdName k) (tyName t) = some (isK t k) := by cases t <;> cases k <;> decide +kernel
theorem rep_ty {K : PySem.W.Frag} {α : List Addr} {h : Hh} {H : Hp} {d : D} {v : V} (hr : HR K α h H) (r : Rep K α H d v) (hn : ∀ n, d = .ref n → ∃ o, h[n]? = some o) : TyX K H v (.type (kdName (kd d))) := by
  cases r with
  | non => exact .base .non
  | bl b => exact .base (.bl b)
  | int i => exact .base (.int i)
  | str x => exact .base (.str x)
  | @tup a vs ds s rs =>
    rcases s with (s | ⟨o, s⟩) | ⟨o, its, n, e, c, _⟩
    · exact .base (.tup s)
    · exact .fTuple s
    · exact .kTuple e c
  | @ref n a ha =>
    obtain ⟨o, ho⟩ := hn n rfl
    cases o with
    | lst ds =>
      obtain ⟨vs, e, _⟩ := hr.lst ha ho
      exact .base (.lst e)
  | @scr ns a hs =>
    rcases hs with ⟨o, s⟩ | ⟨o, its, n, e, c, _⟩
    · exact .base (.frz s)
    · exact .kList e c
theorem HR.there {K : PySem.W.Frag} {α : List Addr} {h : Hh} {H : Hp} {d : D} {v : V} (hr : HR K α h H) (r : Rep K α H d v) : ∀ n, d = .ref n → ∃ o, h[n]? = some o := fun n e => by
  subst e
  cases r with
  | ref ha =>
    have hl : n < h.length := by rw [← hr.len]; exact (List.getElem?_eq_some_iff.mp ha).1
    exact ⟨_, List.getElem?_eq_getElem hl⟩
theorem de_isi {t : Ty} {e : Expr} {p2 : Pos} {f : En → Hh → R D} (hK : X.K = Γ.K) (hg : Gl X "isinstance") (hm : X.mg "isinstance" = none) (hg2 : Gl X (Str.ofString (tyName t))) (hm2 : X.mg (Str.ofString (tyName t)) = none) (hs : star e = false) (he : DE Γ X W e f) :
    DE Γ X W (.Call (.Name "isinstance" p) [e, .Name (Str.ofString (tyName t)) p2] [] pos) (fun en h => bnd (f en h) fun x h1 => .ok (.bl (isTy t x)) h1) := by
  obtain ⟨z, pz, k⟩ := he.ex
  have pty : PE X (.Name (Str.ofString (tyName t)) p2) (tC (.ty (tyName t))) := by
    cases t <;> exact pe_bltn hg2 hm2 (by decide +kernel) rfl (by decide) (by decide)
  refine ⟨_, pe_callB call_isi hg hm (by decide +kernel) (pa_cons pz (pa_cons pty pa_nil rfl) (starEach_cons hs)) (by decide) (by decide) (starEach_cons hs) rfl, fun α h H en σ Q hr er p => k _ _ _ _ _ _ hr er (p.bnd fun d h1 α1 H1 v st1 hr1 r1 p1 => ?_)⟩
  have ty := rep_ty hr1 r1 (hr1.there r1)
  exact ⟨v, .ty (tyName t), .type (kdName (kd d)), .type (tyName t), isTy t d, rfl, .ty _, by rw [hK]; exact ty, kit_ty (kit_kd t (kd d)), p1 _ _ _ Step.refl hr1 (.bl _)⟩
/-! ### iterables -/
def iSeq (K : PySem.W.Frag) (tl : TE) : TI := fun σ H R => tl σ H fun x H1 => ∃ a, x = .ref a ∧ (((∃ xs, SqL K H1 a xs) ∧ R (Itl K a) H1) ∨ ((∃ xs, SqT K H1 a xs) ∧ R (Itt K a) H1))
theorem pi_seq {tg l : Expr} {tl : TE} (hl : PE X l tl) : PI X tg l (iSeq X.K tl) := by
  refine ⟨fun pins s σ H R I h => thn (hl.run pins s σ H _ I h) fun v s1 ⟨x, H1, I1, r1, a, e, q⟩ => ?_⟩
  subst e
  cases r1
  have fp : ∀ b ∈ [s1.heap.objs.size], FpOk X pins H1 b := fun b hb => by
    rw [List.mem_singleton] at hb
    subst hb
    exact I1.fpOk (Nat.le_refl _) (I1.hok.fresh (Nat.le_refl _))
  rcases q with ⟨⟨xs, hq⟩, q⟩ | ⟨⟨xs, hq⟩, q⟩
  · obtain ⟨its, rv, pl, hz⟩ := I1.list hq
    exact wpAny_pyIter_list pl.isList ⟨_, _, _, _, H1, rfl, I1.kept (t' := s1.toks) (fun b o => Heap.get?_push_of_some _), turn_list a _, ⟨_, Heap.get?_push_size _ rfl, rfl, rfl⟩, fp, q⟩
  · obtain ⟨its, rv, pl, hz⟩ := I1.tuple hq
    exact wpAny_pyIter_tuple (show s1.heap.IsTuple a its.toArray from pl) ⟨_, _, _, _, H1, rfl, I1.kept (t' := s1.toks) (fun b o => Heap.get?_push_of_some _), turn_tuple a _, ⟨_, Heap.get?_push_size _ rfl, rfl, rfl⟩, fp, q⟩
theorem itr_tup {α : List Addr} {H : Hp} {a : Addr} {vs : List V} {ds : List D} (s : SqT Γ.K H a vs) (rs : Reps Γ.K α H ds vs) : ItR Γ α H (.tup ds) (Itt Γ.K a) := by
  intro α' h' H' st hr i
  have s' := st.tup _ _ s
  have rs' := rs.mono st
  show match (some ds[i]? : Option (Option D)) with | none => True | some none => _ | some (some d) => _
  cases e : ds[i]? with
  | none =>
    refine ⟨vs, s', ?_⟩
    rw [← rs'.length]
    exact List.getElem?_eq_none_iff.mp e
  | some d =>
    obtain ⟨v, ev, rv⟩ := rs'.get e
    refine ⟨⟨vs, v, s', ev⟩, fun x H'' y => ?_⟩
    obtain ⟨rfl, fx⟩ := y
    have := fx vs s'
    rw [ev] at this
    cases this
    exact ⟨Step.refl, hr, rv⟩
theorem itr_lst {α : List Addr} {H : Hp} {dx : D} {a : Addr} (rx : Rep Γ.K α H dx (.ref a)) (hl : ∀ ds, dx ≠ .tup ds) : ItR Γ α H (.lst dx) (Itl Γ.K a) := by
  intro α' h' H' st hr i
  have rx' := rx.mono st
  show match (seqOf h' dx).map (·[i]?) with | none => True | some none => _ | some (some d) => _
  cases q : seqOf h' dx with
  | none => exact trivial
  | some ds =>
    obtain ⟨b, vs, eb, s, rs⟩ := hr.seq rx' q
    cases eb
    rw [Option.map_some]
    cases e : ds[i]? with
    | none =>
      refine ⟨vs, s, ?_⟩
      rw [← rs.length]
      exact List.getElem?_eq_none_iff.mp e
    | some d =>
      obtain ⟨v, ev, rv⟩ := rs.get e
      refine ⟨⟨vs, v, s, ev⟩, fun x H'' y => ?_⟩
      obtain ⟨rfl, fx⟩ := y
      have := fx vs s
      rw [ev] at this
      cases this
      exact ⟨Step.refl, hr, rv⟩
theorem di_seq {tg e : Expr} {f : En → Hh → R D} (hK : X.K = Γ.K) (he : DE Γ X W e f) : DI Γ X W tg e (fun en h => bnd (f en h) seqIt) := by
  obtain ⟨t, pt, k⟩ := he.ex
  refine ⟨_, pi_seq pt, fun α h H en σ Q hr er p => k _ _ _ _ _ _ hr er (p.bnd fun d h1 α1 H1 v st1 hr1 r1 p1 => ?_)⟩
  have key : (∀ ds, d ≠ .tup ds) → Pst Γ (ItR Γ) α1 H1 (optR (seqOf h1 d) fun _ => .ok (.lst d) h1) Q (fun c d H' => W c d σ H') → ∃ a, v = .ref a ∧ (((∃ xs, SqL X.K H1 a xs) ∧ Q (Itl X.K a) H1) ∨ ((∃ xs, SqT X.K H1 a xs) ∧ Q (Itt X.K a) H1)) := fun hd p' => by
    obtain ⟨ds, e, p'⟩ := Pst.opt p'
    obtain ⟨a, vs, rfl, s, rs⟩ := hr1.seq r1 e
    rw [hK]
    exact ⟨a, rfl, .inl ⟨⟨vs, s⟩, p' _ _ _ Step.refl hr1 (itr_lst r1 hd)⟩⟩
  cases r1 with
  | @tup a vs ds s rs =>
    have p' : Pst Γ (ItR Γ) α1 H1 (.ok (.tup ds) h1) Q (fun c d H' => W c d σ H') := p1
    rw [hK]
    refine ⟨a, rfl, .inr ⟨⟨vs, s⟩, p' _ _ _ Step.refl hr1 (itr_tup s rs)⟩⟩
  | non => exact False.elim p1
  | bl b => exact False.elim p1
  | int b => exact False.elim p1
  | str b => exact False.elim p1
  | ref ha => exact key (fun ds z => nomatch z) p1
  | scr ha => exact key (fun ds z => nomatch z) p1
end
end PD

set_option Elab.async false
set_option linter.all false
set_option maxRecDepth 100000
set_option maxHeartbeats 1000000
namespace PD
open PySem PySem.Spec PyProof.Rows L2
section
variable {Γ : Wd} {X : Cx} {W : WX} {pos p : Pos}
/-! ### ranges, enumerate, zip -/
theorem itr_rng {α : List Addr} {H : Hp} (lo : Int) (n : Nat) : ItR Γ α H (.rng lo n) (Itr lo n) := by
  intro α' h' H' st hr i
  show match (if i < n then some (some (.int (lo + i))) else some none : Option (Option D)) with | none => True | some none => _ | some (some d) => _
  by_cases c : i < n
  · rw [if_pos c]
    refine ⟨c, fun x H'' y => ?_⟩
    obtain ⟨rfl, rfl⟩ := y
    exact ⟨Step.refl, hr, .int _⟩
  · rw [if_neg c]
    exact Nat.le_of_not_lt c
theorem rng_post {α : List Addr} {h : Hh} {H : Hp} {lo : Int} {d : D} {v : V} {Q : L2.It → Hp → Prop} {E : XK} (hr : HR Γ.K α h H) (r : Rep Γ.K α H d v) (p : Pst Γ (ItR Γ) α H (rngIt lo d h) Q E) :
    ∃ hi, v = .int hi ∧ -(2 ^ 62) ≤ lo ∧ lo < 2 ^ 62 ∧ -(2 ^ 62) ≤ hi ∧ hi < 2 ^ 62 ∧ Q (Itr lo (hi - lo).toNat) H := by
  cases r <;> first | exact False.elim p | skip
  rename_i hi
  dsimp only [rngIt] at p
  by_cases c : -(2 ^ 62) ≤ lo ∧ lo < 2 ^ 62 ∧ -(2 ^ 62) ≤ hi ∧ hi < 2 ^ 62
  · rw [if_pos c] at p
    exact ⟨hi, rfl, c.1, c.2.1, c.2.2.1, c.2.2.2, p _ _ _ Step.refl hr (itr_rng _ _)⟩
  · rw [if_neg c] at p
    exact False.elim p
theorem di_rng1 {tg a : Expr} {f : En → Hh → R D} (hg : Gl X "range") (hm : X.mg "range" = none) (hs : star a = false) (ha : DE Γ X W a f) :
    DI Γ X W tg (.Call (.Name "range" p) [a] [] pos) (fun en h => bnd (f en h) fun x h1 => rngIt 0 x h1) := by
  obtain ⟨t, pt, k⟩ := ha.ex
  refine ⟨_, pi_range1 hg hm (pa_cons pt pa_nil (starEach_cons hs)) (starEach_cons hs), fun α h H en σ Q hr er p => k _ _ _ _ _ _ hr er (p.bnd fun d h1 α1 H1 v st1 hr1 r1 p1 => ?_)⟩
  obtain ⟨hi, rfl, _, _, c1, c2, q⟩ := rng_post hr1 r1 p1
  rw [Int.sub_zero] at q
  exact ⟨hi, rfl, c1, c2, q⟩
theorem di_rng2 {tg a b : Expr} {f g : En → Hh → R D} (hg : Gl X "range") (hm : X.mg "range" = none) (hs : star a = false) (hs2 : star b = false) (ha : DE Γ X W a f) (hb : DE Γ X W b g) :
    DI Γ X W tg (.Call (.Name "range" p) [a, b] [] pos) (fun en h => bnd (f en h) fun x h1 => bnd (g en h1) fun y h2 => bnd (toInt x h2) fun lo h3 => rngIt lo y h3) := by
  obtain ⟨t, pt, k⟩ := ha.ex
  obtain ⟨u, pu, l⟩ := hb.ex
  refine ⟨_, pi_range2 hg hm (pa_cons pt (pa_cons pu pa_nil (starEach_cons hs2)) (starEach_cons hs)) (by rw [starEach_cons hs, starEach_cons hs2]; rfl) (starEach_cons hs2), fun α h H en σ Q hr er p => k _ _ _ _ _ _ hr er (p.bnd fun d h1 α1 H1 v st1 hr1 r1 p1 => ?_)⟩
  refine l _ _ _ _ _ _ hr1 (er.mono st1) (p1.bnd fun y h2 α2 H2 yv st2 hr2 r2 p2 => ?_)
  have r1' := r1.mono st2
  cases r1' <;> first | exact False.elim p2 | skip
  obtain ⟨hi, rfl, c1, c2, c3, c4, q⟩ := rng_post hr2 r2 p2
  exact ⟨_, hi, rfl, ⟨c1, c2, c3, c4⟩, q⟩
theorem itr_enum {α : List Addr} {H : Hp} {dx : D} {a : Addr} (rx : Rep Γ.K α H dx (.ref a)) : ItR Γ α H (.enum dx) (Ite Γ.K a) := by
  intro α' h' H' st hr i
  have rx' := rx.mono st
  show match (seqOf h' dx).map (fun ds => ds[i]?.map fun d => D.tup [.int i, d]) with | none => True | some none => _ | some (some d) => _
  cases q : seqOf h' dx with
  | none => exact trivial
  | some ds =>
    obtain ⟨b, vs, eb, s, rs⟩ := hr.seq rx' q
    cases eb
    rw [Option.map_some]
    cases e : ds[i]? with
    | none =>
      refine ⟨vs, s, ?_⟩
      rw [← rs.length]
      exact List.getElem?_eq_none_iff.mp e
    | some d =>
      obtain ⟨v, ev, rv⟩ := rs.get e
      refine ⟨⟨vs, v, s, ev⟩, fun x H'' y => ?_⟩
      obtain ⟨T, z, rfl, hT, rfl, fx⟩ := y
      have := fx vs s
      rw [ev] at this
      cases this
      exact ⟨Step.other hT, hr.other hT, .tup (SqT.of upd_same) (.cons (.int _) (.cons (rv.mono (Step.other hT)) .nil))⟩
theorem di_enum {a : Expr} {elts : List Expr} {kk : Nat} {tpos : Pos} {f : En → Hh → R D} (hK : X.K = Γ.K) (hg : Gl X "enumerate") (hm : X.mg "enumerate" = none) (hs : star a = false) (ha : DE Γ X W a f) :
    DI Γ X W (.Tuple elts kk tpos) (.Call (.Name "enumerate" p) [a] [] pos) (fun en h => bnd (f en h) enumIt) := by
  obtain ⟨t, pt, k⟩ := ha.ex
  refine ⟨_, pi_enum hg hm (pa_cons pt pa_nil (starEach_cons hs)) (starEach_cons hs), fun α h H en σ Q hr er p => k _ _ _ _ _ _ hr er (p.bnd fun d h1 α1 H1 v st1 hr1 r1 p1 => ?_)⟩
  obtain ⟨ds, e, p1⟩ := Pst.opt p1
  obtain ⟨a, vs, rfl, s, rs⟩ := hr1.seq r1 e
  rw [hK]
  exact ⟨a, vs, rfl, s, p1 _ _ _ Step.refl hr1 (itr_enum r1)⟩
theorem itr_zip {α : List Addr} {H : Hp} {dx dy : D} {a b : Addr} (rx : Rep Γ.K α H dx (.ref a)) (ry : Rep Γ.K α H dy (.ref b)) : ItR Γ α H (.zip dx dy) (Itz Γ.K a b) := by
  intro α' h' H' st hr i
  have rx' := rx.mono st
  have ry' := ry.mono st
  cases q1 : seqOf h' dx with
  | none => dsimp only [It.next]; rw [q1]; exact trivial
  | some ds =>
    cases q2 : seqOf h' dy with
    | none => dsimp only [It.next]; rw [q1, q2]; exact trivial
    | some es =>
      obtain ⟨_, vs, eb, s, rs⟩ := hr.seq rx' q1
      cases eb
      obtain ⟨_, ws, eb, s2, rs2⟩ := hr.seq ry' q2
      cases eb
      cases e1 : ds[i]? with
      | none =>
        dsimp only [It.next]; rw [q1, q2]; dsimp only; rw [e1]
        exact ⟨vs, ws, s, s2, .inl (by rw [← rs.length]; exact List.getElem?_eq_none_iff.mp e1)⟩
      | some d =>
        cases e2 : es[i]? with
        | none =>
          dsimp only [It.next]; rw [q1, q2]; dsimp only; rw [e1, e2]
          exact ⟨vs, ws, s, s2, .inr (by rw [← rs2.length]; exact List.getElem?_eq_none_iff.mp e2)⟩
        | some e =>
          dsimp only [It.next]; rw [q1, q2]; dsimp only; rw [e1, e2]
          obtain ⟨v, ev, rv⟩ := rs.get e1
          obtain ⟨w, ew, rw'⟩ := rs2.get e2
          refine ⟨⟨vs, ws, v, w, s, s2, ev, ew⟩, fun x H'' y => ?_⟩
          obtain ⟨T, z, z', rfl, hT, rfl, fx, fy⟩ := y
          have t1 := fx vs s
          rw [ev] at t1
          cases t1
          have t2 := fy ws s2
          rw [ew] at t2
          cases t2
          exact ⟨Step.other hT, hr.other hT, .tup (SqT.of upd_same) (.cons (rv.mono (Step.other hT)) (.cons (rw'.mono (Step.other hT)) .nil))⟩
theorem di_zip {a b : Expr} {elts : List Expr} {kk : Nat} {tpos : Pos} {f g : En → Hh → R D} (hK : X.K = Γ.K) (hg : Gl X "zip") (hm : X.mg "zip" = none) (hs : star a = false) (hs2 : star b = false) (ha : DE Γ X W a f) (hb : DE Γ X W b g) :
    DI Γ X W (.Tuple elts kk tpos) (.Call (.Name "zip" p) [a, b] [] pos) (fun en h => bnd (f en h) fun x h1 => bnd (g en h1) fun y h2 => zipIt x y h2) := by
  obtain ⟨t, pt, k⟩ := ha.ex
  obtain ⟨u, pu, l⟩ := hb.ex
  refine ⟨_, pi_zip hg hm (pa_cons pt (pa_cons pu pa_nil (starEach_cons hs2)) (starEach_cons hs)) (starEach_cons hs) (starEach_any (by simp [hs2])), fun α h H en σ Q hr er p => k _ _ _ _ _ _ hr er (p.bnd fun d h1 α1 H1 v st1 hr1 r1 p1 => ?_)⟩
  refine l _ _ _ _ _ _ hr1 (er.mono st1) (p1.bnd fun y h2 α2 H2 yv st2 hr2 r2 p2 => ?_)
  obtain ⟨ds, e, p2⟩ := Pst.opt p2
  obtain ⟨es, e', p2⟩ := Pst.opt p2
  have r1' := r1.mono st2
  obtain ⟨a, vs, rfl, s, rs⟩ := hr2.seq r1' e
  obtain ⟨b, ws, rfl, s', rs'⟩ := hr2.seq r2 e'
  rw [hK]
  exact ⟨a, b, vs, ws, rfl, s, s', p2 _ _ _ Step.refl hr2 (itr_zip r1' r2)⟩
/-! ### targets -/
theorem dg_name {i : Nat} {x : Str} (hN : X.N.Nodup) (hi : X.N[i]? = some x) (hx : Loc X.env.scope x) (hf : X.fn x = true ∨ X.env.scope.names.lookup x = some .local) : DG Γ X (.Name x pos) [i] (fun d en h => .ok (en.set i (some d)) h) :=
  ⟨_, pg_name hN hi hx hf, fun α h H d v en σ Q hr er rd p => p _ _ _ Step.refl hr ⟨er.set i rd, Agr.set σ i _⟩⟩
theorem dgs_nil : DGs Γ X [] [] (fun ds en h => match ds with | [] => .ok en h | _ => .bad) := by
  refine ⟨_, pgs_nil, fun α h H ds vs en σ Q hr er rd p => ?_⟩
  cases rd with
  | nil => exact ⟨rfl, p _ _ _ Step.refl hr ⟨er, Agr.refl⟩⟩
  | cons _ _ => exact False.elim p
theorem assignEach_cons {e : Expr} {es : List Expr} {env : Env} (h : star e = false) : assignEach (e :: es) env = (false, assign e env) :: assignEach es env := by
  cases e <;> first | rfl | cases h
theorem dgs_cons {e : Expr} {es : List Expr} {sl sl' : List Nat} {f : D → En → Hh → R En} {g : List D → En → Hh → R En} (hs : star e = false) (he : DG Γ X e sl f) (hes : DGs Γ X es sl' g) :
    DGs Γ X (e :: es) (sl ++ sl') (fun ds en h => match ds with | d :: ds => bnd (f d en h) fun en1 h1 => g ds en1 h1 | [] => .bad) := by
  obtain ⟨t, pt, k⟩ := he.ex
  obtain ⟨u, pu, l⟩ := hes.ex
  refine ⟨_, pgs_cons pt pu (by rw [assignEach_cons hs]; rfl), fun α h H ds vs en σ Q hr er rd p => ?_⟩
  cases rd with
  | nil => exact False.elim p
  | cons r rs =>
    dsimp only at p
    rw [noExc_bnd] at p
    refine ⟨_, _, rfl, k _ _ _ _ _ _ _ _ hr er r (p.bnd fun en1 h1 α1 H1 σ1 st1 hr1 r1 p1 => ?_)⟩
    refine l _ _ _ _ _ _ _ _ hr1 r1.1 (rs.mono st1) ?_
    cases e : noExc (g _ en1 h1) with
    | ok en2 h2 =>
      rw [e] at p1
      exact fun α2 H2 σ2 st2 hr2 r2 => p1 _ _ _ st2 hr2 ⟨r2.1, r1.2.trans r2.2⟩
    | exc c x h2 => rw [e] at p1; exact p1
    | bad => rw [e] at p1; exact p1
theorem PG.or {tg : Expr} {t u : TG} (a : PG X tg t) (b : PG X tg u) : PG X tg (fun v σ H Q => t v σ H Q ∨ u v σ H Q) :=
  ⟨fun pins s σ H v w Q I r h => h.elim (a.run pins s σ H v w Q I r) (b.run pins s σ H v w Q I r)⟩
theorem assignEach_len {env : Env} : ∀ {es : List Expr}, (assignEach es env).length = es.length
  | [] => rfl
  | e :: es => by
    cases e <;> (show (assignEach es env).length + 1 = es.length + 1; rw [assignEach_len])
theorem assignEach_idx {env : Env} : ∀ {es : List Expr}, es.any star = false → (assignEach es env).findIdx? (·.1) = none
  | [], _ => rfl
  | e :: es, h => by
    rw [List.any_cons, Bool.or_eq_false_iff] at h
    rw [assignEach_cons h.1, List.findIdx?_cons]
    simp only [Bool.false_eq_true, if_false]
    rw [assignEach_idx h.2]
    rfl
theorem dg_tup {es : List Expr} {sl : List Nat} {kk : Nat} {g : List D → En → Hh → R En} (hK : X.K = Γ.K) (hc : X.calm = true) (hs : es.any star = false) (hx : ∀ ds en h, ds.length ≠ es.length → noExc (g ds en h) = .bad) (hes : DGs Γ X es sl g) :
    DG Γ X (.Tuple es kk pos) sl (fun d en h => match d with | .tup ds => g ds en h | x => optR (seqOf h x) fun ds => g ds en h) := by
  obtain ⟨u, pu, l⟩ := hes.ex
  refine ⟨_, PG.or (pg_tup (n := es.length) hc pu assignEach_len (assignEach_idx hs)) (pg_lst (n := es.length) hc pu assignEach_len (assignEach_idx hs)), fun α h H d v en σ Q hr er rd p => ?_⟩
  have key : Pst Γ (REn Γ sl σ) α H (noExc (optR (seqOf h d) fun ds => g ds en h)) Q (fun _ _ _ => False) → gLst X.K es.length u v σ H Q := fun p' => by
    rw [noExc_opt] at p'
    obtain ⟨ds, e, p'⟩ := Pst.opt p'
    obtain ⟨a, vs, rfl, s, rs⟩ := hr.seq rd e
    have hlen : ds.length = es.length := by
      by_cases c : ds.length = es.length
      · exact c
      · rw [hx ds en h c] at p'
        exact False.elim p'
    exact ⟨a, vs, rfl, by rw [hK]; exact s, by rw [← rs.length]; exact hlen, l _ _ _ _ _ _ _ _ hr er rs p'⟩
  cases rd with
  | @tup a vs ds s rs =>
    have p' : Pst Γ (REn Γ sl σ) α H (noExc (g ds en h)) Q (fun _ _ _ => False) := p
    have hlen : ds.length = es.length := by
      by_cases c : ds.length = es.length
      · exact c
      · rw [hx ds en h c] at p'
        exact False.elim p'
    exact .inl ⟨a, vs, rfl, by rw [hK]; exact s, by rw [← rs.length]; exact hlen, l _ _ _ _ _ _ _ _ hr er rs p'⟩
  | _ => exact .inr (key p)
theorem dg_sub {o i : Expr} {f g : En → Hh → R D} (ho : DE Γ X W o f) (hi : DE Γ X W i g)
    (ha : ∀ v, assign (.Subscript o i pos) X.env v = (do
      let ov ← holding [v] (eval o X.env)
      let iv ← holding [v, ov] (eval i X.env)
      standAt pos
      holding [v, ov, iv] (setItem ov iv v)
      release [v, ov, iv] [])) : DG Γ X (.Subscript o i pos) [] (fun d en h => bnd (f en h) fun x h1 => bnd (g en h1) fun y h2 => bnd (setAt x y d h2) fun _ h3 => .ok en h3) := by
  obtain ⟨t, pt, k⟩ := ho.ex
  obtain ⟨u, pu, l⟩ := hi.ex
  refine ⟨_, pg_sub pt pu set_list ha, fun α h H d v en σ Q hr er rd p => ?_⟩
  rw [noExc_bnd] at p
  refine k _ _ _ _ _ _ hr er (Pst.noExc (p.bnd fun x h1 α1 H1 xv st1 hr1 r1 p1 => ?_))
  rw [noExc_bnd] at p1
  refine l _ _ _ _ _ _ hr1 (er.mono st1) (Pst.noExc (p1.bnd fun y h2 α2 H2 yv st2 hr2 r2 p2 => ?_))
  have r1' := r1.mono st2
  cases r1' <;> first | exact False.elim p2 | skip
  rename_i n a han
  cases r2 <;> first | exact False.elim p2 | skip
  rename_i kk
  have p3 : Pst Γ (REn Γ [] σ) α2 H2 (noExc (bnd (optR (lstOf h2 n) fun ds => optR (L2.ixN ds.length kk) fun j => R.ok () (h2.set n (.lst (ds.set j d)))) fun _ h3 => .ok en h3)) Q (fun _ _ _ => False) := p2
  cases q1 : lstOf h2 n with
  | none => rw [q1] at p3; exact False.elim p3
  | some ds =>
    cases q2 : L2.ixN ds.length kk with
    | none => rw [q1, optR_some, q2] at p3; exact False.elim p3
    | some j =>
      rw [q1, optR_some, q2] at p3
      obtain ⟨vs, e, rs⟩ := hr2.lst han (lstOf_some q1)
      refine ⟨a, vs, kk, j, rfl, rfl, e, by rw [← rs.length]; exact q2, ?_⟩
      have st := Step.set (K := Γ.K) (vs' := vs.set j v) e (List.mem_of_getElem? han)
      exact p3 _ _ _ st (hr2.set han e (Reps.set ((rd.mono st1).mono st2) j rs)) ⟨((er.mono st1).mono st2).mono st, Agr.refl⟩
/-! ### calls -/
def spF (Γ : Wd) (fs : List Fn) (k i n : Nat) : Sp := fun vs H Q E => vs.length = n ∧ ∃ α h ds, HR Γ.K α h H ∧ Reps Γ.K α H ds vs ∧ Pst Γ (RV Γ) α H (callF fs k i ds h) Q E
theorem callF_len {fs : List Fn} {k i : Nat} {ds : List D} {h : Hh} {α : List Addr} {H : Hp} {Q : V → Hp → Prop} {E : XK} {f : Fn} (hf : fget fs i = some f) (p : Pst Γ (RV Γ) α H (callF fs k i ds h) Q E) : ds.length = f.ps.length := by
  cases k with
  | zero => exact False.elim p
  | succ k =>
    unfold callF at p
    rw [hf] at p
    dsimp only at p
    by_cases c : ds.length = f.ps.length
    · exact c
    · rw [if_neg c] at p; exact False.elim p
theorem de_call {fs : List Fn} {k i : Nat} {f : Fn} {a : Addr} {fd : FuncData} {e : Expr} {es : List Expr} {g : En → Hh → R (List D)} (hf : fget fs i = some f) (F : FnOk X.prog X.w X.K X.mg X.base (L2.CX X.prog X.w) k a fd f.ps (spF Γ fs k i f.ps.length)) (hr : Room k X.A) (hg : Gl X f.name)
    (hm : X.mg f.name = some (.ref a)) (hk : PySem.W.keepIn X.K (.ref a) = true) (hb : Binds X.K fd f.ps []) (tk : Takes X W) (hs : (e :: es).any star = false) (hdb : (f.name == ("__debug__" : Str)) = false) (hes : DA Γ X W (e :: es) g) :
    DE Γ X W (.Call (.Name f.name p) (e :: es) [] pos) (fun en h => bnd (g en h) fun ds h1 => callF fs k i ds h1) := by
  obtain ⟨t, pt, l⟩ := hes.ex
  rw [List.any_cons, Bool.or_eq_false_iff] at hs
  refine ⟨_, pe_callS F hr hg hm hk hb (fun σ => passAt tk σ) pt hdb (starEach_cons hs.1) (starEach_any hs.2), fun α h H en σ Q hr er p => l _ _ _ _ _ _ hr er (p.bnd fun ds h1 α1 H1 vs st1 hr1 r1 p1 => ?_)⟩
  exact ⟨by rw [← r1.length]; exact callF_len hf p1, α1, h1, ds, hr1, r1, p1⟩
/-- f() -/
theorem pe_callS0 {CX : CXT} {k : Nat} {f : Addr} {fd : FuncData} {ps : List Str} {sp : Sp} {E : L2.St → XK} {x : Str} (F : FnOk X.prog X.w X.K X.mg X.base CX k f fd ps sp) (hr : Room k X.A) (hg : Gl X x) (hm : X.mg x = some (.ref f)) (hk : PySem.W.keepIn X.K (.ref f) = true) (hb : Binds X.K fd ps [])
    (hx : ∀ σ, PassesAt CX X σ (E σ)) (hdb : (x == ("__debug__" : Str)) = false) : PE X (.Call (.Name x p) [] [] pos) (fun σ H Q => sp [] H Q (E σ)) :=
  ⟨fun pins s σ H Q I h => wpAny_Call_Name_kw (ld_glob I hg hm (PySem.W.callWith_K0 I.kIn hk (run_fnS (us := []) F hr hb (hx σ) I .nil h)) hdb)⟩
theorem de_call0 {fs : List Fn} {k i : Nat} {f : Fn} {a : Addr} {fd : FuncData} (hf : fget fs i = some f) (F : FnOk X.prog X.w X.K X.mg X.base (L2.CX X.prog X.w) k a fd f.ps (spF Γ fs k i f.ps.length)) (hr : Room k X.A) (hg : Gl X f.name)
    (hm : X.mg f.name = some (.ref a)) (hk : PySem.W.keepIn X.K (.ref a) = true) (hb : Binds X.K fd f.ps []) (tk : Takes X W) (hdb : (f.name == ("__debug__" : Str)) = false) :
    DE Γ X W (.Call (.Name f.name p) [] [] pos) (fun en h => bnd (.ok [] h) fun ds h1 => callF fs k i ds h1) := by
  refine ⟨_, pe_callS0 F hr hg hm hk hb (fun σ => passAt tk σ) hdb, fun α h H en σ Q hr er p => ?_⟩
  have p1 : Pst Γ (RV Γ) α H (callF fs k i [] h) Q (fun c d H' => W c d σ H') := p
  exact ⟨callF_len hf p1, α, h, [], hr, .nil, p1⟩
end
end PD

set_option Elab.async false
set_option linter.all false
set_option maxRecDepth 100000
set_option maxHeartbeats 1000000
namespace PD
open PySem PySem.Spec PyProof.Rows L2
section
variable {Γ : Wd} {X : Cx} {W : WX} {pos p : Pos}
/-! ### comprehensions -/
theorem wipe_get {σ : L2.St} {j : Nat} : ∀ {vs : List Nat}, j ∉ vs → (L2.wipe σ vs)[j]? = σ[j]?
  | [], _ => rfl
  | v :: vs, h => by
    unfold L2.wipe
    rw [List.getElem?_set_ne (fun e => h (by simp [e]))]
    exact wipe_get fun z => h (List.mem_cons_of_mem _ z)
theorem wipe_in {σ : L2.St} {j : Nat} : ∀ {vs : List Nat}, j ∈ vs → j < σ.length → (L2.wipe σ vs)[j]? = some none
  | v :: vs, h, hl => by
    unfold L2.wipe
    by_cases e : v = j
    · subst e
      rw [List.getElem?_set_self (by rw [wipe_length]; exact hl)]
    · rw [List.getElem?_set_ne e]
      exact wipe_in ((List.mem_cons.mp h).resolve_left fun z => e z.symm) hl
theorem wipe_agr {sl vs : List Nat} {σ σ2 : L2.St} (a : Agr sl (L2.wipe σ vs) σ2) (hs : ∀ j ∈ sl, j ∈ vs) : L2.wipe σ2 vs = L2.wipe σ vs := by
  have hl : σ2.length = σ.length := by rw [a.1, wipe_length]
  apply List.ext_getElem?
  intro j
  by_cases hj : j ∈ vs
  · by_cases hn : j < σ.length
    · rw [wipe_in hj hn, wipe_in hj (by rw [hl]; exact hn)]
    · rw [List.getElem?_eq_none (by rw [wipe_length]; omega), List.getElem?_eq_none (by rw [wipe_length]; omega)]
  · rw [wipe_get hj, a.2 j fun z => hj (hs j z)]
structure DTs (Γ : Wd) (X : Cx) (W : WX) (es : List Expr) (f : En → Hh → R Bool) : Prop where
  pt : PTs X es (tTD Γ W f)
theorem dts_nil : DTs Γ X W [] (fun _ h => .ok true h) := ⟨⟨fun pins s σ H Q I ⟨α, h, en, hr, er, p⟩ => pts_nil.run pins s σ H Q I (p _ _ _ Step.refl hr rfl)⟩⟩
theorem dts_one {c : Expr} {f : En → Hh → R Bool} (h : DT Γ X W c f) : DTs Γ X W [c] f := ⟨pts_one h.pt⟩
theorem de_comp {elt tg iter : Expr} {ifs : List Expr} {scope : Scope} {own : List (Str × Nat)} {sl : List Nat} {fi : En → Hh → R It} {fg : D → En → Hh → R En} {ft : En → Hh → R Bool} {fe : En → Hh → R D}
    (hc : X.calm = true) (hN : X.N.Nodup) (hi : DI Γ X W tg iter fi) (ok : BlkOk X.N X.env.scope scope own) (hsl : ∀ j ∈ sl, j ∈ own.map (·.2))
    (hg : ∀ (s : Shared) (H : Hp) (C : Addr) (cl : List (Str × Addr)) (fp : List Addr), DG Γ (X.blk s H scope (compEnvC scope cl C X.env) fp) tg sl fg)
    (ht : ∀ (s : Shared) (H : Hp) (C : Addr) (cl : List (Str × Addr)) (fp : List Addr), DTs Γ (X.blk s H scope (compEnvC scope cl C X.env) fp) (fun _ _ _ _ => False) ifs ft)
    (he : ∀ (s : Shared) (H : Hp) (C : Addr) (cl : List (Str × Addr)) (fp : List Addr), DE Γ (X.blk s H scope (compEnvC scope cl C X.env) fp) (fun _ _ _ _ => False) elt fe)
    (hs : ∀ x, foldedSetIterable iter X.env x = pure x) :
    ∃ t, (PE X (.ListComp elt [⟨tg, iter, ifs, 0⟩] scope pos) t ∧
      (∀ {i : Nat} {y : Str} {py spos : Pos}, X.N[i]? = some y → X.env.scope.names.lookup y = some .local → swapsWith (.ListComp elt [⟨tg, iter, ifs, 0⟩] scope pos) (some (.Name y py)) spos.line X.env = pure true →
        PS X (.Assign [.Name y py] (.ListComp elt [⟨tg, iter, ifs, 0⟩] scope pos) spos) (tAsg t (gName i)))) ∧
      ∀ α h H en σ Q, HR Γ.K α h H → ER Γ.K α H en σ → Pst Γ (RV Γ) α H (bnd (fi en h) fun I h1 => bnd (noExc (compLoop I (fun d h2 => bnd (fg d (wipeE en (own.map (·.2))) h2) fun en3 h3 => bnd (ft en3 h3) fun k h4 =>
        if k = true then bnd (fe en3 h4) fun y h5 => .ok (some y) h5 else .ok none h4) turns 0 [] h1)) fun ds h2 => .ok (.ref h2.length) (h2 ++ [.lst ds])) Q (fun c d H' => W c d σ H') → t σ H Q := by
  obtain ⟨ti, pi, ki⟩ := hi.ex
  refine ⟨_, ⟨pe_lc hc hN pi ok (fun s H C cl fp => (hg s H C cl fp).pg) (fun s H C cl fp => (ht s H C cl fp).pt) (fun s H C cl fp => (he s H C cl fp).pe) hs, fun hy hyl hsw => ps_setLc hc hN hy hyl hsw pi ok (fun s H C cl fp => (hg s H C cl fp).pg) (fun s H C cl fp => (ht s H C cl fp).pt) (fun s H C cl fp => (he s H C cl fp).pe) hs⟩, fun α h H en σ Q hr er p => ?_⟩
  refine ki _ _ _ _ _ _ hr er (p.bnd fun I h1 α1 H1 J st1 hr1 itr p1 => ?_)
  intro Dd hD
  generalize hbody : (fun (d : D) (h2 : Hh) => bnd (fg d (wipeE en (own.map (·.2))) h2) fun en3 h3 => bnd (ft en3 h3) fun k h4 => if k = true then bnd (fe en3 h4) fun y h5 => R.ok (some y) h5 else R.ok none h4) = body at p1
  refine ⟨fun i m H' => ∃ α' h' acc accV, Step Γ.K α1 H1 α' H' ∧ Dd ∉ α' ∧ H' Dd = some (.lst accV) ∧ HR Γ.K α' h' H' ∧ Reps Γ.K α' H' acc accV ∧
      Pst Γ (RV Γ) α1 H1 (bnd (noExc (compLoop I body m i acc h')) fun ds h2 => .ok (.ref h2.length) (h2 ++ [.lst ds])) Q (fun c d H' => W c d σ H'),
    ⟨turns, α1, h1, [], [], Step.other hD, hr1.fresh hD, upd_same, hr1.other hD, .nil, p1⟩, ?_⟩
  rintro i m H' ⟨α', h', acc, accV, st, nD, eD, hr', racc, pp⟩
  cases m with
  | zero => exact False.elim pp
  | succ m =>
    have hit := itr α' h' H' st hr' i
    unfold compLoop at pp
    cases e : I.next i h' with
    | none => rw [e] at pp; exact False.elim pp
    | some o =>
      rw [e] at hit pp
      cases o with
      | none =>
        refine .inl ⟨hit, ?_⟩
        refine pp (α' ++ [Dd]) H' _ ?_ (hr'.adopt eD nD racc) (rep_new hr')
        refine ⟨⟨?_, st.tup, st.ro⟩, fun a ha => ?_, st.frm⟩
        · obtain ⟨β, rfl⟩ := st.pre
          exact ⟨β ++ [Dd], by simp⟩
        · rcases List.mem_append.mp ha with q | q
          · exact st.new a q
          · rw [List.mem_singleton] at q
            subst q
            exact .inr hD
      | some d =>
        refine .inr ⟨hit.1, fun H'' => ∃ α' h' acc accV, Step Γ.K α1 H1 α' H'' ∧ Dd ∉ α' ∧ H'' Dd = some (.lst accV) ∧ HR Γ.K α' h' H'' ∧ Reps Γ.K α' H'' acc accV ∧
          Pst Γ (RV Γ) α1 H1 (bnd (noExc (compLoop I body m (i + 1) acc h')) fun ds h2 => .ok (.ref h2.length) (h2 ++ [.lst ds])) Q (fun c d H' => W c d σ H'), fun H'' hw => ⟨m, Nat.lt_succ_self m, hw⟩, fun x Hx hy => ?_⟩
        obtain ⟨sx, hrx, rx⟩ := hit.2 x Hx hy
        have stx : Step Γ.K α1 H1 α' Hx := st.trans sx
        have eDx : Hx Dd = some (.lst accV) := sx.frm Dd _ nD eD
        have raccx := racc.mono sx
        dsimp only at pp
        subst hbody
        dsimp only at pp
        rw [noExc_bnd, bnd_assoc, noExc_bnd, bnd_assoc] at pp
        -- the target
        refine ⟨α', h', d, wipeE en (own.map (·.2)), hrx, ((er.mono st1).mono stx).wipe _, rx, Pst.noExc' (Pst.bndAt stx pp fun en3 h3 α3 H3 σ3 st3 hr3 r3 p3 => ?_)⟩
        refine ⟨wipe_agr r3.2 hsl, ?_⟩
        have nD3 : Dd ∉ α3 := fun z => (st3.new Dd z).elim nD fun q => by rw [eDx] at q; cases q
        have eD3 : H3 Dd = some (.lst accV) := st3.frm Dd _ nD eDx
        have stB : Step Γ.K α1 H1 α3 H3 := stx.trans st3
        -- the test
        rw [noExc_bnd, bnd_assoc] at p3
        refine ⟨α3, h3, en3, hr3, r3.1, Pst.noExc (Pst.bndAt stB p3 fun k h4 α4 H4 kv st4 hr4 r4 p4 => ?_)⟩
        cases r4
        have nD4 : Dd ∉ α4 := fun z => (st4.new Dd z).elim nD3 fun q => by rw [eD3] at q; cases q
        have eD4 : H4 Dd = some (.lst accV) := st4.frm Dd _ nD3 eD3
        have stA : Step Γ.K α1 H1 α4 H4 := stB.trans st4
        cases k with
        | false =>
          simp only [Bool.false_eq_true, if_false] at p4 ⊢
          exact ⟨α4, h4, acc, accV, stA, nD4, eD4, hr4, (raccx.mono st3).mono st4, p4⟩
        | true =>
          simp only [if_true] at p4 ⊢
          rw [noExc_bnd, bnd_assoc] at p4
          refine ⟨α4, h4, en3, hr4, r3.1.mono st4, Pst.noExc (Pst.bndAt stA p4 fun y h5 α5 H5 yv st5 hr5 r5 p5 => ?_)⟩
          have nD5 : Dd ∉ α5 := fun z => (st5.new Dd z).elim nD4 fun q => by rw [eD4] at q; cases q
          have eD5 : H5 Dd = some (.lst accV) := st5.frm Dd _ nD4 eD4
          have racc5 := ((raccx.mono st3).mono st4).mono st5
          have p6 : Pst Γ (RV Γ) α1 H1 (bnd (noExc (if acc.length < sizeLine then compLoop I (fun (d : D) (h2 : Hh) => bnd (fg d (wipeE en (own.map (·.2))) h2) fun en3 h3 => bnd (ft en3 h3) fun k h4 => if k = true then bnd (fe en3 h4) fun y h5 => R.ok (some y) h5 else R.ok none h4) m (i + 1) (acc ++ [y]) h5 else .bad)) fun ds h2 => .ok (.ref h2.length) (h2 ++ [.lst ds])) Q (fun c d H' => W c d σ H') := p5
          by_cases c : acc.length < sizeLine
          · rw [if_pos c] at p6
            exact ⟨accV, eD5, by rw [← racc.length]; exact c, α5, h5, acc ++ [y], accV ++ [yv], (stA.trans st5).over hD eD5, nD5, upd_same, hr5.over eD5 nD5, (racc5.append (.cons r5 .nil)).monoE (ext_over eD5), p6⟩
          · rw [if_neg c] at p6
            exact False.elim p6
/-! ### statements -/
theorem dss_nil : DSs Γ X W [] (fun en h => .nx en h) := ⟨_, pss_nil, fun _ _ _ _ _ _ hr er p => p _ _ _ Step.refl hr er⟩
theorem thenS_post {α : List Addr} {H : Hp} {r : RS} {f : En → Hh → RS} {Dn : Ends} (p : PstS Γ α H (thenS r f) Dn W) {N : L2.St → Hp → Prop} (k : ∀ en h α' H' σ', Step Γ.K α H α' H' → HR Γ.K α' h H' → ER Γ.K α' H' en σ' → PstS Γ α' H' (f en h) Dn W → N σ' H') : PstS Γ α H r { Dn with nx := N } W := by
  cases r with
  | nx en h => exact fun α' H' σ' st hr er => k en h α' H' σ' st hr er (PstS.step st p)
  | rt d h => exact p
  | bk en h => exact p
  | ct en h => exact p
  | exc c x en h => exact p
  | bad => exact p
theorem dss_cons {st : Stmt} {rest : List Stmt} {f g : En → Hh → RS} (h1 : DS Γ X W st f) (h2 : DSs Γ X W rest g) : DSs Γ X W (st :: rest) (fun en h => thenS (f en h) g) := by
  obtain ⟨t, pt, k⟩ := h1.ex
  obtain ⟨u, pu, l⟩ := h2.ex
  refine ⟨_, pss_cons pt pu, fun α h H en σ Dn hr er p => k _ _ _ _ _ _ hr er (thenS_post p fun en1 h1 α1 H1 σ1 st1 hr1 er1 p1 => l _ _ _ _ _ _ hr1 er1 p1)⟩
theorem ds_expr {e : Expr} {f : En → Hh → R D} (hs : swapsWith e none pos.line X.env = pure false) (he : DE Γ X W e f) : DS Γ X W (.Expr e pos) (fun en h => bndS (f en h) en fun _ h1 => .nx en h1) := by
  obtain ⟨t, pt, k⟩ := he.ex
  exact ⟨_, ps_expr pt hs, fun α h H en σ Dn hr er p => k _ _ _ _ _ _ hr er (PstS.bnd p er fun d h1 α1 H1 v st1 hr1 r1 p1 => p1 _ _ _ Step.refl hr1 (er.mono st1))⟩
theorem ds_doc {x j pos'} : DS Γ X W (.Expr (.Constant (.str x) j pos') pos) (fun en h => .nx en h) := ⟨_, ps_doc, fun _ _ _ _ _ _ hr er p => p _ _ _ Step.refl hr er⟩
theorem ds_ret {e : Expr} {f : En → Hh → R D} (he : DE Γ X W e f) : DS Γ X W (.Return (some e) pos) (fun en h => bndS (f en h) en fun d h1 => .rt d h1) := by
  obtain ⟨t, pt, k⟩ := he.ex
  exact ⟨_, ps_ret pt, fun α h H en σ Dn hr er p => k _ _ _ _ _ _ hr er (PstS.bnd p er fun d h1 α1 H1 v st1 hr1 r1 p1 => p1 _ _ _ Step.refl hr1 r1)⟩
theorem ds_retN : DS Γ X W (.Return none pos) (fun _ h => .rt .non h) := ⟨_, ps_retN, fun _ _ _ _ _ _ hr er p => p _ _ _ Step.refl hr .non⟩
theorem ds_pass : DS Γ X W (.Pass pos) (fun en h => .nx en h) := ⟨_, ps_pass, fun _ _ _ _ _ _ hr er p => p _ _ _ Step.refl hr er⟩
theorem ds_break : DS Γ X W (.Break pos) (fun en h => .bk en h) := ⟨_, ps_break, fun _ _ _ _ _ _ hr er p => p _ _ _ Step.refl hr er⟩
theorem ds_cont : DS Γ X W (.Continue pos) (fun en h => .ct en h) := ⟨_, ps_continue, fun _ _ _ _ _ _ hr er p => p _ _ _ Step.refl hr er⟩
theorem ds_if {c : Expr} {a b : List Stmt} {w : En → Hh → R Bool} {f g : En → Hh → RS} (hc : DT Γ X W c w) (ha : DSs Γ X W a f) (hb : DSs Γ X W b g) : DS Γ X W (.If c a b pos) (fun en h => bndS (w en h) en fun k h1 => if k = true then f en h1 else g en h1) := by
  obtain ⟨z, pz, n⟩ := hc.ex
  obtain ⟨t, pt, k⟩ := ha.ex
  obtain ⟨u, pu, l⟩ := hb.ex
  refine ⟨_, ps_if pz pt pu, fun α h H en σ Dn hr er p => n _ _ _ _ _ _ hr er (PstS.bnd p er fun d h1 α1 H1 v st1 hr1 r1 p1 => ?_)⟩
  cases r1
  cases d with
  | true => rw [if_pos rfl] at p1 ⊢; exact k _ _ _ _ _ _ hr1 (er.mono st1) p1
  | false => rw [if_neg (by decide)] at p1 ⊢; exact l _ _ _ _ _ _ hr1 (er.mono st1) p1
theorem ds_asg {tg e : Expr} {sl : List Nat} {f : En → Hh → R D} {g : D → En → Hh → R En} (hs : swapsWithSole [tg] e pos.line X.env = pure false) (hw : swappedStores [tg] e X.env = pure none) (h1 : star tg = false) (he : DE Γ X W e f) (hg : DG Γ X tg sl g) :
    DS Γ X W (.Assign [tg] e pos) (fun en h => bndS (f en h) en fun d h1 => bndS (noExc (g d en h1)) en fun en2 h2 => .nx en2 h2) := by
  obtain ⟨t, pt, k⟩ := he.ex
  obtain ⟨u, pu, l⟩ := hg.ex
  refine ⟨_, ps_asg pt pu hs hw (by rw [assignEach_cons h1]; rfl), fun α h H en σ Dn hr er p => k _ _ _ _ _ _ hr er (PstS.bnd p er fun d h1 α1 H1 v st1 hr1 r1 p1 => ?_)⟩
  refine l _ _ _ _ _ _ _ _ hr1 (er.mono st1) r1 ?_
  cases e : noExc (g d en h1) with
  | ok en2 h2 => rw [e] at p1; exact fun α2 H2 σ2 st2 hr2 r2 => p1 _ _ _ st2 hr2 r2.1
  | exc c x h2 =>
    exfalso
    revert e
    cases g d en h1 <;> intro e <;> cases e
  | bad => rw [e] at p1; exact p1
theorem ds_set {i : Nat} {x : Str} {e : Expr} {pos' : Pos} {f : En → Hh → R D} (hN : X.N.Nodup) (hi : X.N[i]? = some x) (hx : Loc X.env.scope x) (hf : X.fn x = true ∨ X.env.scope.names.lookup x = some .local) (hs : swapsWith e (some (.Name x pos')) pos.line X.env = pure false) (he : DE Γ X W e f) :
    DS Γ X W (.Assign [.Name x pos'] e pos) (fun en h => bndS (f en h) en fun d h1 => .nx (en.set i (some d)) h1) := by
  obtain ⟨t, pt, k⟩ := he.ex
  exact ⟨_, ps_set hN hi hx pt hs hf, fun α h H en σ Dn hr er p => k _ _ _ _ _ _ hr er (PstS.bnd p er fun d h1 α1 H1 v st1 hr1 r1 p1 => p1 _ _ _ Step.refl hr1 ((er.mono st1).set i r1))⟩
/-- name = [..], the comprehension's own store -/
theorem ds_setLc {i : Nat} {x : Str} {e : Expr} {pos' : Pos} {f : En → Hh → R D} (h : ∃ t, PS X (.Assign [.Name x pos'] e pos) (tAsg t (gName i)) ∧ ∀ α h H en σ Q, HR Γ.K α h H → ER Γ.K α H en σ → Pst Γ (RV Γ) α H (f en h) Q (fun c d H' => W c d σ H') → t σ H Q) :
    DS Γ X W (.Assign [.Name x pos'] e pos) (fun en h => bndS (f en h) en fun d h1 => .nx (en.set i (some d)) h1) := by
  obtain ⟨t, pt, k⟩ := h
  exact ⟨_, pt, fun α h H en σ Dn hr er p => k _ _ _ _ _ _ hr er (PstS.bnd p er fun d h1 α1 H1 v st1 hr1 r1 p1 => p1 _ _ _ Step.refl hr1 ((er.mono st1).set i r1))⟩
theorem ds_par2 {i j : Nat} {x y : Str} {a b : Expr} {px py pt : Pos} {kt k2 pt2} {g : En → Hh → R (List D)} (hc : X.calm = true) (hN : X.N.Nodup) (hi : X.N[i]? = some x) (hj : X.N[j]? = some y) (hij : i ≠ j) (hx : X.env.scope.names.lookup x = some .local) (hy : X.env.scope.names.lookup y = some .local)
    (hw : swappedStores [.Tuple [.Name x px, .Name y py] kt pt] (.Tuple [a, b] k2 pt2) X.env = pure (some [x, y])) (ha : DA Γ X W [a, b] g) :
    DS Γ X W (.Assign [.Tuple [.Name x px, .Name y py] kt pt] (.Tuple [a, b] k2 pt2) pos) (fun en h => bndS (g en h) en fun ds h1 => match parSet [i, j] ds en with | some en' => .nx en' h1 | none => .bad) := by
  obtain ⟨t, pt, k⟩ := ha.ex
  refine ⟨_, ps_par hc hN hi hj hij hx hy pt hw rfl, fun α h H en σ Dn hr er p => k _ _ _ _ _ _ hr er (PstS.bnd p er fun ds h1 α1 H1 vs st1 hr1 r1 p1 => ?_)⟩
  cases r1 with
  | nil => exact False.elim p1
  | cons r1 rs =>
    cases rs with
    | nil => exact False.elim p1
    | cons r2 rs =>
      cases rs with
      | nil => exact ⟨_, _, rfl, p1 _ _ _ Step.refl hr1 (((er.mono st1).set i r1).set j r2)⟩
      | cons _ _ => exact False.elim p1
theorem ds_par3 {i j l : Nat} {x y z : Str} {a b c : Expr} {px py pz pt : Pos} {kt k2 pt2} {g : En → Hh → R (List D)} (hc : X.calm = true) (hN : X.N.Nodup) (hi : X.N[i]? = some x) (hj : X.N[j]? = some y) (hl : X.N[l]? = some z) (hij : i ≠ j) (hil : i ≠ l) (hjl : j ≠ l)
    (hx : X.env.scope.names.lookup x = some .local) (hy : X.env.scope.names.lookup y = some .local) (hz : X.env.scope.names.lookup z = some .local)
    (hw : swappedStores [.Tuple [.Name x px, .Name y py, .Name z pz] kt pt] (.Tuple [a, b, c] k2 pt2) X.env = pure (some [x, y, z])) (ha : DA Γ X W [a, b, c] g) :
    DS Γ X W (.Assign [.Tuple [.Name x px, .Name y py, .Name z pz] kt pt] (.Tuple [a, b, c] k2 pt2) pos) (fun en h => bndS (g en h) en fun ds h1 => match parSet [i, j, l] ds en with | some en' => .nx en' h1 | none => .bad) := by
  obtain ⟨t, pt, k⟩ := ha.ex
  refine ⟨_, ps_par3 hc hN hi hj hl hij hil hjl hx hy hz pt hw rfl, fun α h H en σ Dn hr er p => k _ _ _ _ _ _ hr er (PstS.bnd p er fun ds h1 α1 H1 vs st1 hr1 r1 p1 => ?_)⟩
  cases r1 with
  | nil => exact False.elim p1
  | cons r1 rs =>
    cases rs with
    | nil => exact False.elim p1
    | cons r2 rs =>
      cases rs with
      | nil => exact False.elim p1
      | cons r3 rs =>
        cases rs with
        | nil => exact ⟨_, _, _, rfl, p1 _ _ _ Step.refl hr1 ((((er.mono st1).set i r1).set j r2).set l r3)⟩
        | cons _ _ => exact False.elim p1
theorem loop_post {α : List Addr} {H : Hp} {r : RS} {g : En → Hh → RS} {Dn : Ends} {N : L2.St → Hp → Prop}
    (p : PstS Γ α H (match r with | .nx en' h' => g en' h' | .ct en' h' => g en' h' | .bk en' h' => .nx en' h' | r => r) Dn W)
    (k : ∀ en h α' H' σ', Step Γ.K α H α' H' → HR Γ.K α' h H' → ER Γ.K α' H' en σ' → PstS Γ α' H' (g en h) Dn W → N σ' H') : PstS Γ α H r { Dn with nx := N, ct := N, bk := Dn.nx } W := by
  cases r with
  | nx en h => exact fun α' H' σ' st hr er => k en h α' H' σ' st hr er (PstS.step st p)
  | ct en h => exact fun α' H' σ' st hr er => k en h α' H' σ' st hr er (PstS.step st p)
  | bk en h => exact p
  | rt d h => exact p
  | exc c x en h => exact p
  | bad => exact p
theorem ds_while {c : Expr} {b : List Stmt} {w : En → Hh → R Bool} {f : En → Hh → RS} (hp : PassesOwn (model X.prog X.w) X.A X.env X.xe) (hc : DT Γ X W c w) (hb : DSs Γ X W b f) : DS Γ X W (.While c b [] pos) (fun en h => whileLoop w f turns en h) := by
  obtain ⟨z, pz, n⟩ := hc.ex
  obtain ⟨t, pt, k⟩ := hb.ex
  refine ⟨_, ps_while hp pz pt, fun α h H en σ Dn hr er p => ?_⟩
  refine ⟨fun m σ' H' => ∃ α' h' en', HR Γ.K α' h' H' ∧ ER Γ.K α' H' en' σ' ∧ PstS Γ α' H' (whileLoop w f m en' h') Dn W, ⟨turns, α, h, en, hr, er, p⟩, ?_⟩
  rintro m σ' H' ⟨α', h', en', hr', er', p'⟩
  cases m with
  | zero => exact False.elim p'
  | succ m =>
    unfold whileLoop at p'
    refine n _ _ _ _ _ _ hr' er' (PstS.bnd p' er' fun d h1 α1 H1 v st1 hr1 r1 p1 => ?_)
    cases r1
    cases d with
    | true =>
      rw [if_pos rfl] at p1 ⊢
      refine ⟨fun σ2 H2 => ∃ α' h' en', HR Γ.K α' h' H2 ∧ ER Γ.K α' H2 en' σ2 ∧ PstS Γ α' H2 (whileLoop w f m en' h') Dn W, fun σ2 H2 q => ⟨m, Nat.lt_succ_self m, q⟩, ?_⟩
      exact k _ _ _ _ _ _ hr1 (er'.mono st1) (loop_post p1 fun en2 h2 α2 H2 σ2 st2 hr2 er2 p2 => ⟨α2, h2, en2, hr2, er2, p2⟩)
    | false =>
      rw [if_neg (by decide)] at p1 ⊢
      exact p1 _ _ _ Step.refl hr1 (er'.mono st1)
theorem ds_for {tg iter : Expr} {b : List Stmt} {sl : List Nat} {fi : En → Hh → R It} {g : D → En → Hh → R En} {f : En → Hh → RS} (hp : PassesOwn (model X.prog X.w) X.A X.env X.xe) (hc : X.calm = true) (hfs : ∀ x, foldedSetIterable iter X.env x = pure x) (hi : DI Γ X W tg iter fi) (hg : DG Γ X tg sl g) (hb : DSs Γ X W b f) :
    DS Γ X W (.For tg iter b [] pos) (fun en h => bndS (fi en h) en fun I h1 => forLoop I g f turns 0 en h1) := by
  obtain ⟨z, pz, n⟩ := hi.ex
  obtain ⟨u, pu, l⟩ := hg.ex
  obtain ⟨t, pt, k⟩ := hb.ex
  refine ⟨_, ps_for hp hc pz pu pt hfs, fun α h H en σ Dn hr er p => n _ _ _ _ _ _ hr er (PstS.bnd p er fun I h1 α1 H1 J st1 hr1 itr p1 => ?_)⟩
  refine ⟨fun i m σ' H' => ∃ α' h' en', Step Γ.K α1 H1 α' H' ∧ HR Γ.K α' h' H' ∧ ER Γ.K α' H' en' σ' ∧ PstS Γ α' H' (forLoop I g f m i en' h') Dn W, ⟨turns, α1, h1, en, Step.refl, hr1, er.mono st1, p1⟩, ?_⟩
  rintro i m σ' H' ⟨α', h', en', st', hr', er', p'⟩
  cases m with
  | zero => exact False.elim p'
  | succ m =>
    unfold forLoop at p'
    have hit := itr α' h' H' st' hr' i
    cases e : I.next i h' with
    | none => rw [e] at p'; exact False.elim p'
    | some o =>
      rw [e] at hit p'
      cases o with
      | none => exact .inl ⟨hit, p' _ _ _ Step.refl hr' er'⟩
      | some d =>
        refine .inr ⟨hit.1, fun σ2 H2 => ∃ α' h' en', Step Γ.K α1 H1 α' H2 ∧ HR Γ.K α' h' H2 ∧ ER Γ.K α' H2 en' σ2 ∧ PstS Γ α' H2 (forLoop I g f m (i + 1) en' h') Dn W, fun σ2 H2 q => ⟨m, Nat.lt_succ_self m, q⟩, fun x Hx hy => ?_⟩
        obtain ⟨sx, hrx, rx⟩ := hit.2 x Hx hy
        have px := PstS.step sx p'
        refine l _ _ _ _ _ _ _ _ hrx (er'.mono sx) rx ?_
        dsimp only at px
        cases q : noExc (g d en' h') with
        | ok en3 h3 =>
          rw [q] at px
          intro α3 H3 σ3 st3 hr3 r3
          exact k _ _ _ _ _ _ hr3 r3.1 (loop_post (PstS.step st3 px) fun en4 h4 α4 H4 σ4 st4 hr4 er4 p4 => ⟨α4, h4, en4, ((st'.trans sx).trans st3).trans st4, hr4, er4, p4⟩)
        | exc c x h2 =>
          exfalso
          revert q
          cases g d en' h' <;> intro q <;> cases q
        | bad => rw [q] at px; exact px
end
end PD

set_option Elab.async false
set_option linter.all false
set_option maxRecDepth 100000
set_option maxHeartbeats 2000000
/-! The text becomes our language; what is said of the latter holds of the former. -/
namespace PD
open PySem PySem.Spec PyProof.Rows L2
def ixOf : List Str → Str → Option Nat
  | [], _ => none
  | y :: ys, x => if y = x then some 0 else (ixOf ys x).map (· + 1)
theorem ixOf_get : ∀ {N : List Str} {x : Str} {i : Nat}, ixOf N x = some i → N[i]? = some x
  | [], _, _, h => by cases h
  | y :: ys, x, i, h => by
    unfold ixOf at h
    by_cases e : y = x
    · rw [if_pos e] at h
      cases h
      simp [e]
    · rw [if_neg e] at h
      cases q : ixOf ys x with
      | none => rw [q] at h; cases h
      | some j =>
        rw [q] at h
        cases h
        simpa using ixOf_get q
structure GT where
  fns : List (Str × Nat)
  cons : List (Str × D)
def exs : List Ex → Exs
  | [] => .nil
  | e :: es => .cons e (exs es)
def odd (x : Str) : Bool := x == ("__debug__" : Str) || x == ("__classdict__" : Str)
def trName (g : GT) (N : List Str) (sc : Scope) (x : Str) : Ex :=
  if odd x = true then .bad else match sc.names.lookup x with
  | some .local | some .cell | some .free => match ixOf N x with
    | some i => .var i
    | none => .bad
  | some .globalImplicit => match g.cons.lookup x with
    | some d => .con d
    | none => .bad
  | _ => .bad
def trC : Const → Ex
  | .int i => .con (.int i)
  | .bool b => .con (.bl b)
  | .str s => .con (.str s)
  | .none => .con .non
  | _ => .bad
def trB (op : BoolOp) : List Ex → Ex
  | [] => .bad
  | [a] => a
  | a :: r => match op with
    | .And => .and a (trB op r)
    | .Or => .or a (trB op r)
def biOf (x : Str) : Option Bi := [Bi.len, .abs, .int, .list, .tuple, .all, .any, .sum].find? fun b => decide (biName b = x)
theorem biOf_name {x : Str} {b : Bi} (h : biOf x = some b) : biName b = x := by
  have := List.find?_some (p := fun b => decide (biName b = x)) h
  exact of_decide_eq_true this
def tyOf (x : Str) : Option Ty := [Ty.int, .bool, .str, .tuple, .list, .dict].find? fun b => decide (Str.ofString (tyName b) = x)
theorem tyOf_name {x : Str} {b : Ty} (h : tyOf x = some b) : Str.ofString (tyName b) = x := by
  have := List.find?_some (p := fun b => decide (Str.ofString (tyName b) = x)) h
  exact of_decide_eq_true this
def isGl (sc : Scope) (x : Str) : Bool := decide (sc.names.lookup x = some .globalImplicit) && !(x == ("__debug__" : Str))
def trCall (g : GT) (sc : Scope) (f : Str) (args : List Expr) (ts : List Ex) : Ex :=
  if isGl sc f = false ∨ args.any star = true then .bad else match g.fns.lookup f with
  | some i => .call i (exs ts)
  | none => match args, ts with
    | [_], [e] => match biOf f with
      | some b => .bi b e
      | none => .bad
    | [_, .Name T _], [e, _] => if decide (f = "isinstance") && isGl sc T then match tyOf T with
        | some t => .isi e t
        | none => .bad
      else .bad
    | _, _ => .bad
def isSlice : Expr → Bool
  | .Slice .. => true
  | _ => false
def isSet : Expr → Bool
  | .Set .. => true
  | _ => false
def isTuple : Expr → Bool
  | .Tuple .. => true
  | _ => false
def isComp : Expr → Bool
  | .ListComp .. => true
  | .SetComp .. => true
  | .DictComp .. => true
  | _ => false
def ownOf (N : List Str) (scope : Scope) : List (Str × Nat) := N.zipIdx.filterMap fun p => match scope.names.lookup p.1 with
  | some .local => some p
  | some .cell => some p
  | _ => none
def tgs : List Tg → Tgs
  | [] => .nil
  | t :: ts => .cons t (tgs ts)
mutual
def slots : Tg → List Nat
  | .name i => [i]
  | .tup ts => slotss ts
  | .sub _ _ => []
def slotss : Tgs → List Nat
  | .nil => []
  | .cons t ts => slots t ++ slotss ts
end
def badT : Tg := .tup (.cons (.sub .bad .bad) .nil)
def trT (g : GT) (N : List Str) (tr : Expr → Ex) : Nat → Scope → Scope → Expr → Tg
  | 0, _, _, _ => .sub .bad .bad
  | n + 1, sc0, sc, e => match e with
    | .Name x _ => match ixOf N x with
      | some i => if sc.names.lookup x = some .local ∨ (sc.names.lookup x = some .cell ∧ sc0.names.lookup x = some .cell) then .name i else .sub .bad .bad
      | none => .sub .bad .bad
    | .Tuple es _ _ => if es.any star = true then .sub .bad .bad else .tup (tgs (es.map (trT g N tr n sc0 sc)))
    | .Subscript o i _ => if isSlice i = true then .sub .bad .bad else .sub (tr o) (tr i)
    | _ => .sub .bad .bad
def trI (tg : Expr) (sc : Scope) (tr : Expr → Ex) (e : Expr) : Ix :=
  match e with
  | .Call (.Name f _) [a] [] _ => if star a = true then .seq .bad else if decide (f = "range") && isGl sc f then .rng1 (tr a) else if decide (f = "enumerate") && isGl sc f && isTuple tg then .enum (tr a) else .seq (tr e)
  | .Call (.Name f _) [a, b] [] _ => if star a = true ∨ star b = true then .seq .bad else if decide (f = "range") && isGl sc f then .rng2 (tr a) (tr b) else if decide (f = "zip") && isGl sc f && isTuple tg then .zip (tr a) (tr b) else .seq (tr e)
  | e => .seq (tr e)
def trE (g : GT) (N : List Str) : Nat → Scope → Scope → Expr → Ex
  | 0, _, _, _ => .bad
  | n + 1, sc0, sc, e => match e with
    | .Constant c _ _ => trC c
    | .Name x _ => trName g N sc x
    | .Tuple es _ _ => if es.any star = true then .bad else .tup (exs (es.map (trE g N n sc0 sc)))
    | .List es _ => if es.any star = true then .bad else .lst (exs (es.map (trE g N n sc0 sc)))
    | .BinOp a op b _ => .bin op (trE g N n sc0 sc a) (trE g N n sc0 sc b)
    | .UnaryOp .USub a _ => .neg (trE g N n sc0 sc a)
    | .UnaryOp .Not a _ => .not (trE g N n sc0 sc a)
    | .BoolOp op es _ => trB op (es.map (trE g N n sc0 sc))
    | .Compare a [op] [b] _ => if behindInMarks op b = true then .bad else .cmp op (trE g N n sc0 sc a) (trE g N n sc0 sc b)
    | .Compare a [op, op'] [b, c] _ => if lastMarks [op, op'] [b, c] = true then .bad else .chain op op' (trE g N n sc0 sc a) (trE g N n sc0 sc b) (trE g N n sc0 sc c)
    | .IfExp c a b _ => .ite (trE g N n sc0 sc c) (trE g N n sc0 sc a) (trE g N n sc0 sc b)
    | .Subscript a (.Slice lo hi none _) _ => .sl (trE g N n sc0 sc a) (match lo with | some l => .some (trE g N n sc0 sc l) | none => .none) (match hi with | some l => .some (trE g N n sc0 sc l) | none => .none)
    | .Subscript a b _ => if isSlice b = true then .bad else .ix (trE g N n sc0 sc a) (trE g N n sc0 sc b)
    | .Call (.Name f _) args [] _ => trCall g sc f args (args.map (trE g N n sc0 sc))
    | .ListComp elt [⟨tg, iter, [], 0⟩] scope _ => if blkC N sc scope (ownOf N scope) = true ∧ isSet iter = false ∧ (slots (trT g N (trE g N n scope (relS scope sc)) n scope (relS scope sc) tg)).all (fun j => ((ownOf N scope).map (·.2)).contains j) = true then
        .comp (trI tg sc (trE g N n sc0 sc) iter) (trT g N (trE g N n scope (relS scope sc)) n scope (relS scope sc) tg) (.con (.bl true)) (trE g N n scope (relS scope sc) elt) ((ownOf N scope).map (·.2)) else .bad
    | .ListComp elt [⟨tg, iter, [c], 0⟩] scope _ => if blkC N sc scope (ownOf N scope) = true ∧ isSet iter = false ∧ (slots (trT g N (trE g N n scope (relS scope sc)) n scope (relS scope sc) tg)).all (fun j => ((ownOf N scope).map (·.2)).contains j) = true then
        .comp (trI tg sc (trE g N n sc0 sc) iter) (trT g N (trE g N n scope (relS scope sc)) n scope (relS scope sc) tg) (trE g N n scope (relS scope sc) c) (trE g N n scope (relS scope sc) elt) ((ownOf N scope).map (·.2)) else .bad
    | _ => .bad
/-! ### what the place of a text must be -/
def bnames : List Str := ["len", "abs", "int", "list", "tuple", "all", "any", "sum", "isinstance", "bool", "str", "dict", "range", "enumerate", "zip"]
structure Cok (g : GT) (fs : List Fn) (Γ : Wd) (N : List Str) (k : Nat) (X : Cx) (sc0 sc : Scope) (W : WX) : Prop where
  hN : X.N = N
  nd : N.Nodup
  hsc : X.env.scope = sc
  kind : sc.kind = .function
  hfn : ∀ x, sc0.names.lookup x = some .cell → X.fn x = true
  calm : X.calm = true
  room : Room k X.A
  hK : X.K = Γ.K
  cons : ∀ x d, g.cons.lookup x = some d → ∃ u v, X.mg x = some u ∧ RelV v u ∧ ∀ α H, Rep Γ.K α H d v
  bi : ∀ x ∈ bnames, X.mg x = none
  fns : ∀ (i : Nat) x, g.fns.lookup x = some i → ∃ f a fd, fget fs i = some f ∧ f.name = x ∧ X.mg x = some (.ref a) ∧ PySem.W.keepIn X.K (.ref a) = true ∧ Binds X.K fd f.ps [] ∧ FnOk X.prog X.w X.K X.mg X.base (L2.CX X.prog X.w) k a fd f.ps (spF Γ fs k i f.ps.length)
  tk : Takes X W
section
variable {g : GT} {fs : List Fn} {Γ : Wd} {N : List Str} {k : Nat}
theorem Cok.blk {X : Cx} {sc0 sc : Scope} {W : WX} (c : Cok g fs Γ N k X sc0 sc W) (s : Shared) (H : Hp) (scope : Scope) (C : Addr) (cl : List (Str × Addr)) (fp : List Addr) (hk : scope.kind = .function) :
    Cok g fs Γ N k (X.blk s H scope (compEnvC scope cl C X.env) fp) scope (relS scope sc) (fun _ _ _ _ => False) := by
  refine ⟨c.hN, c.nd, ?_, hk, fun x hx => ?_, c.calm, c.room, c.hK, c.cons, c.bi, c.fns, takes0⟩
  · rw [← c.hsc]
    rfl
  · show (scope.names.lookup x == some NameKind.cell) = true
    rw [hx]
    rfl
theorem Cok.gl {X : Cx} {sc0 sc : Scope} {W : WX} (c : Cok g fs Γ N k X sc0 sc W) {x : Str} (h : isGl sc x = true) : Gl X x ∧ (x == ("__debug__" : Str)) = false := by
  unfold isGl at h
  rw [Bool.and_eq_true] at h
  refine ⟨?_, by simpa using h.2⟩
  show X.env.scope.names.lookup x = _
  rw [c.hsc]
  exact of_decide_eq_true h.1
/-- a value that is no not, and, or, ite: its test is its value's truth -/
def plainX : Ex → Bool
  | .not _ | .and _ _ | .or _ _ | .ite _ _ _ => false
  | _ => true
theorem test_plain {cl : Nat → List D → Hh → R D} {e : Ex} (h : plainX e = true) : test cl e = fun en hh => bnd (ev cl e en hh) toBool := by
  funext en hh
  cases e <;> first | exact Bool.noConfusion h | rfl | (simp only [test])
theorem plain_name {sc : Scope} {x : Str} : plainX (trName g N sc x) = true := by
  unfold trName
  split
  · rfl
  · split <;> first | rfl | (split <;> rfl)
theorem plain_c {c : Const} : plainX (trC c) = true := by cases c <;> rfl
theorem plain_call {sc : Scope} {f : Str} {args : List Expr} {ts : List Ex} : plainX (trCall g sc f args ts) = true := by
  unfold trCall
  split
  · rfl
  · split
    · rfl
    · split
      · split <;> rfl
      · split
        · split <;> rfl
        · rfl
      · rfl
end
end PD

set_option Elab.async false
set_option linter.all false
set_option maxRecDepth 100000
set_option maxHeartbeats 2000000
namespace PD
open PySem PySem.Spec PyProof.Rows L2
section
variable {cl : Nat → List D → Hh → R D}
theorem ev_con {d} : ev cl (.con d) = fun _ h => .ok d h := by funext en h; rw [ev]
theorem ev_var {i} : ev cl (.var i) = fun en h => optR (getE en i) fun d => .ok d h := by funext en h; rw [ev]
theorem ev_tup {es} : ev cl (.tup es) = fun en h => bnd (evs cl es en h) fun ds h1 => if ds.length ≤ sizeLine then .ok (.tup ds) h1 else .bad := by funext en h; rw [ev]
theorem ev_lst {es} : ev cl (.lst es) = fun en h => bnd (evs cl es en h) fun ds h1 => if ds.length ≤ sizeLine then .ok (.ref h1.length) (h1 ++ [.lst ds]) else .bad := by funext en h; rw [ev]
theorem ev_bin {op a b} : ev cl (.bin op a b) = fun en h => bnd (ev cl a en h) fun x h1 => bnd (ev cl b en h1) fun y h2 => binOp op x y h2 := by funext en h; rw [ev]
theorem ev_neg {a} : ev cl (.neg a) = fun en h => bnd (ev cl a en h) unNeg := by funext en h; rw [ev]
theorem ev_not {a} : ev cl (.not a) = fun en h => bnd (ev cl a en h) fun x h1 => bnd (toBool x h1) fun b h2 => .ok (.bl (!b)) h2 := by funext en h; rw [ev]
theorem ev_cmp {op a b} : ev cl (.cmp op a b) = fun en h => bnd (ev cl a en h) fun x h1 => bnd (ev cl b en h1) fun y h2 => cmpOp op x y h2 := by funext en h; rw [ev]
theorem ev_chain {op op' a b c} : ev cl (.chain op op' a b c) = fun en h => bnd (ev cl a en h) fun x h1 => bnd (ev cl b en h1) fun y h2 => bnd (cmpOp op x y h2) fun z h3 => bnd (toBool z h3) fun k h4 =>
      if k = true then bnd (ev cl c en h4) fun w h5 => cmpOp op' y w h5 else .ok (.bl false) h4 := by funext en h; rw [ev]
theorem ev_and {a b} : ev cl (.and a b) = fun en h => bnd (ev cl a en h) fun x h1 => bnd (toBool x h1) fun k h2 => if k = true then ev cl b en h2 else .ok (.bl false) h2 := by funext en h; rw [ev]
theorem ev_or {a b} : ev cl (.or a b) = fun en h => bnd (ev cl a en h) fun x h1 => bnd (toBool x h1) fun k h2 => if k = true then .ok (.bl true) h2 else ev cl b en h2 := by funext en h; rw [ev]
theorem ev_ite {c a b} : ev cl (.ite c a b) = fun en h => bnd (test cl c en h) fun k h1 => if k = true then ev cl a en h1 else ev cl b en h1 := by funext en h; rw [ev]
theorem ev_call {f es} : ev cl (.call f es) = fun en h => bnd (evs cl es en h) fun ds h1 => cl f ds h1 := by funext en h; rw [ev]
theorem ev_bi {b e} : ev cl (.bi b e) = fun en h => bnd (ev cl e en h) (biOp b) := by funext en h; rw [ev]
theorem ev_isi {e t} : ev cl (.isi e t) = fun en h => bnd (ev cl e en h) fun x h1 => .ok (.bl (isTy t x)) h1 := by funext en h; rw [ev]
theorem ev_ix {a i} : ev cl (.ix a i) = fun en h => bnd (ev cl a en h) fun x h1 => bnd (ev cl i en h1) fun y h2 => ixOp x y h2 := by funext en h; rw [ev]
theorem ev_sl {a lo hi} : ev cl (.sl a lo hi) = fun en h => bnd (ev cl a en h) fun x h1 => bnd (evo cl lo en h1) fun l h2 => bnd (evo cl hi en h2) fun u h3 => slOp x l u h3 := by funext en h; rw [ev]
theorem ev_comp {it t c e own} : ev cl (.comp it t c e own) = fun en h => bnd (evi cl it en h) fun I h1 => bnd (noExc (compLoop I (fun d h2 => bnd (asgn cl t d (wipeE en own) h2) fun en3 h3 => bnd (test cl c en3 h3) fun k h4 =>
      if k = true then bnd (ev cl e en3 h4) fun y h5 => .ok (some y) h5 else .ok none h4) turns 0 [] h1)) fun ds h2 => .ok (.ref h2.length) (h2 ++ [.lst ds]) := by funext en h; rw [ev]
theorem ev_bad : ev cl .bad = fun _ _ => .bad := by funext en h; rw [ev]
theorem evs_nil : evs cl .nil = fun _ h => .ok [] h := by funext en h; rw [evs]
theorem evs_cons {e es} : evs cl (.cons e es) = fun en h => bnd (ev cl e en h) fun d h1 => bnd (evs cl es en h1) fun ds h2 => .ok (d :: ds) h2 := by funext en h; rw [evs]
theorem evo_none : evo cl .none = fun _ h => .ok none h := by funext en h; rw [evo]
theorem evo_some {e} : evo cl (.some e) = fun en h => bnd (ev cl e en h) fun d h1 => bnd (toInt d h1) fun i h2 => .ok (some i) h2 := by funext en h; rw [evo]
theorem test_not {a} : test cl (.not a) = fun en h => bnd (test cl a en h) fun b h1 => .ok (!b) h1 := by funext en h; rw [test]
theorem test_and {a b} : test cl (.and a b) = fun en h => bnd (test cl a en h) fun k h1 => if k = true then test cl b en h1 else .ok false h1 := by funext en h; rw [test]
theorem test_or {a b} : test cl (.or a b) = fun en h => bnd (test cl a en h) fun k h1 => if k = true then .ok true h1 else test cl b en h1 := by funext en h; rw [test]
theorem test_ite {c a b} : test cl (.ite c a b) = fun _ _ => .bad := by funext en h; rw [test]
theorem test_bad : test cl .bad = fun _ _ => .bad := by rw [test_plain rfl, ev_bad]; rfl
theorem test_true : test cl (.con (.bl true)) = fun _ h => .ok true h := by rw [test_plain rfl, ev_con]; rfl
theorem evi_seq {e} : evi cl (.seq e) = fun en h => bnd (ev cl e en h) seqIt := by funext en h; rw [evi]
theorem evi_rng1 {e} : evi cl (.rng1 e) = fun en h => bnd (ev cl e en h) fun x h1 => rngIt 0 x h1 := by funext en h; rw [evi]
theorem evi_rng2 {a b} : evi cl (.rng2 a b) = fun en h => bnd (ev cl a en h) fun x h1 => bnd (ev cl b en h1) fun y h2 => bnd (toInt x h2) fun lo h3 => rngIt lo y h3 := by funext en h; rw [evi]
theorem evi_enum {e} : evi cl (.enum e) = fun en h => bnd (ev cl e en h) enumIt := by funext en h; rw [evi]
theorem evi_zip {a b} : evi cl (.zip a b) = fun en h => bnd (ev cl a en h) fun x h1 => bnd (ev cl b en h1) fun y h2 => zipIt x y h2 := by funext en h; rw [evi]
theorem asgn_name {i} : asgn cl (.name i) = fun d en h => .ok (en.set i (some d)) h := by funext d en h; rw [asgn]
theorem asgn_tup {ts} : asgn cl (.tup ts) = fun d en h => match d with | .tup ds => asgns cl ts ds en h | x => optR (seqOf h x) fun ds => asgns cl ts ds en h := by
  funext d en h
  cases d <;> rw [asgn] <;> intro ds z <;> cases z
theorem asgn_sub {o i} : asgn cl (.sub o i) = fun d en h => bnd (ev cl o en h) fun x h1 => bnd (ev cl i en h1) fun y h2 => bnd (setAt x y d h2) fun _ h3 => .ok en h3 := by funext d en h; rw [asgn]
theorem asgn_bad : asgn cl (.sub .bad .bad) = fun _ _ _ => .bad := by rw [asgn_sub, ev_bad]; rfl
theorem asgns_nil : asgns cl .nil = fun ds en h => match ds with | [] => .ok en h | _ => .bad := by
  funext d en h
  cases d <;> rw [asgns] <;> intros <;> simp_all
theorem asgns_cons {t ts} : asgns cl (.cons t ts) = fun ds en h => match ds with | d :: ds => bnd (asgn cl t d en h) fun en1 h1 => asgns cl ts ds en1 h1 | [] => .bad := by
  funext d en h
  cases d <;> rw [asgns] <;> intros <;> simp_all
theorem asgns_len : ∀ (ts : List Tg) (ds : List D) (en : En) (h : Hh), ds.length ≠ ts.length → noExc (asgns cl (tgs ts) ds en h) = .bad
  | [], [], _, _, hl => absurd rfl hl
  | [], d :: ds, en, h, _ => by
    show noExc (asgns cl .nil (d :: ds) en h) = .bad
    rw [asgns_nil]
    rfl
  | t :: ts, [], en, h, _ => by
    show noExc (asgns cl (.cons t (tgs ts)) [] en h) = .bad
    rw [asgns_cons]
    rfl
  | t :: ts, d :: ds, en, h, hl => by
    show noExc (asgns cl (.cons t (tgs ts)) (d :: ds) en h) = .bad
    rw [asgns_cons]
    dsimp only
    rw [noExc_bnd]
    cases e : asgn cl t d en h with
    | ok en1 h1 => exact asgns_len ts ds en1 h1 fun z => hl (by rw [List.length_cons, List.length_cons, z])
    | exc c x h1 => rfl
    | bad => rfl
end
section
variable {g : GT} {fs : List Fn} {Γ : Wd} {N : List Str} {k : Nat} {X : Cx} {W : WX}
abbrev Both (fs : List Fn) (Γ : Wd) (k : Nat) (X : Cx) (W : WX) (e : Expr) (t : Ex) : Prop := DE Γ X W e (ev (callF fs k) t) ∧ DT Γ X W e (test (callF fs k) t)
theorem bad2 {e : Expr} : Both fs Γ k X W e .bad := ⟨by rw [ev_bad]; exact de_bad, by rw [test_bad]; exact dt_bad⟩
theorem both_plain {e : Expr} {t : Ex} (h : DE Γ X W e (ev (callF fs k) t)) (hp : plainX t = true) (hi : ∀ whole, isTrue e X.env whole = (do let v ← whole; standAt e.pos; holding [v] (truthy v))) : Both fs Γ k X W e t :=
  ⟨h, by rw [test_plain hp]; exact dt_val h hi⟩
theorem sound_args {tr : Expr → Ex} (ih : ∀ e, DE Γ X W e (ev (callF fs k) (tr e))) : ∀ {es : List Expr}, es.any star = false → DA Γ X W es (evs (callF fs k) (exs (es.map tr)))
  | [], _ => by
    show DA Γ X W [] (evs _ .nil)
    rw [evs_nil]
    exact da_nil
  | e :: es, h => by
    rw [List.any_cons, Bool.or_eq_false_iff] at h
    show DA Γ X W (e :: es) (evs _ (.cons (tr e) (exs (es.map tr))))
    rw [evs_cons]
    exact da_cons h.1 (ih e) (sound_args ih h.2)
theorem sound_bool {tr : Expr → Ex} (ih : ∀ e, Both fs Γ k X W e (tr e)) (op : BoolOp) (pos : Pos) : ∀ es : List Expr, DE Γ X W (.BoolOp op es pos) (ev (callF fs k) (trB op (es.map tr))) ∧ (es ≠ [] → DW Γ X W (.BoolOp op es pos) (test (callF fs k) (trB op (es.map tr))))
  | [] => ⟨bad2.1, fun z => absurd rfl z⟩
  | [a] => ⟨de_one (ih a).1, fun _ => dw_one (ih a).2⟩
  | a :: b :: r => by
    have h2 := sound_bool ih op pos (b :: r)
    cases op with
    | And =>
      show DE Γ X W _ (ev _ (.and (tr a) (trB .And ((b :: r).map tr)))) ∧ (_ → DW Γ X W _ (test _ (.and (tr a) (trB .And ((b :: r).map tr)))))
      rw [ev_and, test_and]
      exact ⟨de_and (ih a).1 h2.1, fun _ => dt_and (ih a).2 (h2.2 (by simp))⟩
    | Or =>
      show DE Γ X W _ (ev _ (.or (tr a) (trB .Or ((b :: r).map tr)))) ∧ (_ → DW Γ X W _ (test _ (.or (tr a) (trB .Or ((b :: r).map tr)))))
      rw [ev_or, test_or]
      exact ⟨de_or (ih a).1 h2.1, fun _ => dt_or (ih a).2 (h2.2 (by simp))⟩
theorem sound_name {sc0 sc : Scope} {x : Str} {pos : Pos} (c : Cok g fs Γ N k X sc0 sc W) : DE Γ X W (.Name x pos) (ev (callF fs k) (trName g N sc x)) := by
  unfold trName
  by_cases ho : odd x = true
  · rw [if_pos ho]; exact bad2.1
  · rw [if_neg ho]
    have hd : (x == ("__debug__" : Str)) = false ∧ (x == ("__classdict__" : Str)) = false := by
      unfold odd at ho
      simpa using ho
    have hv : Vis X.env.scope x → DE Γ X W (.Name x pos) (ev (callF fs k) (match ixOf N x with | some i => .var i | none => .bad)) := fun v => by
      cases q : ixOf N x with
      | none => exact bad2.1
      | some i =>
        dsimp only
        rw [ev_var]
        exact de_var (by rw [c.hN]; exact ixOf_get q) v hd.1 hd.2
    have hsc := c.hsc
    cases q : sc.names.lookup x with
    | none => exact bad2.1
    | some kd =>
      cases kd with
      | «local» => exact hv (.inl (by rw [hsc]; exact q))
      | cell => exact hv (.inr (.inl (by rw [hsc]; exact q)))
      | free => exact hv (.inr (.inr (by rw [hsc]; exact q)))
      | globalImplicit =>
        dsimp only
        cases q2 : g.cons.lookup x with
        | none => exact bad2.1
        | some d =>
          dsimp only
          rw [ev_con]
          obtain ⟨u, v, hm, rv, rep⟩ := c.cons x d q2
          exact de_glob (by show X.env.scope.names.lookup x = _; rw [hsc]; exact q) hm rv hd.1 rep
      | globalExplicit => exact bad2.1
theorem sound_call {sc0 sc : Scope} {tr : Expr → Ex} {f : Str} {args : List Expr} {p pos : Pos} (c : Cok g fs Γ N k X sc0 sc W) (ih : ∀ e, DE Γ X W e (ev (callF fs k) (tr e))) : DE Γ X W (.Call (.Name f p) args [] pos) (ev (callF fs k) (trCall g sc f args (args.map tr))) := by
  unfold trCall
  by_cases h : isGl sc f = false ∨ args.any star = true
  · rw [if_pos h]; exact bad2.1
  · rw [if_neg h]
    have h1 : isGl sc f = true := by
      cases q : isGl sc f with
      | true => rfl
      | false => exact absurd (.inl q) h
    have h2 : args.any star = false := by
      cases q : args.any star with
      | false => rfl
      | true => exact absurd (.inr q) h
    obtain ⟨hg, hdb⟩ := c.gl h1
    cases q : g.fns.lookup f with
    | some i =>
      dsimp only
      obtain ⟨fn, a, fd, e1, e2, e3, e4, e5, e6⟩ := c.fns i f q
      subst e2
      rw [ev_call]
      cases args with
      | nil =>
        show DE Γ X W _ (fun en h => bnd (evs (callF fs k) .nil en h) fun ds h1 => callF fs k i ds h1)
        rw [evs_nil]
        exact de_call0 e1 e6 c.room hg e3 e4 e5 c.tk hdb
      | cons e es => exact de_call e1 e6 c.room hg e3 e4 e5 c.tk h2 hdb (sound_args ih h2)
    | none =>
      dsimp only
      rcases args with _ | ⟨a, _ | ⟨b, _ | ⟨_, _⟩⟩⟩
      · exact bad2.1
      · show DE Γ X W _ (ev _ (match biOf f with | some b => .bi b (tr a) | none => .bad))
        cases q2 : biOf f with
        | none => exact bad2.1
        | some b =>
          dsimp only
          rw [ev_bi]
          have e := biOf_name q2
          subst e
          have hs : star a = false := by simpa using h2
          exact de_bi c.hK c.calm hg (c.bi _ (by cases b <;> decide)) hs (ih a)
      · cases b with
        | Name T p2 =>
          show DE Γ X W _ (ev _ (if decide (f = "isinstance") && isGl sc T then match tyOf T with | some t => .isi (tr a) t | none => .bad else .bad))
          by_cases h3 : (decide (f = "isinstance") && isGl sc T) = true
          · rw [if_pos h3]
            rw [Bool.and_eq_true] at h3
            have e := of_decide_eq_true h3.1
            subst e
            cases q3 : tyOf T with
            | none => exact bad2.1
            | some t =>
              dsimp only
              rw [ev_isi]
              have e := tyOf_name q3
              subst e
              have hs : star a = false := by
                rw [List.any_cons, Bool.or_eq_false_iff] at h2
                exact h2.1
              exact de_isi c.hK hg (c.bi _ (by decide)) (c.gl h3.2).1 (c.bi _ (by cases t <;> decide)) hs (ih a)
          · rw [if_neg h3]; exact bad2.1
        | _ => exact bad2.1
      · cases b <;> exact bad2.1
theorem sound_T {sc0 sc : Scope} {tr : Expr → Ex} (c : Cok g fs Γ N k X sc0 sc W) (ih : ∀ e, DE Γ X W e (ev (callF fs k) (tr e))) : ∀ (n : Nat) (tg : Expr), DG Γ X tg (slots (trT g N tr n sc0 sc tg)) (asgn (callF fs k) (trT g N tr n sc0 sc tg)) := by
  have bad : ∀ tg, DG Γ X tg (slots (.sub .bad .bad)) (asgn (callF fs k) (.sub .bad .bad)) := fun tg => by rw [asgn_bad]; exact dg_bad
  intro n
  induction n with
  | zero => exact bad
  | succ n ihn =>
    intro tg
    cases tg with
    | Name x p =>
      show DG Γ X _ (slots (match ixOf N x with | some i => if sc.names.lookup x = some .local ∨ (sc.names.lookup x = some .cell ∧ sc0.names.lookup x = some .cell) then .name i else .sub .bad .bad | none => .sub .bad .bad)) (asgn _ (match ixOf N x with | some i => if sc.names.lookup x = some .local ∨ (sc.names.lookup x = some .cell ∧ sc0.names.lookup x = some .cell) then .name i else .sub .bad .bad | none => .sub .bad .bad))
      cases q : ixOf N x with
      | none => exact bad _
      | some i =>
        dsimp only
        by_cases h : sc.names.lookup x = some .local ∨ (sc.names.lookup x = some .cell ∧ sc0.names.lookup x = some .cell)
        · rw [if_pos h, asgn_name]
          have hsc := c.hsc
          refine dg_name (by rw [c.hN]; exact c.nd) (by rw [c.hN]; exact ixOf_get q) ?_ ?_
          · rcases h with h | h
            · exact .inl (by rw [hsc]; exact h)
            · exact .inr (by rw [hsc]; exact h.1)
          · rcases h with h | h
            · exact .inr (by rw [hsc]; exact h)
            · exact .inl (c.hfn x h.2)
        · rw [if_neg h]; exact bad _
    | Tuple es kk p =>
      show DG Γ X _ (slots (if es.any star = true then .sub .bad .bad else .tup (tgs (es.map (trT g N tr n sc0 sc))))) (asgn _ (if es.any star = true then .sub .bad .bad else .tup (tgs (es.map (trT g N tr n sc0 sc)))))
      by_cases h : es.any star = true
      · rw [if_pos h]; exact bad _
      · rw [if_neg h, asgn_tup]
        have h' : es.any star = false := by simpa using h
        refine dg_tup c.hK c.calm h' (fun ds en hh hl => asgns_len _ ds en hh (by rw [List.length_map]; exact hl)) ?_
        have all : ∀ es : List Expr, es.any star = false → DGs Γ X es (slotss (tgs (es.map (trT g N tr n sc0 sc)))) (asgns (callF fs k) (tgs (es.map (trT g N tr n sc0 sc)))) := by
          intro es
          induction es with
          | nil =>
            intro _
            show DGs Γ X [] [] (asgns _ .nil)
            rw [asgns_nil]
            exact dgs_nil
          | cons e es ihe =>
            intro h
            rw [List.any_cons, Bool.or_eq_false_iff] at h
            show DGs Γ X (e :: es) (slots _ ++ slotss _) (asgns _ (.cons (trT g N tr n sc0 sc e) (tgs (es.map (trT g N tr n sc0 sc)))))
            rw [asgns_cons]
            exact dgs_cons h.1 (ihn e) (ihe h.2)
        exact all es h'
    | Subscript o i p =>
      show DG Γ X _ (slots (if isSlice i = true then .sub .bad .bad else .sub (tr o) (tr i))) (asgn _ (if isSlice i = true then .sub .bad .bad else .sub (tr o) (tr i)))
      by_cases h : isSlice i = true
      · rw [if_pos h]; exact bad _
      · rw [if_neg h, asgn_sub]
        exact dg_sub (ih o) (ih i) (fun v => by cases i <;> first | rfl | exact absurd rfl h)
    | _ => exact bad _
theorem sound_I {sc0 sc : Scope} {tr : Expr → Ex} (c : Cok g fs Γ N k X sc0 sc W) (ih : ∀ e, DE Γ X W e (ev (callF fs k) (tr e))) (tg e : Expr) : DI Γ X W tg e (evi (callF fs k) (trI tg sc tr e)) := by
  have sq : DI Γ X W tg e (evi (callF fs k) (.seq (tr e))) := by
    rw [evi_seq]
    exact di_seq c.hK (ih e)
  have bad : DI Γ X W tg e (evi (callF fs k) (.seq .bad)) := by
    rw [evi_seq, ev_bad]
    exact di_bad
  unfold trI
  split
  · rename_i f p a pos
    by_cases hs : star a = true
    · rw [if_pos hs]; exact bad
    · rw [if_neg hs]
      have hs' : star a = false := by simpa using hs
      by_cases h1 : (decide (f = "range") && isGl sc f) = true
      · rw [if_pos h1, evi_rng1]
        rw [Bool.and_eq_true] at h1
        have e := of_decide_eq_true h1.1
        subst e
        exact di_rng1 (c.gl h1.2).1 (c.bi _ (by decide)) hs' (ih a)
      · rw [if_neg h1]
        by_cases h2 : (decide (f = "enumerate") && isGl sc f && isTuple tg) = true
        · rw [if_pos h2, evi_enum]
          rw [Bool.and_eq_true, Bool.and_eq_true] at h2
          have e := of_decide_eq_true h2.1.1
          subst e
          cases tg <;> first | exact Bool.noConfusion h2.2 | exact di_enum c.hK (c.gl h2.1.2).1 (c.bi _ (by decide)) hs' (ih a)
        · rw [if_neg h2]; exact sq
  · rename_i f p a b pos
    by_cases hs : star a = true ∨ star b = true
    · rw [if_pos hs]; exact bad
    · rw [if_neg hs]
      have hs' : star a = false ∧ star b = false := by simpa using hs
      by_cases h1 : (decide (f = "range") && isGl sc f) = true
      · rw [if_pos h1, evi_rng2]
        rw [Bool.and_eq_true] at h1
        have e := of_decide_eq_true h1.1
        subst e
        exact di_rng2 (c.gl h1.2).1 (c.bi _ (by decide)) hs'.1 hs'.2 (ih a) (ih b)
      · rw [if_neg h1]
        by_cases h2 : (decide (f = "zip") && isGl sc f && isTuple tg) = true
        · rw [if_pos h2, evi_zip]
          rw [Bool.and_eq_true, Bool.and_eq_true] at h2
          have e := of_decide_eq_true h2.1.1
          subst e
          cases tg <;> first | exact Bool.noConfusion h2.2 | exact di_zip c.hK (c.gl h2.1.2).1 (c.bi _ (by decide)) hs'.1 hs'.2 (ih a) (ih b)
        · rw [if_neg h2]; exact sq
  · exact sq
end
end PD

set_option Elab.async false
set_option linter.all false
set_option maxRecDepth 100000
set_option maxHeartbeats 4000000
namespace PD
open PySem PySem.Spec PyProof.Rows L2
section
variable {g : GT} {fs : List Fn} {Γ : Wd} {N : List Str} {k : Nat}
theorem plainIx {b : Expr} (h : ¬ isSlice b = true) : PlainIx b := fun o i => by cases b <;> first | rfl | exact absurd rfl h
theorem notSet {iter : Expr} {env : Env} (h : isSet iter = false) : ∀ x, foldedSetIterable iter env x = pure x := fun x => by cases iter <;> first | rfl | exact Bool.noConfusion h
theorem slots_sub {sl : List Nat} {own : List (Str × Nat)} (h : sl.all (fun j => (own.map (·.2)).contains j) = true) : ∀ j ∈ sl, j ∈ own.map (·.2) := fun j hj => by
  have := List.all_eq_true.mp h j hj
  simpa using this
/-- the comprehension, as a value and as what a name is set to -/
theorem sound_comp {X : Cx} {sc0 sc : Scope} {W : WX} {n : Nat} {elt tg iter : Expr} {ifs : List Expr} {scope : Scope} {pos : Pos} {ct : Ex} (c : Cok g fs Γ N k X sc0 sc W)
    (ih : ∀ X sc0 sc W e, Cok g fs Γ N k X sc0 sc W → Both fs Γ k X W e (trE g N n sc0 sc e))
    (hts : ∀ X', Cok g fs Γ N k X' scope (relS scope sc) (fun _ _ _ _ => False) → DTs Γ X' (fun _ _ _ _ => False) ifs (test (callF fs k) ct))
    (hh : blkC N sc scope (ownOf N scope) = true ∧ isSet iter = false ∧ (slots (trT g N (trE g N n scope (relS scope sc)) n scope (relS scope sc) tg)).all (fun j => ((ownOf N scope).map (·.2)).contains j) = true) :
    ∃ t, (PE X (.ListComp elt [⟨tg, iter, ifs, 0⟩] scope pos) t ∧
      (∀ {i : Nat} {y : Str} {py spos : Pos}, X.N[i]? = some y → X.env.scope.names.lookup y = some .local → swapsWith (.ListComp elt [⟨tg, iter, ifs, 0⟩] scope pos) (some (.Name y py)) spos.line X.env = pure true →
        PS X (.Assign [.Name y py] (.ListComp elt [⟨tg, iter, ifs, 0⟩] scope pos) spos) (tAsg t (gName i)))) ∧
      ∀ α h H en σ Q, HR Γ.K α h H → ER Γ.K α H en σ → Pst Γ (RV Γ) α H (ev (callF fs k) (.comp (trI tg sc (trE g N n sc0 sc) iter) (trT g N (trE g N n scope (relS scope sc)) n scope (relS scope sc) tg) ct (trE g N n scope (relS scope sc) elt) ((ownOf N scope).map (·.2))) en h) Q (fun c d H' => W c d σ H') → t σ H Q := by
  have ok : BlkOk X.N X.env.scope scope (ownOf N scope) := by
    rw [c.hN, c.hsc]
    exact blkOk_by hh.1
  have cb := fun s H C cl fp => c.blk s H scope C cl fp ok.kind
  rw [ev_comp]
  exact de_comp c.calm (by rw [c.hN]; exact c.nd) (sound_I c (fun e => (ih X sc0 sc W e c).1) tg iter) ok (slots_sub hh.2.2)
    (fun s H C cl fp => sound_T (cb s H C cl fp) (fun e => (ih _ _ _ _ e (cb s H C cl fp)).1) n tg)
    (fun s H C cl fp => hts _ (cb s H C cl fp))
    (fun s H C cl fp => (ih _ _ _ _ elt (cb s H C cl fp)).1) (notSet hh.2.1)
theorem sound : ∀ (n : Nat) (X : Cx) (sc0 sc : Scope) (W : WX) (e : Expr), Cok g fs Γ N k X sc0 sc W → Both fs Γ k X W e (trE g N n sc0 sc e) := by
  intro n
  induction n with
  | zero => exact fun X sc0 sc W e c => bad2
  | succ n ih =>
    intro X sc0 sc W e c
    have ihE : ∀ e, DE Γ X W e (ev (callF fs k) (trE g N n sc0 sc e)) := fun e => (ih X sc0 sc W e c).1
    cases e with
    | Constant cc j pos =>
      refine both_plain ?_ plain_c (fun _ => rfl)
      cases cc with
      | int i => show DE Γ X W _ (ev _ (.con _)); rw [ev_con]; exact de_int
      | bool i => show DE Γ X W _ (ev _ (.con _)); rw [ev_con]; exact de_bl
      | str i => show DE Γ X W _ (ev _ (.con _)); rw [ev_con]; exact de_str
      | none => show DE Γ X W _ (ev _ (.con _)); rw [ev_con]; exact de_non
      | _ => exact bad2.1
    | Name x pos => exact both_plain (sound_name c) plain_name (fun _ => rfl)
    | Tuple es kk pos =>
      show Both fs Γ k X W _ (if es.any star = true then .bad else .tup (exs (es.map (trE g N n sc0 sc))))
      by_cases h : es.any star = true
      · rw [if_pos h]; exact bad2
      · rw [if_neg h]
        refine both_plain ?_ rfl (fun _ => rfl)
        rw [ev_tup]
        exact de_tup (sound_args ihE (by simpa using h))
    | List es pos =>
      show Both fs Γ k X W _ (if es.any star = true then .bad else .lst (exs (es.map (trE g N n sc0 sc))))
      by_cases h : es.any star = true
      · rw [if_pos h]; exact bad2
      · rw [if_neg h]
        refine both_plain ?_ rfl (fun _ => rfl)
        rw [ev_lst]
        exact de_lst (sound_args ihE (by simpa using h))
    | BinOp a op b pos =>
      refine both_plain ?_ rfl (fun _ => rfl)
      show DE Γ X W _ (ev _ (.bin op _ _))
      rw [ev_bin]
      exact de_bin (ops_bin c.hK op) (ihE a) (ihE b)
    | UnaryOp op a pos =>
      cases op with
      | USub =>
        refine both_plain ?_ rfl (fun _ => rfl)
        show DE Γ X W _ (ev _ (.neg _))
        rw [ev_neg]
        exact de_neg (ihE a)
      | Not =>
        show Both fs Γ k X W _ (.not _)
        refine ⟨?_, ?_⟩
        · rw [ev_not]; exact de_not (ihE a)
        · rw [test_not]; exact dt_not (ih X sc0 sc W a c).2
      | _ => exact bad2
    | BoolOp op es pos =>
      have h := sound_bool (fun e => ih X sc0 sc W e c) op pos es
      refine ⟨h.1, ?_⟩
      cases es with
      | nil => exact bad2.2
      | cons a r => exact (h.2 (by simp)).dt
    | Compare a ops bs pos =>
      rcases ops with _ | ⟨op, _ | ⟨op', _ | ⟨_, _⟩⟩⟩
      · exact bad2
      · rcases bs with _ | ⟨b, _ | ⟨_, _⟩⟩
        · exact bad2
        · show Both fs Γ k X W _ (if behindInMarks op b = true then .bad else .cmp op _ _)
          by_cases h : behindInMarks op b = true
          · rw [if_pos h]; exact bad2
          · rw [if_neg h]
            have h' : behindInMarks op b = false := by simpa using h
            have o : OpS Γ X (compareOp op) (cmpOp op) := ops_cmp c.hK c.room op
            refine ⟨?_, ?_⟩
            · rw [ev_cmp]; exact de_cmp h' o (ihE a) (ihE b)
            · rw [test_plain rfl, ev_cmp]; exact dt_cmp h' o (ihE a) (ihE b)
        · exact bad2
      · rcases bs with _ | ⟨b, _ | ⟨d, _ | ⟨_, _⟩⟩⟩
        · exact bad2
        · exact bad2
        · show Both fs Γ k X W _ (if lastMarks [op, op'] [b, d] = true then .bad else .chain op op' _ _ _)
          by_cases h : lastMarks [op, op'] [b, d] = true
          · rw [if_pos h]; exact bad2
          · rw [if_neg h]
            have h' : lastMarks [op, op'] [b, d] = false := by simpa using h
            have o : OpS Γ X (compareOp op) (cmpOp op) := ops_cmp c.hK c.room op
            have o' : OpS Γ X (compareOp op') (cmpOp op') := ops_cmp c.hK c.room op'
            refine ⟨?_, ?_⟩
            · rw [ev_chain]; exact de_chain h' o o' (ihE a) (ihE b) (ihE d)
            · rw [test_plain rfl, ev_chain]; exact dt_chain h' o o' (ihE a) (ihE b) (ihE d)
        · exact bad2
      · rcases bs with _ | ⟨b, _ | ⟨d, _ | ⟨_, _⟩⟩⟩ <;> exact bad2
    | IfExp t a b pos =>
      show Both fs Γ k X W _ (.ite _ _ _)
      refine ⟨?_, ?_⟩
      · rw [ev_ite]; exact de_ite (ih X sc0 sc W t c).2 (ihE a) (ihE b)
      · rw [test_ite]; exact dt_bad
    | Subscript a b pos =>
      have key : ¬ isSlice b = true → Both fs Γ k X W (.Subscript a b pos) (.ix (trE g N n sc0 sc a) (trE g N n sc0 sc b)) := fun h => by
        refine both_plain ?_ rfl (fun _ => rfl)
        rw [ev_ix]
        exact de_ix c.hK (plainIx h) (ihE a) (ihE b)
      cases b with
      | Slice lo hi st p2 =>
        cases st with
        | none =>
          refine both_plain ?_ rfl (fun _ => rfl)
          show DE Γ X W _ (ev _ (.sl _ _ _))
          rw [ev_sl]
          refine de_sl c.hK (ihE a) ?_ ?_
          · cases lo with
            | none => dsimp only; rw [evo_none]; exact do_none
            | some l => dsimp only; rw [evo_some]; exact do_some (ihE l)
          · cases hi with
            | none => dsimp only; rw [evo_none]; exact do_none
            | some l => dsimp only; rw [evo_some]; exact do_some (ihE l)
        | some s => exact bad2
      | _ => exact key (fun z => by cases z)
    | Call f args kws pos =>
      cases f with
      | Name x p =>
        cases kws with
        | nil => exact both_plain (sound_call c ihE) plain_call (fun _ => rfl)
        | cons _ _ => exact bad2
      | _ => exact bad2
    | ListComp elt gens scope pos =>
      rcases gens with _ | ⟨⟨tg, iter, ifs, ay⟩, _ | ⟨_, _⟩⟩
      · exact bad2
      · by_cases ha : ay = 0
        · subst ha
          rcases ifs with _ | ⟨t, _ | ⟨_, _⟩⟩
          · show Both fs Γ k X W _ (if _ then _ else _)
            by_cases hh : blkC N sc scope (ownOf N scope) = true ∧ isSet iter = false ∧ (slots (trT g N (trE g N n scope (relS scope sc)) n scope (relS scope sc) tg)).all (fun j => ((ownOf N scope).map (·.2)).contains j) = true
            · rw [if_pos hh]
              refine both_plain ?_ rfl (fun _ => rfl)
              obtain ⟨tt, p1, p2⟩ := sound_comp (elt := elt) (ifs := []) (pos := pos) (ct := .con (.bl true)) c ih (fun X' _ => by rw [test_true]; exact dts_nil) hh
              exact ⟨tt, p1.1, p2⟩
            · rw [if_neg hh]; exact bad2
          · show Both fs Γ k X W _ (if _ then _ else _)
            by_cases hh : blkC N sc scope (ownOf N scope) = true ∧ isSet iter = false ∧ (slots (trT g N (trE g N n scope (relS scope sc)) n scope (relS scope sc) tg)).all (fun j => ((ownOf N scope).map (·.2)).contains j) = true
            · rw [if_pos hh]
              refine both_plain ?_ rfl (fun _ => rfl)
              obtain ⟨tt, p1, p2⟩ := sound_comp (elt := elt) (ifs := [t]) (pos := pos) (ct := trE g N n scope (relS scope sc) t) c ih (fun X' cx => dts_one (ih _ _ _ _ t cx).2) hh
              exact ⟨tt, p1.1, p2⟩
            · rw [if_neg hh]; exact bad2
          · exact bad2
        · have e : trE g N (n + 1) sc0 sc (.ListComp elt [⟨tg, iter, ifs, ay⟩] scope pos) = .bad := by
            rcases ifs with _ | ⟨t, _ | ⟨_, _⟩⟩ <;> (unfold trE; split <;> first | rfl | (rename_i z; simp_all))
          rw [e]
          exact bad2
      · rename_i g2 gs
        have e : trE g N (n + 1) sc0 sc (.ListComp elt (⟨tg, iter, ifs, ay⟩ :: g2 :: gs) scope pos) = .bad := by
          rcases ifs with _ | ⟨t, _ | ⟨_, _⟩⟩ <;> (unfold trE; split <;> first | rfl | simp_all)
        rw [e]
        exact bad2
    | _ => exact bad2
end
end PD

set_option Elab.async false
set_option linter.all false
set_option maxRecDepth 100000
set_option maxHeartbeats 4000000
namespace PD
open PySem PySem.Spec PyProof.Rows L2
/-! ### statements of the text -/
def swN (sc : Scope) (x : Str) (pline vline : Nat) (scope : Scope) : Bool := sc.names.lookup x == some .local && pline == vline && !(scope.names.any fun (n, k) => n == x && (k == .local || k == .cell))
def namesOf (sc : Scope) (line : Nat) (ts : List Expr) : List Str := ts.filterMap fun
  | .Name id pos => if sc.names.lookup id == some .local && pos.line == line then some id else none
  | _ => none
def swS (sc : Scope) (ts vs : List Expr) : Option (Option (List Str)) :=
  if (!(ts.length == 2 || ts.length == 3) || vs.length != ts.length) = true then some none
  else if vs.any star = true then some none
  else if ((namesOf sc ((ts.head?.map (·.pos.line)).getD 0) ts).length != ts.length || (namesOf sc ((ts.head?.map (·.pos.line)).getD 0) ts).eraseDups.length != (namesOf sc ((ts.head?.map (·.pos.line)).getD 0) ts).length) = true then some none
  else if vs.all (foldedForSure 8) = true then some none
  else if vs.all (constantsAlone 8) = true then none
  else some (some (namesOf sc ((ts.head?.map (·.pos.line)).getD 0) ts))
theorem kind_block {env : Env} {sc : Scope} (h : env.scope = sc) (hk : sc.kind = .function) : env.blockKind = .function := by
  unfold Env.blockKind
  rw [h, hk]
  rfl
theorem sw_ok {env : Env} {sc : Scope} {ts vs : List Expr} {k1 k2 : Nat} {p1 p2 : Pos} {r : Option (List Str)} (h : env.scope = sc) (hk : sc.kind = .function) (e : swS sc ts vs = some r) : swappedStores [.Tuple ts k1 p1] (.Tuple vs k2 p2) env = pure r := by
  have hb := kind_block h hk
  subst h
  unfold swS at e
  unfold swappedStores
  simp only [hb, bne_self_eq_false, Bool.or_false]
  change (if (!(ts.length == 2 || ts.length == 3) || vs.length != ts.length) = true then (pure none : Sem (Option (List Str))) else if vs.any star = true then pure none
    else if ((namesOf env.scope ((ts.head?.map (·.pos.line)).getD 0) ts).length != ts.length || (namesOf env.scope ((ts.head?.map (·.pos.line)).getD 0) ts).eraseDups.length != (namesOf env.scope ((ts.head?.map (·.pos.line)).getD 0) ts).length) = true then pure none
    else if vs.all (foldedForSure 8) = true then pure none else if vs.all (constantsAlone 8) = true then _ else _) = _
  by_cases c1 : (!(ts.length == 2 || ts.length == 3) || vs.length != ts.length) = true
  · rw [if_pos c1] at e ⊢; cases e; rfl
  · rw [if_neg c1] at e ⊢
    by_cases c2 : vs.any star = true
    · rw [if_pos c2] at e ⊢; cases e; rfl
    · rw [if_neg c2] at e ⊢
      by_cases c3 : ((namesOf env.scope ((ts.head?.map (·.pos.line)).getD 0) ts).length != ts.length || (namesOf env.scope ((ts.head?.map (·.pos.line)).getD 0) ts).eraseDups.length != (namesOf env.scope ((ts.head?.map (·.pos.line)).getD 0) ts).length) = true
      · rw [if_pos c3] at e ⊢; cases e; rfl
      · rw [if_neg c3] at e ⊢
        by_cases c4 : vs.all (foldedForSure 8) = true
        · rw [if_pos c4] at e ⊢; cases e; rfl
        · rw [if_neg c4] at e ⊢
          by_cases c5 : vs.all (constantsAlone 8) = true
          · rw [if_pos c5] at e; cases e
          · rw [if_neg c5] at e ⊢; cases e; rfl
theorem sw_name {env : Env} {sc : Scope} {x : Str} {p pos : Pos} {elt : Expr} {gens : List Comprehension} {scope : Scope} {line : Nat} (h : env.scope = sc) (hk : sc.kind = .function) :
    swapsWith (.ListComp elt gens scope pos) (some (.Name x p)) line env = pure (swN sc x p.line pos.line scope) := by
  have hb := kind_block h hk
  subst h
  unfold swapsWith
  simp only [hb]
  rfl
theorem sw_else {env : Env} {tg : Option Expr} {e : Expr} {line : Nat} (h : isComp e = false) : swapsWith e tg line env = pure false := by
  cases e <;> first | rfl | exact Bool.noConfusion h
def isName : Expr → Bool
  | .Name .. => true
  | _ => false
theorem sw_tg {env : Env} {tg e : Expr} {line : Nat} (h : isName tg = false) : swapsWithSole [tg] e line env = pure false := by
  show swapsWith e (some tg) line env = pure false
  cases e <;> first | rfl | (cases tg <;> first | rfl | exact Bool.noConfusion h)
theorem stores_none {env : Env} {tg e : Expr} (h : isTuple tg = false ∨ isTuple e = false) : (∀ es p, tg ≠ .List es p) → swappedStores [tg] e env = pure none := fun hl => by
  rcases h with h | h
  · cases tg <;> first | exact Bool.noConfusion h | rfl | exact absurd rfl (hl _ _)
  · cases e <;> first | exact Bool.noConfusion h | (cases tg <;> rfl)
def isListX : Expr → Bool
  | .List .. => true
  | _ => false
def trPar2 (sc : Scope) (N : List Str) (x y : Str) (es : Exs) : Sx := match ixOf N x, ixOf N y with
  | some i, some j => if i ≠ j ∧ sc.names.lookup x = some .local ∧ sc.names.lookup y = some .local then .par [i, j] es else .bad
  | _, _ => .bad
def trPar3 (sc : Scope) (N : List Str) (x y z : Str) (es : Exs) : Sx := match ixOf N x, ixOf N y, ixOf N z with
  | some i, some j, some l => if i ≠ j ∧ i ≠ l ∧ j ≠ l ∧ sc.names.lookup x = some .local ∧ sc.names.lookup y = some .local ∧ sc.names.lookup z = some .local then .par [i, j, l] es else .bad
  | _, _, _ => .bad
def trAsg (g : GT) (N : List Str) (n : Nat) (sc0 sc : Scope) (tg e : Expr) : Sx :=
  if star tg = true ∨ isListX tg = true then .bad else
  match tg, e with
  | .Tuple ts _ _, .Tuple vs _ _ => match swS sc ts vs with
    | none => .bad
    | some none => .asg (trT g N (trE g N n sc0 sc) n sc0 sc tg) (trE g N n sc0 sc e)
    | some (some names) => if vs.any star = true then .bad else match ts, vs with
      | [.Name x _, .Name y _], [_, _] => if names = [x, y] then trPar2 sc N x y (exs (vs.map (trE g N n sc0 sc))) else .bad
      | [.Name x _, .Name y _, .Name z _], [_, _, _] => if names = [x, y, z] then trPar3 sc N x y z (exs (vs.map (trE g N n sc0 sc))) else .bad
      | _, _ => .bad
  | .Name x p, .ListComp _ _ scope pos => if swN sc x p.line pos.line scope = true then (match ixOf N x with
      | some i => if sc.names.lookup x = some .local then .asg (.name i) (trE g N n sc0 sc e) else .bad
      | none => .bad) else .asg (trT g N (trE g N n sc0 sc) n sc0 sc tg) (trE g N n sc0 sc e)
  | tg, e => if (isComp e && isName tg) = true then .bad else .asg (trT g N (trE g N n sc0 sc) n sc0 sc tg) (trE g N n sc0 sc e)
def isStrC : Expr → Bool
  | .Constant (.str _) _ _ => true
  | _ => false
mutual
def trS (g : GT) (N : List Str) : Nat → Scope → Scope → Stmt → Sx
  | 0, _, _, _ => .bad
  | n + 1, sc0, sc, st => match st with
    | .Expr e _ => if isStrC e = true then .skip else if isComp e = true then .bad else .expr (trE g N n sc0 sc e)
    | .Return (some e) _ => .ret (trE g N n sc0 sc e)
    | .Return none _ => .retN
    | .Pass _ => .skip
    | .Break _ => .brk
    | .Continue _ => .cont
    | .If c a b _ => .ife (trE g N n sc0 sc c) (trSs g N n sc0 sc a) (trSs g N n sc0 sc b)
    | .While c b [] _ => .whl (trE g N n sc0 sc c) (trSs g N n sc0 sc b)
    | .For tg it b [] _ => if isSet it = true then .bad else .for_ (trI tg sc (trE g N n sc0 sc) it) (trT g N (trE g N n sc0 sc) n sc0 sc tg) (trSs g N n sc0 sc b)
    | .Assign [tg] e _ => trAsg g N n sc0 sc tg e
    | _ => .bad
def trSs (g : GT) (N : List Str) : Nat → Scope → Scope → List Stmt → Sx
  | 0, _, _, _ => .bad
  | n + 1, sc0, sc, sts => match sts with
    | [] => .skip
    | st :: r => .seq (trS g N n sc0 sc st) (trSs g N n sc0 sc r)
end
section
variable {cl : Nat → List D → Hh → R D}
theorem exec_asg {t e} : exec cl (.asg t e) = fun en h => bndS (ev cl e en h) en fun d h1 => bndS (noExc (asgn cl t d en h1)) en fun en2 h2 => .nx en2 h2 := by funext en h; rw [exec]
theorem exec_par {is es} : exec cl (.par is es) = fun en h => bndS (evs cl es en h) en fun ds h1 => match parSet is ds en with | some en' => .nx en' h1 | none => .bad := by funext en h; rw [exec] <;> rfl
theorem exec_expr {e} : exec cl (.expr e) = fun en h => bndS (ev cl e en h) en fun _ h1 => .nx en h1 := by funext en h; rw [exec]
theorem exec_ret {e} : exec cl (.ret e) = fun en h => bndS (ev cl e en h) en fun d h1 => .rt d h1 := by funext en h; rw [exec]
theorem exec_retN : exec cl .retN = fun _ h => .rt .non h := by funext en h; rw [exec]
theorem exec_ife {c a b} : exec cl (.ife c a b) = fun en h => bndS (test cl c en h) en fun k h1 => if k = true then exec cl a en h1 else exec cl b en h1 := by funext en h; rw [exec]
theorem exec_whl {c b} : exec cl (.whl c b) = fun en h => whileLoop (test cl c) (exec cl b) turns en h := by funext en h; rw [exec]
theorem exec_for {it t b} : exec cl (.for_ it t b) = fun en h => bndS (evi cl it en h) en fun I h1 => forLoop I (asgn cl t) (exec cl b) turns 0 en h1 := by funext en h; rw [exec]
theorem exec_brk : exec cl .brk = fun en h => .bk en h := by funext en h; rw [exec]
theorem exec_cont : exec cl .cont = fun en h => .ct en h := by funext en h; rw [exec]
theorem exec_skip : exec cl .skip = fun en h => .nx en h := by funext en h; rw [exec]
theorem exec_seq {a b} : exec cl (.seq a b) = fun en h => thenS (exec cl a en h) (exec cl b) := by funext en h; rw [exec]
theorem exec_bad : exec cl .bad = fun _ _ => .bad := by funext en h; rw [exec]
end
section
variable {g : GT} {fs : List Fn} {Γ : Wd} {N : List Str} {k : Nat} {X : Cx} {W : WX} {sc0 sc : Scope}
theorem badS {st : Stmt} : DS Γ X W st (exec (callF fs k) .bad) := by rw [exec_bad]; exact ds_bad
theorem sound_set_comp {i : Nat} {x : Str} {p pos pc : Pos} {elt : Expr} {gens : List Comprehension} {scope : Scope} (c : Cok g fs Γ N k X sc0 sc W) (hi : X.N[i]? = some x) (hl : X.env.scope.names.lookup x = some .local)
    (hsw : swapsWith (.ListComp elt gens scope pc) (some (.Name x p)) pos.line X.env = pure true) : ∀ n : Nat,
    ∃ t, PS X (.Assign [.Name x p] (.ListComp elt gens scope pc) pos) (tAsg t (gName i)) ∧ ∀ α h H en σ Q, HR Γ.K α h H → ER Γ.K α H en σ → Pst Γ (RV Γ) α H (ev (callF fs k) (trE g N n sc0 sc (.ListComp elt gens scope pc)) en h) Q (fun c d H' => W c d σ H') → t σ H Q := by
  have bad : ∃ t, PS X (.Assign [.Name x p] (.ListComp elt gens scope pc) pos) (tAsg t (gName i)) ∧ ∀ α h H en σ Q, HR Γ.K α h H → ER Γ.K α H en σ → Pst Γ (RV Γ) α H (ev (callF fs k) .bad en h) Q (fun c d H' => W c d σ H') → t σ H Q :=
    ⟨fun _ _ _ => False, ⟨fun _ _ _ _ _ _ h => h.elim⟩, fun α h H en σ Q _ _ q => by rw [ev_bad] at q; exact q⟩
  intro n
  cases n with
  | zero => exact bad
  | succ n =>
    have ih := fun X sc0 sc W e c => sound (g := g) (fs := fs) (Γ := Γ) (N := N) (k := k) n X sc0 sc W e c
    rcases gens with _ | ⟨⟨tg, iter, ifs, ay⟩, _ | ⟨g2, gs⟩⟩
    · exact bad
    · by_cases ha : ay = 0
      · subst ha
        rcases ifs with _ | ⟨t, _ | ⟨_, _⟩⟩
        · by_cases hh : blkC N sc scope (ownOf N scope) = true ∧ isSet iter = false ∧ (slots (trT g N (trE g N n scope (relS scope sc)) n scope (relS scope sc) tg)).all (fun j => ((ownOf N scope).map (·.2)).contains j) = true
          · obtain ⟨tt, p1, p2⟩ := sound_comp (elt := elt) (ifs := []) (pos := pc) (ct := .con (.bl true)) c ih (fun X' _ => by rw [test_true]; exact dts_nil) hh
            refine ⟨tt, p1.2 hi hl hsw, fun α h H en σ Q hr er q => p2 _ _ _ _ _ _ hr er ?_⟩
            have e : trE g N (n + 1) sc0 sc (.ListComp elt [⟨tg, iter, [], 0⟩] scope pc) = _ := if_pos hh
            rw [e] at q
            exact q
          · have e : trE g N (n + 1) sc0 sc (.ListComp elt [⟨tg, iter, [], 0⟩] scope pc) = _ := if_neg hh
            rw [e]
            exact bad
        · by_cases hh : blkC N sc scope (ownOf N scope) = true ∧ isSet iter = false ∧ (slots (trT g N (trE g N n scope (relS scope sc)) n scope (relS scope sc) tg)).all (fun j => ((ownOf N scope).map (·.2)).contains j) = true
          · obtain ⟨tt, p1, p2⟩ := sound_comp (elt := elt) (ifs := [t]) (pos := pc) (ct := trE g N n scope (relS scope sc) t) c ih (fun X' cx => dts_one (ih _ _ _ _ t cx).2) hh
            refine ⟨tt, p1.2 hi hl hsw, fun α h H en σ Q hr er q => p2 _ _ _ _ _ _ hr er ?_⟩
            have e : trE g N (n + 1) sc0 sc (.ListComp elt [⟨tg, iter, [t], 0⟩] scope pc) = _ := if_pos hh
            rw [e] at q
            exact q
          · have e : trE g N (n + 1) sc0 sc (.ListComp elt [⟨tg, iter, [t], 0⟩] scope pc) = _ := if_neg hh
            rw [e]
            exact bad
        · exact bad
      · have e : trE g N (n + 1) sc0 sc (.ListComp elt [⟨tg, iter, ifs, ay⟩] scope pc) = .bad := by
          rcases ifs with _ | ⟨t, _ | ⟨_, _⟩⟩ <;> (unfold trE; split <;> first | rfl | (rename_i z; simp_all))
        rw [e]
        exact bad
    · have e : trE g N (n + 1) sc0 sc (.ListComp elt (⟨tg, iter, ifs, ay⟩ :: g2 :: gs) scope pc) = .bad := by
        rcases ifs with _ | ⟨t, _ | ⟨_, _⟩⟩ <;> (unfold trE; split <;> first | rfl | simp_all)
      rw [e]
      exact bad
theorem sound_asg {n : Nat} {tg e : Expr} {pos : Pos} (c : Cok g fs Γ N k X sc0 sc W) : DS Γ X W (.Assign [tg] e pos) (exec (callF fs k) (trAsg g N n sc0 sc tg e)) := by
  have ihE : ∀ e, DE Γ X W e (ev (callF fs k) (trE g N n sc0 sc e)) := fun e => (sound n X sc0 sc W e c).1
  have gen : star tg = false → swapsWithSole [tg] e pos.line X.env = pure false → swappedStores [tg] e X.env = pure none → DS Γ X W (.Assign [tg] e pos) (exec (callF fs k) (.asg (trT g N (trE g N n sc0 sc) n sc0 sc tg) (trE g N n sc0 sc e))) := fun h1 h2 h3 => by
    rw [exec_asg]
    exact ds_asg h2 h3 h1 (ihE e) (sound_T c ihE n tg)
  unfold trAsg
  by_cases h0 : star tg = true ∨ isListX tg = true
  · rw [if_pos h0]; exact badS
  · rw [if_neg h0]
    have hst : star tg = false := by
      cases q : star tg with
      | false => rfl
      | true => exact absurd (.inl q) h0
    have hnl : ∀ es p, tg ≠ .List es p := fun es p z => by
      subst z
      exact h0 (.inr rfl)
    split
    · rename_i ts k1 p1 vs k2 p2
      cases q : swS sc ts vs with
      | none => exact badS
      | some r =>
        have hw : swappedStores [.Tuple ts k1 p1] (.Tuple vs k2 p2) X.env = pure r := sw_ok c.hsc c.kind q
        cases r with
        | none => exact gen hst (sw_tg rfl) hw
        | some names =>
          dsimp only
          by_cases hv : vs.any star = true
          · rw [if_pos hv]; exact badS
          · rw [if_neg hv]
            have hv' : vs.any star = false := by simpa using hv
            split
            · rename_i x px y py a b
              by_cases hn : names = [x, y]
              · rw [if_pos hn]
                subst hn
                unfold trPar2
                cases q1 : ixOf N x with
                | none => exact badS
                | some i =>
                  cases q2 : ixOf N y with
                  | none => exact badS
                  | some j =>
                    dsimp only
                    by_cases hc : i ≠ j ∧ sc.names.lookup x = some .local ∧ sc.names.lookup y = some .local
                    · rw [if_pos hc, exec_par]
                      have hsc := c.hsc
                      exact ds_par2 c.calm (by rw [c.hN]; exact c.nd) (by rw [c.hN]; exact ixOf_get q1) (by rw [c.hN]; exact ixOf_get q2) hc.1 (by rw [hsc]; exact hc.2.1) (by rw [hsc]; exact hc.2.2) hw (sound_args ihE hv')
                    · rw [if_neg hc]; exact badS
              · rw [if_neg hn]; exact badS
            · rename_i x px y py z pz a b d
              by_cases hn : names = [x, y, z]
              · rw [if_pos hn]
                subst hn
                unfold trPar3
                cases q1 : ixOf N x with
                | none => exact badS
                | some i =>
                  cases q2 : ixOf N y with
                  | none => exact badS
                  | some j =>
                    cases q3 : ixOf N z with
                    | none => exact badS
                    | some l =>
                      dsimp only
                      by_cases hc : i ≠ j ∧ i ≠ l ∧ j ≠ l ∧ sc.names.lookup x = some .local ∧ sc.names.lookup y = some .local ∧ sc.names.lookup z = some .local
                      · rw [if_pos hc, exec_par]
                        have hsc := c.hsc
                        exact ds_par3 c.calm (by rw [c.hN]; exact c.nd) (by rw [c.hN]; exact ixOf_get q1) (by rw [c.hN]; exact ixOf_get q2) (by rw [c.hN]; exact ixOf_get q3) hc.1 hc.2.1 hc.2.2.1 (by rw [hsc]; exact hc.2.2.2.1) (by rw [hsc]; exact hc.2.2.2.2.1) (by rw [hsc]; exact hc.2.2.2.2.2) hw (sound_args ihE hv')
                      · rw [if_neg hc]; exact badS
              · rw [if_neg hn]; exact badS
            · exact badS
    · rename_i x p elt gens scope pc
      have hsw := sw_name (elt := elt) (gens := gens) (scope := scope) (pos := pc) (x := x) (p := p) (line := pos.line) c.hsc c.kind
      by_cases hs : swN sc x p.line pc.line scope = true
      · rw [if_pos hs]
        cases q : ixOf N x with
        | none => exact badS
        | some i =>
          dsimp only
          by_cases hl : sc.names.lookup x = some .local
          · rw [if_pos hl, exec_asg, asgn_name]
            rw [hs] at hsw
            exact ds_setLc (sound_set_comp c (by rw [c.hN]; exact ixOf_get q) (by rw [c.hsc]; exact hl) hsw n)
          · rw [if_neg hl]; exact badS
      · rw [if_neg hs]
        have hs' : swN sc x p.line pc.line scope = false := by simpa using hs
        rw [hs'] at hsw
        exact gen rfl hsw rfl
    · rename_i h1 h2
      by_cases hc : (isComp e && isName tg) = true
      · rw [if_pos hc]; exact badS
      · rw [if_neg hc]
        have hc' : isComp e = false ∨ isName tg = false := by
          cases q1 : isComp e with
          | false => exact .inl rfl
          | true =>
            cases q2 : isName tg with
            | false => exact .inr rfl
            | true => exact absurd (by rw [q1, q2]; rfl) hc
        refine gen hst (hc'.elim sw_else sw_tg) ?_
        refine stores_none ?_ hnl
        cases q1 : isTuple tg with
        | false => exact .inl rfl
        | true =>
          cases q2 : isTuple e with
          | false => exact .inr rfl
          | true =>
            exfalso
            cases tg <;> first | exact Bool.noConfusion q1 | skip
            cases e <;> first | exact Bool.noConfusion q2 | skip
            exact h1 _ _ _ _ _ _ rfl rfl
theorem sound_S (hp : PassesOwn (model X.prog X.w) X.A X.env X.xe) (c : Cok g fs Γ N k X sc0 sc W) : ∀ n : Nat, (∀ st, DS Γ X W st (exec (callF fs k) (trS g N n sc0 sc st))) ∧ (∀ sts, DSs Γ X W sts (exec (callF fs k) (trSs g N n sc0 sc sts))) := by
  intro n
  induction n with
  | zero =>
    refine ⟨fun st => badS, fun sts => ?_⟩
    show DSs Γ X W sts (exec _ .bad)
    rw [exec_bad]
    exact ⟨_, pss_never, fun _ _ _ _ _ _ _ _ p => p⟩
  | succ n ih =>
    have ihB : ∀ e, Both fs Γ k X W e (trE g N n sc0 sc e) := fun e => sound n X sc0 sc W e c
    refine ⟨fun st => ?_, fun sts => ?_⟩
    · cases st with
      | Expr e pos =>
        show DS Γ X W _ (exec _ (if isStrC e = true then .skip else if isComp e = true then .bad else .expr _))
        by_cases h1 : isStrC e = true
        · rw [if_pos h1, exec_skip]
          cases e <;> first | exact Bool.noConfusion h1 | skip
          rename_i cc j p
          cases cc <;> first | exact Bool.noConfusion h1 | exact ds_doc
        · rw [if_neg h1]
          by_cases h2 : isComp e = true
          · rw [if_pos h2]; exact badS
          · rw [if_neg h2, exec_expr]
            exact ds_expr (sw_else (by simpa using h2)) (ihB e).1
      | Return v pos =>
        cases v with
        | none => show DS Γ X W _ (exec _ .retN); rw [exec_retN]; exact ds_retN
        | some e => show DS Γ X W _ (exec _ (.ret _)); rw [exec_ret]; exact ds_ret (ihB e).1
      | Pass pos => show DS Γ X W _ (exec _ .skip); rw [exec_skip]; exact ds_pass
      | Break pos => show DS Γ X W _ (exec _ .brk); rw [exec_brk]; exact ds_break
      | Continue pos => show DS Γ X W _ (exec _ .cont); rw [exec_cont]; exact ds_cont
      | If t a b pos => show DS Γ X W _ (exec _ (.ife _ _ _)); rw [exec_ife]; exact ds_if (ihB t).2 (ih.2 a) (ih.2 b)
      | While t b els pos =>
        cases els with
        | nil => show DS Γ X W _ (exec _ (.whl _ _)); rw [exec_whl]; exact ds_while hp (ihB t).2 (ih.2 b)
        | cons _ _ => exact badS
      | For tg it b els pos =>
        cases els with
        | nil =>
          show DS Γ X W _ (exec _ (if isSet it = true then .bad else .for_ _ _ _))
          by_cases h : isSet it = true
          · rw [if_pos h]; exact badS
          · rw [if_neg h, exec_for]
            exact ds_for hp c.calm (notSet (by simpa using h)) (sound_I c (fun e => (ihB e).1) tg it) (sound_T c (fun e => (ihB e).1) n tg) (ih.2 b)
        | cons _ _ => exact badS
      | Assign tgs e pos =>
        rcases tgs with _ | ⟨tg, _ | ⟨_, _⟩⟩
        · exact badS
        · exact sound_asg c
        · exact badS
      | _ => exact badS
    · cases sts with
      | nil => show DSs Γ X W _ (exec _ .skip); rw [exec_skip]; exact dss_nil
      | cons st r => show DSs Γ X W _ (exec _ (.seq _ _)); rw [exec_seq]; exact dss_cons (ih.1 st) (ih.2 r)
end
end PD

set_option Elab.async false
set_option linter.all false
set_option maxRecDepth 100000
set_option maxHeartbeats 4000000
namespace PD
open PySem PySem.Spec PyProof.Rows L2
section
variable {P : Program} {w : World} {K : PySem.W.Frag} {mg : Str → Option Value} {base : Heap} {g : GT} {fs : List Fn} {Γ : Wd}
theorem er_start {α : List Addr} {H : Hp} {N : List Str} {ds : List D} {vs : List V} (r : Reps Γ.K α H ds vs) : ER Γ.K α H (startE N ds) (L2.start N vs) := by
  unfold startE L2.start
  refine ⟨by simp [r.length], fun i d h => ?_⟩
  have hl := r.length
  by_cases c : i < ds.length
  · rw [List.getElem?_append_left (by simpa using c), List.getElem?_map] at h
    cases q : ds[i]? with
    | none => rw [q] at h; cases h
    | some d' =>
      rw [q] at h
      cases h
      obtain ⟨v, e, rv⟩ := r.get q
      exact ⟨v, by rw [List.getElem?_append_left (by simp; omega), List.getElem?_map, e]; rfl, rv⟩
  · rw [List.getElem?_append_right (by simpa using c), List.getElem?_replicate] at h
    split at h <;> cases h
theorem end_post {α : List Addr} {H : Hp} {r : RS} {Q : VK} {E : XK} (p : Pst Γ (RV Γ) α H (endOf r) Q E) : PstS Γ α H r { nx := fun _ H' => Q .non H', rt := Q } (fun cls d _ H => E cls d H) := by
  cases r with
  | nx en h => exact fun α' H' σ' st hr er => p _ _ _ st hr .non
  | rt d h => exact p
  | bk en h => exact False.elim p
  | ct en h => exact False.elim p
  | exc c x en h => exact fun α' H' σ' cls d st hr er xr => p _ _ _ _ st hr xr
  | bad => exact p
/-- what the top says of one def -/
structure FnAt (K : PySem.W.Frag) (mg : Str → Option Value) (g : GT) (n : Nat) (f : Fn) (st : Stmt) (a : Addr) (fd : FuncData) : Prop where
  fn : Fun K f.name f.name st a fd
  mg : mg f.name = some (.ref a)
  bd : Binds K fd f.ps []
  sc : FnScope f.N f.ps (defScope st)
  tr : trSs g f.N n (defScope st) (defScope st) (defBody st) = f.body
/-- what the module says -/
structure ModAt (K : PySem.W.Frag) (mg : Str → Option Value) (g : GT) (fs : List Fn) (Γ : Wd) (n : Nat) : Prop where
  hK : K = Γ.K
  names : g.fns = fs.map fun f => (f.name, f.id)
  ids : (fs.map (·.id)).Nodup
  cons : ∀ x d, g.cons.lookup x = some d → ∃ u v, mg x = some u ∧ RelV v u ∧ ∀ α H, Rep Γ.K α H d v
  bi : ∀ x ∈ bnames, mg x = none
  fns : ∀ f, f ∈ fs → ∃ st a fd, FnAt K mg g n f st a fd
theorem fget_mem : ∀ {fs : List Fn} {f : Fn}, (fs.map (·.id)).Nodup → f ∈ fs → fget fs f.id = some f
  | [], _, _, h => by cases h
  | e :: r, f, nd, h => by
    rw [List.map_cons, List.nodup_cons] at nd
    unfold fget
    rw [List.find?_cons]
    rcases List.mem_cons.mp h with q | q
    · subst q
      simp
    · have ne : (e.id == f.id) = false := by
        rw [beq_eq_false_iff_ne]
        intro z
        exact nd.1 (by rw [z]; exact List.mem_map.mpr ⟨f, q, rfl⟩)
      rw [ne]
      exact fget_mem nd.2 q
theorem lookup_mem {l : List (Str × Nat)} {x : Str} {i : Nat} (h : l.lookup x = some i) : (x, i) ∈ l := PySem.mem_of_lookup h
theorem fn_zero (M : ModAt K mg g fs Γ n) {i : Nat} {f : Fn} {st : Stmt} {a : Addr} {fd : FuncData} : FnOk P w K mg base (L2.CX P w) 0 a fd f.ps (spF Γ fs 0 i f.ps.length) :=
  ⟨fun vs H Q E h => h.1, fun A outer s H args us vs Q E hr e0 hb r h => by
    obtain ⟨_, α, hh, ds, _, _, p⟩ := h
    exact False.elim p⟩
theorem fn_succ {n k : Nat} (M : ModAt K mg g fs Γ n) (ih : ∀ f, f ∈ fs → ∀ st a fd, FnAt K mg g n f st a fd → FnOk P w K mg base (L2.CX P w) k a fd f.ps (spF Γ fs k f.id f.ps.length))
    {f : Fn} {st : Stmt} {a : Addr} {fd : FuncData} (hm : f ∈ fs) (F : FnAt K mg g n f st a fd) : FnOk P w K mg base (L2.CX P w) (k + 1) a fd f.ps (spF Γ fs (k + 1) f.id f.ps.length) := by
  have hf := fget_mem M.ids hm
  refine F.fn.okX F.sc (fun vs H Q E h => h.1) (fun cdv A outer s H vs Q E hr h => ?_)
  obtain ⟨hl, α, hh, ds, hrel, rs, p⟩ := h
  unfold callF at p
  rw [hf] at p
  dsimp only at p
  rw [if_pos (by rw [rs.length]; exact hl)] at p
  have c : Cok g fs Γ f.N k (cxOf (L2.CX P w) P w K mg base f.N f.name (defScope st) a cdv A outer s H E) (defScope st) (defScope st) (fun cls d _ H => E cls d H) := by
    refine ⟨rfl, F.sc.nd, rfl, F.sc.kind, fun _ _ => rfl, rfl, hr, M.hK, M.cons, M.bi, fun j x hx => ?_, takes_of rfl rfl rfl rfl⟩
    rw [M.names] at hx
    obtain ⟨f', q, e⟩ := List.mem_map.mp (lookup_mem hx)
    cases e
    obtain ⟨st', a', fd', F'⟩ := M.fns f' q
    exact ⟨f', a', fd', fget_mem M.ids q, rfl, F'.mg, F'.fn.kp, F'.bd, ih f' q st' a' fd' F'⟩
  have hp : PassesOwn (model P w) (A.deeper (envOfC f.name (defScope st) s.heap.objs.size a cdv)) (envOfC f.name (defScope st) s.heap.objs.size a cdv) (cxOf (L2.CX P w) P w K mg base f.N f.name (defScope st) a cdv A outer s H E).xe :=
    passes_of (X := cxOf (L2.CX P w) P w K mg base f.N f.name (defScope st) a cdv A outer s H E) (K := fun e s'' => L2.CX P w outer H s E e s'') rfl
  obtain ⟨t, pt, kk⟩ := ((sound_S hp c n).2 (defBody st)).ex
  refine ⟨t, pt, kk _ _ _ _ _ _ hrel (er_start rs) ?_⟩
  rw [F.tr]
  exact end_post p
theorem fn_all {n : Nat} (M : ModAt K mg g fs Γ n) : ∀ (k : Nat) (f : Fn), f ∈ fs → ∀ st a fd, FnAt K mg g n f st a fd → FnOk P w K mg base (L2.CX P w) k a fd f.ps (spF Γ fs k f.id f.ps.length)
  | 0, f, hf, st, a, fd, F => fn_zero (st := st) M
  | k + 1, f, hf, st, a, fd, F => fn_succ M (fun f' hf' => fn_all M k f' hf') hf F
/-- the law's own promise, from the evaluation of its def -/
theorem law_post {i k : Nat} {H : Hp} {a : Addr} {ns : List Int} (hO : Only H) (hS : SqL Γ.K H a (ns.map V.int)) (e : ∃ h', callF fs k i [.scr ns] [] = .ok (.bl true) h') : spF Γ fs k i 1 [.ref a] H (fun v _ => v = .bl true) fun _ _ _ => False := by
  obtain ⟨h', e⟩ := e
  refine ⟨rfl, [], [], [.scr ns], ⟨rfl, List.nodup_nil, fun n a o h => by simp at h⟩, .cons (.scr ?_) .nil, ?_⟩
  · rcases hS with (s | ⟨o, s⟩) | s
    · rcases hO a with q | ⟨o, xs, q⟩
      · rw [q] at s; cases s
      · rw [q] at s; cases s
    · exact .inl ⟨o, s⟩
    · exact .inr s
  · rw [e]
    intro α' H' b st hr r
    cases r
    rfl
theorem noCX {H : Hp} {s s' : Shared} {e : Value} {outer : List Env} (h : L2.CX P w outer H s (fun _ _ _ => False) e s') : False := by
  obtain ⟨_, _, _, _, _, _, _, _, _, _, _, _, z⟩ := h
  exact z
def ConsAt (K : PySem.W.Frag) (mg : Str → Option Value) : List (Str × D) → Prop
  | [] => True
  | (x, d) :: r => (∃ u v, mg x = some u ∧ RelV v u ∧ ∀ α H, Rep K α H d v) ∧ ConsAt K mg r
theorem ConsAt.get : ∀ {l : List (Str × D)} {x : Str} {d : D}, ConsAt K mg l → l.lookup x = some d → ∃ u v, mg x = some u ∧ RelV v u ∧ ∀ α H, Rep K α H d v
  | [], _, _, _, h => by cases h
  | (y, e) :: r, x, d, c, h => by
    rw [List.lookup_cons] at h
    by_cases q : x = y
    · subst q
      simp only [beq_self_eq_true] at h
      cases h
      exact c.1
    · have : (x == y) = false := by simpa using q
      rw [this] at h
      exact ConsAt.get c.2 h
def BiAt (mg : Str → Option Value) : List Str → Prop
  | [] => True
  | x :: r => mg x = none ∧ BiAt mg r
theorem BiAt.get : ∀ {l : List Str}, BiAt mg l → ∀ x ∈ l, mg x = none
  | [], _, _, h => by cases h
  | y :: r, c, x, h => by
    rcases List.mem_cons.mp h with e | e
    · rw [e]; exact c.1
    · exact BiAt.get c.2 x e
def FnsAt (K : PySem.W.Frag) (mg : Str → Option Value) (g : GT) (n : Nat) : List Fn → Prop
  | [] => True
  | f :: r => (∃ st a fd, FnAt K mg g n f st a fd) ∧ FnsAt K mg g n r
theorem FnsAt.get {n : Nat} : ∀ {l : List Fn} {f : Fn}, FnsAt K mg g n l → f ∈ l → ∃ st a fd, FnAt K mg g n f st a fd
  | [], _, _, h => by cases h
  | e :: r, f, c, h => by
    rcases List.mem_cons.mp h with q | q
    · subst q
      exact c.1
    · exact FnsAt.get c.2 q
theorem mod_at {n : Nat} {ca : Nat → Addr} (hn : g.fns = fs.map fun f => (f.name, f.id)) (hi : (fs.map (·.id)).Nodup) (c : ConsAt K mg g.cons) (b : BiAt mg bnames) (f : FnsAt K mg g n fs) : ModAt K mg g fs ⟨K, ca⟩ n :=
  ⟨rfl, hn, hi, fun x d h => c.get h, b.get, fun f' h => f.get h⟩
theorem rep_tupK {α : List Addr} {H : Hp} {a : Addr} {dd : Option Addr} {its : List Value} {n : Nat} {sl : Array (Option Value)} {ds : List D} (vs : List V) (y : K.lookup a = some ⟨.type "tuple", dd, .seq its.toArray n, sl⟩) (v : Vals vs its) (hz : its.length ≤ sizeLine) (r : Reps K α H ds vs) : Rep K α H (.tup ds) (.ref a) :=
  .tup (.inr ⟨_, _, _, y, rfl, rfl, by simpa using hz, by simpa using v⟩) r
end
end PD

set_option Elab.async false
set_option linter.all false
set_option maxRecDepth 100000
namespace L_onenumber_k06_whole_arithmetic
open PD PySem
def gt : GT := ⟨[("is_integer", 512), ("divisor_of", 441), ("is_fraction", 509), ("lowest", 570), ("add", 375), ("less", 566), ("mul", 582), ("div", 440), ("order_of", 635), ("need_fractions", 595), ("fraction", 466), ("plus", 662), ("minus", 575), ("times", 720), ("over", 639), ("compare", 424), ("_law_spread", 315), ("_law_open", 227), ("_law_take", 326), ("_law_anew", 12), ("_law_one", 224), ("_law_common", 47), ("_law_low", 181), ("_law_drawn", 67), ("_law_order_right", 233), ("law", 556)], [("NOUGHT", (.tup [(.int 0), (.int 1)]))]⟩
def f_is_integer : Fn := { id := 512, name := "is_integer", N := ["value"], ps := ["value"], body := (.seq (.ret (.and (.isi (.var 0) .int) (.not (.isi (.var 0) .bool)))) .skip) }
def f_divisor_of : Fn := { id := 441, name := "divisor_of", N := ["one", "other"], ps := ["one", "other"], body := (.seq (.par [0, 1] (.cons (.bi .abs (.var 0)) (.cons (.bi .abs (.var 1)) .nil))) (.seq (.whl (.cmp .NotEq (.var 1) (.con (.int 0))) (.seq (.par [0, 1] (.cons (.var 1) (.cons (.bin .Mod (.var 0) (.var 1)) .nil))) .skip)) (.seq (.ret (.var 0)) .skip))) }
def f_is_fraction : Fn := { id := 509, name := "is_fraction", N := ["value"], ps := ["value"], body := (.seq (.ife (.or (.not (.isi (.var 0) .tuple)) (.or (.cmp .NotEq (.bi .len (.var 0)) (.con (.int 2))) (.or (.not (.call 512 (.cons (.ix (.var 0) (.con (.int 0))) .nil))) (.not (.call 512 (.cons (.ix (.var 0) (.con (.int 1))) .nil)))))) (.seq (.ret (.con (.bl false))) .skip) .skip) (.seq (.ret (.and (.cmp .Gt (.ix (.var 0) (.con (.int 1))) (.con (.int 0))) (.cmp .Eq (.call 441 (.cons (.ix (.var 0) (.con (.int 0))) (.cons (.ix (.var 0) (.con (.int 1))) .nil))) (.con (.int 1))))) .skip)) }
def f_lowest : Fn := { id := 570, name := "lowest", N := ["top", "bottom", "shared"], ps := ["top", "bottom"], body := (.seq (.asg (.name 2) (.call 441 (.cons (.var 0) (.cons (.var 1) .nil)))) (.seq (.ife (.cmp .Lt (.var 1) (.con (.int 0))) (.seq (.asg (.name 2) (.bin .Sub (.con (.int 0)) (.var 2))) .skip) .skip) (.seq (.ret (.tup (.cons (.bin .FloorDiv (.var 0) (.var 2)) (.cons (.bin .FloorDiv (.var 1) (.var 2)) .nil)))) .skip))) }
def f_add : Fn := { id := 375, name := "add", N := ["one", "other"], ps := ["one", "other"], body := (.seq (.ret (.call 570 (.cons (.bin .Add (.bin .Mult (.ix (.var 0) (.con (.int 0))) (.ix (.var 1) (.con (.int 1)))) (.bin .Mult (.ix (.var 1) (.con (.int 0))) (.ix (.var 0) (.con (.int 1))))) (.cons (.bin .Mult (.ix (.var 0) (.con (.int 1))) (.ix (.var 1) (.con (.int 1)))) .nil)))) .skip) }
def f_less : Fn := { id := 566, name := "less", N := ["one", "other"], ps := ["one", "other"], body := (.seq (.ret (.call 570 (.cons (.bin .Sub (.bin .Mult (.ix (.var 0) (.con (.int 0))) (.ix (.var 1) (.con (.int 1)))) (.bin .Mult (.ix (.var 1) (.con (.int 0))) (.ix (.var 0) (.con (.int 1))))) (.cons (.bin .Mult (.ix (.var 0) (.con (.int 1))) (.ix (.var 1) (.con (.int 1)))) .nil)))) .skip) }
def f_mul : Fn := { id := 582, name := "mul", N := ["one", "other"], ps := ["one", "other"], body := (.seq (.ret (.call 570 (.cons (.bin .Mult (.ix (.var 0) (.con (.int 0))) (.ix (.var 1) (.con (.int 0)))) (.cons (.bin .Mult (.ix (.var 0) (.con (.int 1))) (.ix (.var 1) (.con (.int 1)))) .nil)))) .skip) }
def f_div : Fn := { id := 440, name := "div", N := ["one", "other"], ps := ["one", "other"], body := (.seq (.ret (.call 570 (.cons (.bin .Mult (.ix (.var 0) (.con (.int 0))) (.ix (.var 1) (.con (.int 1)))) (.cons (.bin .Mult (.ix (.var 0) (.con (.int 1))) (.ix (.var 1) (.con (.int 0)))) .nil)))) .skip) }
def f_order_of : Fn := { id := 635, name := "order_of", N := ["one", "other", "gap"], ps := ["one", "other"], body := (.seq (.asg (.name 2) (.bin .Sub (.bin .Mult (.ix (.var 0) (.con (.int 0))) (.ix (.var 1) (.con (.int 1)))) (.bin .Mult (.ix (.var 1) (.con (.int 0))) (.ix (.var 0) (.con (.int 1)))))) (.seq (.ret (.bin .Sub (.bi .int (.cmp .Gt (.var 2) (.con (.int 0)))) (.bi .int (.cmp .Lt (.var 2) (.con (.int 0)))))) .skip)) }
def f_need_fractions : Fn := { id := 595, name := "need_fractions", N := ["values", "value"], ps := ["values"], body := (.seq (.for_ (.seq (.var 0)) (.name 1) (.seq (.ife (.not (.call 509 (.cons (.var 1) .nil))) (.seq .bad .skip) .skip) .skip)) .skip) }
def f_fraction : Fn := { id := 466, name := "fraction", N := ["top", "bottom", "value"], ps := ["top", "bottom"], body := (.seq (.for_ (.seq (.tup (.cons (.var 0) (.cons (.var 1) .nil)))) (.name 2) (.seq (.ife (.not (.call 512 (.cons (.var 2) .nil))) (.seq .bad .skip) .skip) .skip)) (.seq (.ife (.cmp .Eq (.var 1) (.con (.int 0))) (.seq .bad .skip) .skip) (.seq (.ret (.call 570 (.cons (.var 0) (.cons (.var 1) .nil)))) .skip))) }
def f_plus : Fn := { id := 662, name := "plus", N := ["one", "other"], ps := ["one", "other"], body := (.seq (.expr (.call 595 (.cons (.tup (.cons (.var 0) (.cons (.var 1) .nil))) .nil))) (.seq (.ret (.call 375 (.cons (.var 0) (.cons (.var 1) .nil)))) .skip)) }
def f_minus : Fn := { id := 575, name := "minus", N := ["one", "other"], ps := ["one", "other"], body := (.seq (.expr (.call 595 (.cons (.tup (.cons (.var 0) (.cons (.var 1) .nil))) .nil))) (.seq (.ret (.call 566 (.cons (.var 0) (.cons (.var 1) .nil)))) .skip)) }
def f_times : Fn := { id := 720, name := "times", N := ["one", "other"], ps := ["one", "other"], body := (.seq (.expr (.call 595 (.cons (.tup (.cons (.var 0) (.cons (.var 1) .nil))) .nil))) (.seq (.ret (.call 582 (.cons (.var 0) (.cons (.var 1) .nil)))) .skip)) }
def f_over : Fn := { id := 639, name := "over", N := ["one", "other"], ps := ["one", "other"], body := (.seq (.expr (.call 595 (.cons (.tup (.cons (.var 0) (.cons (.var 1) .nil))) .nil))) (.seq (.ife (.cmp .Eq (.var 1) (.con (.tup [(.int 0), (.int 1)]))) (.seq .bad .skip) .skip) (.seq (.ret (.call 440 (.cons (.var 0) (.cons (.var 1) .nil)))) .skip))) }
def f_compare : Fn := { id := 424, name := "compare", N := ["one", "other"], ps := ["one", "other"], body := (.seq (.expr (.call 595 (.cons (.tup (.cons (.var 0) (.cons (.var 1) .nil))) .nil))) (.seq (.ret (.call 635 (.cons (.var 0) (.cons (.var 1) .nil)))) .skip)) }
def f_law_spread : Fn := { id := 315, name := "_law_spread", N := ["_law_cell", "_law_at", "_law_primes", "_law_mixed", "_law_one_here", "_law_rest", "_law_two", "_law_three"], ps := ["_law_cell", "_law_at"], body := (.seq (.ife (.cmp .GtE (.var 0) (.bin .Pow (.con (.int 10)) (.con (.int 18)))) (.seq (.ret (.var 0)) .skip) .skip) (.seq (.asg (.name 2) (.lst (.cons (.con (.int 2147483629)) (.cons (.con (.int 2147483587)) (.cons (.con (.int 2147483579)) (.cons (.con (.int 2147483563)) (.cons (.con (.int 2147483549)) (.cons (.con (.int 2147483543)) (.cons (.con (.int 2147483497)) .nil))))))))) (.seq (.asg (.name 2) (.bin .Add (.var 2) (.lst (.cons (.con (.int 2147483489)) (.cons (.con (.int 2147483477)) (.cons (.con (.int 2147483423)) (.cons (.con (.int 2147483399)) (.cons (.con (.int 2147483353)) (.cons (.con (.int 2147483323)) .nil))))))))) (.seq (.asg (.name 3) (.bin .Add (.bin .Add (.bin .Mult (.bin .Mod (.bi .int (.var 0)) (.con (.int 1000000007))) (.bin .Add (.bin .Mult (.con (.int 2)) (.var 1)) (.con (.int 69069)))) (.bin .Mult (.var 1) (.con (.int 40503)))) (.con (.int 977)))) (.seq (.asg (.name 4) (.bin .Mod (.bi .int (.bin .Pow (.var 3) (.con (.int 3)))) (.ix (.var 2) (.bin .Mod (.bi .int (.var 1)) (.con (.int 13)))))) (.seq (.asg (.name 5) (.bin .Add (.bin .Mod (.bi .int (.var 0)) (.con (.int 65537))) (.con (.int 5)))) (.seq (.asg (.name 6) (.bin .Mod (.bi .int (.bin .Pow (.bin .Add (.bin .Mult (.var 4) (.bin .Add (.var 1) (.con (.int 3)))) (.var 5)) (.con (.int 5)))) (.ix (.var 2) (.bin .Mod (.bi .int (.bin .Add (.var 1) (.con (.int 5)))) (.con (.int 13)))))) (.seq (.asg (.name 7) (.bin .Mod (.bi .int (.bin .Pow (.bin .Add (.bin .Add (.var 6) (.bin .Mod (.bi .int (.var 4)) (.con (.int 1009)))) (.var 1)) (.con (.int 3)))) (.ix (.var 2) (.bin .Mod (.bi .int (.bin .Add (.var 1) (.con (.int 7)))) (.con (.int 13)))))) (.seq (.ret (.bin .Add (.bin .Mult (.bin .Add (.bin .Mult (.var 4) (.con (.int 2147483647))) (.var 6)) (.con (.int 2147483647))) (.var 7))) .skip))))))))) }
def f_law_open : Fn := { id := 227, name := "_law_open", N := ["_law_script", "_law_cells", "_law_k", "_law_cell"], ps := ["_law_script"], body := (.seq (.asg (.name 1) (.bi .list (.sl (.var 0) .none (.some (.con (.int 12)))))) (.seq (.for_ (.enum (.sl (.var 0) (.some (.con (.int 12))) (.some (.con (.int 63))))) (.tup (.cons (.name 2) (.cons (.name 3) .nil))) (.seq (.asg (.sub (.var 1) (.bin .Mod (.bi .int (.var 2)) (.con (.int 12)))) (.bin .Add (.ix (.var 1) (.bin .Mod (.bi .int (.var 2)) (.con (.int 12)))) (.var 3))) .skip)) (.seq (.ret (.lst (.cons (.var 1) (.cons (.con (.int 0)) (.cons (.con (.int 0)) .nil))))) .skip))) }
def f_law_take : Fn := { id := 326, name := "_law_take", N := ["_law_pen", "_law_many", "_law_at", "_law_cell", "_law_found"], ps := ["_law_pen", "_law_many"], body := (.seq (.ife (.cmp .Lt (.ix (.var 0) (.con (.int 2))) (.var 1)) (.seq (.asg (.name 2) (.ix (.var 0) (.con (.int 1)))) (.seq (.asg (.name 3) (.con (.int 0))) (.seq (.ife (.cmp .Lt (.var 2) (.bi .len (.ix (.var 0) (.con (.int 0))))) (.seq (.asg (.name 3) (.ix (.ix (.var 0) (.con (.int 0))) (.var 2))) .skip) (.seq (.ife (.cmp .Gt (.bi .len (.ix (.var 0) (.con (.int 0)))) (.con (.int 0))) (.seq (.asg (.name 3) (.bin .Mod (.bi .int (.ix (.ix (.var 0) (.con (.int 0))) (.bin .Mod (.bi .int (.bin .Add (.bin .Mult (.var 2) (.con (.int 5))) (.con (.int 3)))) (.bi .len (.ix (.var 0) (.con (.int 0))))))) (.bin .Add (.bin .Pow (.con (.int 10)) (.con (.int 17))) (.var 2)))) .skip) .skip) .skip)) (.seq (.asg (.sub (.var 0) (.con (.int 1))) (.bin .Add (.var 2) (.con (.int 1)))) (.seq (.asg (.sub (.var 0) (.con (.int 2))) (.call 315 (.cons (.var 3) (.cons (.var 2) .nil)))) .skip))))) .skip) (.seq (.asg (.name 4) (.bin .Mod (.bi .int (.ix (.var 0) (.con (.int 2)))) (.var 1))) (.seq (.asg (.sub (.var 0) (.con (.int 2))) (.bin .FloorDiv (.ix (.var 0) (.con (.int 2))) (.var 1))) (.seq (.ret (.var 4)) .skip)))) }
def f_law_anew : Fn := { id := 12, name := "_law_anew", N := ["_law_pen"], ps := ["_law_pen"], body := (.seq (.asg (.sub (.var 0) (.con (.int 2))) (.con (.int 0))) (.seq (.ret (.var 0)) .skip)) }
def f_law_one : Fn := { id := 224, name := "_law_one", N := ["_law_pen", "_law_some"], ps := ["_law_pen", "_law_some"], body := (.seq (.ret (.ix (.var 1) (.call 326 (.cons (.var 0) (.cons (.bi .len (.var 1)) .nil))))) .skip) }
def f_law_common : Fn := { id := 47, name := "_law_common", N := ["_law_one_here", "_law_other", "_law_step"], ps := ["_law_one_here", "_law_other"], body := (.seq (.par [0, 1] (.cons (.bi .abs (.var 0)) (.cons (.bi .abs (.var 1)) .nil))) (.seq (.for_ (.rng1 (.con (.int 4000))) (.name 2) (.seq (.ife (.cmp .Eq (.var 1) (.con (.int 0))) (.seq (.ret (.var 0)) .skip) .skip) (.seq (.par [0, 1] (.cons (.var 1) (.cons (.bin .Mod (.bi .int (.var 0)) (.var 1)) .nil))) .skip))) (.seq (.ret (.con (.int 1))) .skip))) }
def f_law_low : Fn := { id := 181, name := "_law_low", N := ["_law_top", "_law_bottom", "_law_common_here", "_law_sign"], ps := ["_law_top", "_law_bottom"], body := (.seq (.asg (.name 2) (.call 47 (.cons (.var 0) (.cons (.var 1) .nil)))) (.seq (.asg (.name 3) (.ite (.cmp .Lt (.var 1) (.con (.int 0))) (.neg (.con (.int 1))) (.con (.int 1)))) (.seq (.ret (.tup (.cons (.bin .FloorDiv (.bin .Mult (.var 3) (.var 0)) (.var 2)) (.cons (.bin .FloorDiv (.bin .Mult (.var 3) (.var 1)) (.var 2)) .nil)))) .skip))) }
def f_law_drawn : Fn := { id := 67, name := "_law_drawn", N := ["_law_pen", "_law_top"], ps := ["_law_pen"], body := (.seq (.asg (.name 1) (.call 224 (.cons (.var 0) (.cons (.lst (.cons (.con (.int 0)) (.cons (.con (.int 1)) (.cons (.neg (.con (.int 1))) (.cons (.con (.int 3)) (.cons (.neg (.con (.int 8))) (.cons (.bin .Sub (.bin .Pow (.con (.int 10)) (.con (.int 12))) (.con (.int 1))) (.cons (.neg (.bin .Pow (.con (.int 10)) (.con (.int 29)))) (.cons (.call 326 (.cons (.var 0) (.cons (.bin .Pow (.con (.int 10)) (.con (.int 9))) .nil))) .nil))))))))) .nil)))) (.seq (.ret (.call 181 (.cons (.var 1) (.cons (.call 224 (.cons (.var 0) (.cons (.lst (.cons (.con (.int 1)) (.cons (.con (.int 2)) (.cons (.con (.int 3)) (.cons (.con (.int 7)) (.cons (.bin .Add (.bin .Pow (.con (.int 10)) (.con (.int 12))) (.con (.int 39))) (.cons (.bin .Add (.bin .Pow (.con (.int 10)) (.con (.int 29))) (.con (.int 1))) (.cons (.bin .Add (.con (.int 1)) (.call 326 (.cons (.var 0) (.cons (.bin .Pow (.con (.int 10)) (.con (.int 6))) .nil)))) .nil)))))))) .nil))) .nil)))) .skip)) }
def f_law_order_right : Fn := { id := 233, name := "_law_order_right", N := ["_law_one_here", "_law_two", "_law_three", "_law_sign", "_law_own"], ps := ["_law_one_here", "_law_two", "_law_three"], body := (.seq (.asg (.name 3) (.call 424 (.cons (.var 0) (.cons (.var 1) .nil)))) (.seq (.ife (.cmp .NotEq (.var 3) (.bin .Sub (.con (.int 0)) (.call 424 (.cons (.var 1) (.cons (.var 0) .nil))))) (.seq (.ret (.con (.bl false))) .skip) .skip) (.seq (.ife (.cmp .NotEq (.call 424 (.cons (.call 662 (.cons (.var 0) (.cons (.var 2) .nil))) (.cons (.call 662 (.cons (.var 1) (.cons (.var 2) .nil))) .nil))) (.var 3)) (.seq (.ret (.con (.bl false))) .skip) .skip) (.seq (.ife (.cmp .NotEq (.call 424 (.cons (.call 720 (.cons (.var 0) (.cons (.var 2) .nil))) (.cons (.call 720 (.cons (.var 1) (.cons (.var 2) .nil))) .nil))) (.bin .Mult (.var 3) (.call 424 (.cons (.var 2) (.cons (.tup (.cons (.con (.int 0)) (.cons (.con (.int 1)) .nil))) .nil))))) (.seq (.ret (.con (.bl false))) .skip) .skip) (.seq (.ife (.or (.cmp .NotEq (.cmp .Eq (.var 3) (.con (.int 0))) (.cmp .Eq (.var 0) (.var 1))) (.cmp .NotEq (.call 424 (.cons (.call 575 (.cons (.var 0) (.cons (.var 1) .nil))) (.cons (.tup (.cons (.con (.int 0)) (.cons (.con (.int 1)) .nil))) .nil))) (.var 3))) (.seq (.ret (.con (.bl false))) .skip) .skip) (.seq (.ife (.and (.cmp .GtE (.var 3) (.con (.int 0))) (.and (.cmp .GtE (.call 424 (.cons (.var 1) (.cons (.var 2) .nil))) (.con (.int 0))) (.cmp .Lt (.call 424 (.cons (.var 0) (.cons (.var 2) .nil))) (.con (.int 0))))) (.seq (.ret (.con (.bl false))) .skip) .skip) (.seq (.for_ (.seq (.tup (.cons (.call 662 (.cons (.var 0) (.cons (.var 1) .nil))) (.cons (.call 575 (.cons (.var 0) (.cons (.var 2) .nil))) (.cons (.call 720 (.cons (.var 1) (.cons (.var 2) .nil))) (.cons (.call 639 (.cons (.var 0) (.cons (.tup (.cons (.con (.int 7)) (.cons (.con (.int 3)) .nil))) .nil))) .nil)))))) (.name 4) (.seq (.ife (.or (.not (.call 509 (.cons (.var 4) .nil))) (.cmp .NotEq (.call 466 (.cons (.bin .Mult (.ix (.var 4) (.con (.int 0))) (.con (.int 6))) (.cons (.bin .Mult (.ix (.var 4) (.con (.int 1))) (.con (.int 6))) .nil))) (.var 4))) (.seq (.ret (.con (.bl false))) .skip) .skip) (.seq (.ife (.cmp .NotEq (.call 466 (.cons (.bin .Sub (.con (.int 0)) (.ix (.var 4) (.con (.int 0)))) (.cons (.bin .Sub (.con (.int 0)) (.ix (.var 4) (.con (.int 1)))) .nil))) (.var 4)) (.seq (.ret (.con (.bl false))) .skip) .skip) .skip))) (.seq (.ret (.con (.bl true))) .skip)))))))) }
def f_law : Fn := { id := 556, name := "law", N := ["_law_script", "_law_pen", "_law_time", "_law_one_here", "_law_two", "_law_three", "_law_k"], ps := ["_law_script"], body := (.seq (.asg (.name 1) (.call 227 (.cons (.var 0) .nil))) (.seq (.for_ (.rng1 (.con (.int 4))) (.name 2) (.seq (.asg (.tup (.cons (.name 3) (.cons (.name 4) (.cons (.name 5) .nil)))) (.comp (.rng1 (.con (.int 3))) (.name 6) (.con (.bl true)) (.call 67 (.cons (.call 12 (.cons (.var 1) .nil)) .nil)) [6])) (.seq (.ife (.or (.cmp .NotEq (.call 662 (.cons (.var 3) (.cons (.var 4) .nil))) (.call 662 (.cons (.var 4) (.cons (.var 3) .nil)))) (.cmp .NotEq (.call 720 (.cons (.var 3) (.cons (.var 4) .nil))) (.call 720 (.cons (.var 4) (.cons (.var 3) .nil))))) (.seq (.ret (.con (.bl false))) .skip) .skip) (.seq (.ife (.cmp .NotEq (.call 662 (.cons (.call 662 (.cons (.var 3) (.cons (.var 4) .nil))) (.cons (.var 5) .nil))) (.call 662 (.cons (.var 3) (.cons (.call 662 (.cons (.var 4) (.cons (.var 5) .nil))) .nil)))) (.seq (.ret (.con (.bl false))) .skip) .skip) (.seq (.ife (.cmp .NotEq (.call 720 (.cons (.call 720 (.cons (.var 3) (.cons (.var 4) .nil))) (.cons (.var 5) .nil))) (.call 720 (.cons (.var 3) (.cons (.call 720 (.cons (.var 4) (.cons (.var 5) .nil))) .nil)))) (.seq (.ret (.con (.bl false))) .skip) .skip) (.seq (.ife (.cmp .NotEq (.call 720 (.cons (.var 3) (.cons (.call 662 (.cons (.var 4) (.cons (.var 5) .nil))) .nil))) (.call 662 (.cons (.call 720 (.cons (.var 3) (.cons (.var 4) .nil))) (.cons (.call 720 (.cons (.var 3) (.cons (.var 5) .nil))) .nil)))) (.seq (.ret (.con (.bl false))) .skip) .skip) (.seq (.ife (.or (.cmp .NotEq (.call 575 (.cons (.call 662 (.cons (.var 3) (.cons (.var 4) .nil))) (.cons (.var 4) .nil))) (.var 3)) (.cmp .NotEq (.call 662 (.cons (.call 575 (.cons (.var 3) (.cons (.var 4) .nil))) (.cons (.var 4) .nil))) (.var 3))) (.seq (.ret (.con (.bl false))) .skip) .skip) (.seq (.ife (.cmp .NotEq (.call 575 (.cons (.var 3) (.cons (.var 3) .nil))) (.tup (.cons (.con (.int 0)) (.cons (.con (.int 1)) .nil)))) (.seq (.ret (.con (.bl false))) .skip) .skip) (.seq (.ife (.and (.cmp .NotEq (.var 4) (.tup (.cons (.con (.int 0)) (.cons (.con (.int 1)) .nil)))) (.cmp .NotEq (.call 720 (.cons (.call 639 (.cons (.var 3) (.cons (.var 4) .nil))) (.cons (.var 4) .nil))) (.var 3))) (.seq (.ret (.con (.bl false))) .skip) .skip) (.seq (.ife (.and (.cmp .NotEq (.var 4) (.tup (.cons (.con (.int 0)) (.cons (.con (.int 1)) .nil)))) (.cmp .NotEq (.call 639 (.cons (.call 720 (.cons (.var 3) (.cons (.var 4) .nil))) (.cons (.var 4) .nil))) (.var 3))) (.seq (.ret (.con (.bl false))) .skip) .skip) (.seq (.ife (.not (.call 233 (.cons (.var 3) (.cons (.var 4) (.cons (.var 5) .nil))))) (.seq (.ret (.con (.bl false))) .skip) .skip) .skip))))))))))) (.seq (.ret (.and (.cmp .Eq (.call 662 (.cons (.tup (.cons (.con (.int 1)) (.cons (.con (.int 2)) .nil))) (.cons (.tup (.cons (.con (.int 1)) (.cons (.con (.int 3)) .nil))) .nil))) (.tup (.cons (.con (.int 5)) (.cons (.con (.int 6)) .nil)))) (.cmp .Eq (.call 639 (.cons (.tup (.cons (.con (.int 1)) (.cons (.con (.int 2)) .nil))) (.cons (.tup (.cons (.neg (.con (.int 3))) (.cons (.con (.int 4)) .nil))) .nil))) (.tup (.cons (.neg (.con (.int 2))) (.cons (.con (.int 3)) .nil)))))) .skip))) }
def fs : List Fn := [f_is_integer, f_divisor_of, f_is_fraction, f_lowest, f_add, f_less, f_mul, f_div, f_order_of, f_need_fractions, f_fraction, f_plus, f_minus, f_times, f_over, f_compare, f_law_spread, f_law_open, f_law_take, f_law_anew, f_law_one, f_law_common, f_law_low, f_law_drawn, f_law_order_right, f_law]
end L_onenumber_k06_whole_arithmetic
namespace L_onenumber_k06_whole_arithmetic
open PD PySem PySem.Spec PyProof.Rows L2
def topS (i : Nat) : Stmt := PySem.Challenge.pw_onenumber_k06_whole_arithmetic.main.body.getD i (.Pass ⟨0, 0, 0, 0⟩)
theorem sc_is_integer : FnScope f_is_integer.N f_is_integer.ps (defScope (topS 5)) := ⟨rfl, rfl, rfl, by decide +kernel, rfl, by decide +kernel, by decide +kernel⟩
theorem tr_is_integer : trSs gt f_is_integer.N 60 (defScope (topS 5)) (defScope (topS 5)) (defBody (topS 5)) = f_is_integer.body := by kernel_rfl
theorem sc_divisor_of : FnScope f_divisor_of.N f_divisor_of.ps (defScope (topS 6)) := ⟨rfl, rfl, rfl, by decide +kernel, rfl, by decide +kernel, by decide +kernel⟩
theorem tr_divisor_of : trSs gt f_divisor_of.N 60 (defScope (topS 6)) (defScope (topS 6)) (defBody (topS 6)) = f_divisor_of.body := by kernel_rfl
theorem sc_is_fraction : FnScope f_is_fraction.N f_is_fraction.ps (defScope (topS 7)) := ⟨rfl, rfl, rfl, by decide +kernel, rfl, by decide +kernel, by decide +kernel⟩
theorem tr_is_fraction : trSs gt f_is_fraction.N 60 (defScope (topS 7)) (defScope (topS 7)) (defBody (topS 7)) = f_is_fraction.body := by kernel_rfl
theorem sc_lowest : FnScope f_lowest.N f_lowest.ps (defScope (topS 8)) := ⟨rfl, rfl, rfl, by decide +kernel, rfl, by decide +kernel, by decide +kernel⟩
theorem tr_lowest : trSs gt f_lowest.N 60 (defScope (topS 8)) (defScope (topS 8)) (defBody (topS 8)) = f_lowest.body := by kernel_rfl
theorem sc_add : FnScope f_add.N f_add.ps (defScope (topS 9)) := ⟨rfl, rfl, rfl, by decide +kernel, rfl, by decide +kernel, by decide +kernel⟩
theorem tr_add : trSs gt f_add.N 60 (defScope (topS 9)) (defScope (topS 9)) (defBody (topS 9)) = f_add.body := by kernel_rfl
theorem sc_less : FnScope f_less.N f_less.ps (defScope (topS 10)) := ⟨rfl, rfl, rfl, by decide +kernel, rfl, by decide +kernel, by decide +kernel⟩
theorem tr_less : trSs gt f_less.N 60 (defScope (topS 10)) (defScope (topS 10)) (defBody (topS 10)) = f_less.body := by kernel_rfl
theorem sc_mul : FnScope f_mul.N f_mul.ps (defScope (topS 11)) := ⟨rfl, rfl, rfl, by decide +kernel, rfl, by decide +kernel, by decide +kernel⟩
theorem tr_mul : trSs gt f_mul.N 60 (defScope (topS 11)) (defScope (topS 11)) (defBody (topS 11)) = f_mul.body := by kernel_rfl
theorem sc_div : FnScope f_div.N f_div.ps (defScope (topS 12)) := ⟨rfl, rfl, rfl, by decide +kernel, rfl, by decide +kernel, by decide +kernel⟩
theorem tr_div : trSs gt f_div.N 60 (defScope (topS 12)) (defScope (topS 12)) (defBody (topS 12)) = f_div.body := by kernel_rfl
theorem sc_order_of : FnScope f_order_of.N f_order_of.ps (defScope (topS 13)) := ⟨rfl, rfl, rfl, by decide +kernel, rfl, by decide +kernel, by decide +kernel⟩
theorem tr_order_of : trSs gt f_order_of.N 60 (defScope (topS 13)) (defScope (topS 13)) (defBody (topS 13)) = f_order_of.body := by kernel_rfl
theorem sc_need_fractions : FnScope f_need_fractions.N f_need_fractions.ps (defScope (topS 14)) := ⟨rfl, rfl, rfl, by decide +kernel, rfl, by decide +kernel, by decide +kernel⟩
theorem tr_need_fractions : trSs gt f_need_fractions.N 60 (defScope (topS 14)) (defScope (topS 14)) (defBody (topS 14)) = f_need_fractions.body := by kernel_rfl
theorem sc_fraction : FnScope f_fraction.N f_fraction.ps (defScope (topS 15)) := ⟨rfl, rfl, rfl, by decide +kernel, rfl, by decide +kernel, by decide +kernel⟩
theorem tr_fraction : trSs gt f_fraction.N 60 (defScope (topS 15)) (defScope (topS 15)) (defBody (topS 15)) = f_fraction.body := by kernel_rfl
theorem sc_plus : FnScope f_plus.N f_plus.ps (defScope (topS 16)) := ⟨rfl, rfl, rfl, by decide +kernel, rfl, by decide +kernel, by decide +kernel⟩
theorem tr_plus : trSs gt f_plus.N 60 (defScope (topS 16)) (defScope (topS 16)) (defBody (topS 16)) = f_plus.body := by kernel_rfl
theorem sc_minus : FnScope f_minus.N f_minus.ps (defScope (topS 17)) := ⟨rfl, rfl, rfl, by decide +kernel, rfl, by decide +kernel, by decide +kernel⟩
theorem tr_minus : trSs gt f_minus.N 60 (defScope (topS 17)) (defScope (topS 17)) (defBody (topS 17)) = f_minus.body := by kernel_rfl
theorem sc_times : FnScope f_times.N f_times.ps (defScope (topS 18)) := ⟨rfl, rfl, rfl, by decide +kernel, rfl, by decide +kernel, by decide +kernel⟩
theorem tr_times : trSs gt f_times.N 60 (defScope (topS 18)) (defScope (topS 18)) (defBody (topS 18)) = f_times.body := by kernel_rfl
theorem sc_over : FnScope f_over.N f_over.ps (defScope (topS 19)) := ⟨rfl, rfl, rfl, by decide +kernel, rfl, by decide +kernel, by decide +kernel⟩
theorem tr_over : trSs gt f_over.N 60 (defScope (topS 19)) (defScope (topS 19)) (defBody (topS 19)) = f_over.body := by kernel_rfl
theorem sc_compare : FnScope f_compare.N f_compare.ps (defScope (topS 20)) := ⟨rfl, rfl, rfl, by decide +kernel, rfl, by decide +kernel, by decide +kernel⟩
theorem tr_compare : trSs gt f_compare.N 60 (defScope (topS 20)) (defScope (topS 20)) (defBody (topS 20)) = f_compare.body := by kernel_rfl
theorem sc_law_spread : FnScope f_law_spread.N f_law_spread.ps (defScope (topS 22)) := ⟨rfl, rfl, rfl, by decide +kernel, rfl, by decide +kernel, by decide +kernel⟩
theorem tr_law_spread : trSs gt f_law_spread.N 60 (defScope (topS 22)) (defScope (topS 22)) (defBody (topS 22)) = f_law_spread.body := by kernel_rfl
theorem sc_law_open : FnScope f_law_open.N f_law_open.ps (defScope (topS 23)) := ⟨rfl, rfl, rfl, by decide +kernel, rfl, by decide +kernel, by decide +kernel⟩
theorem tr_law_open : trSs gt f_law_open.N 60 (defScope (topS 23)) (defScope (topS 23)) (defBody (topS 23)) = f_law_open.body := by kernel_rfl
theorem sc_law_take : FnScope f_law_take.N f_law_take.ps (defScope (topS 24)) := ⟨rfl, rfl, rfl, by decide +kernel, rfl, by decide +kernel, by decide +kernel⟩
theorem tr_law_take : trSs gt f_law_take.N 60 (defScope (topS 24)) (defScope (topS 24)) (defBody (topS 24)) = f_law_take.body := by kernel_rfl
theorem sc_law_anew : FnScope f_law_anew.N f_law_anew.ps (defScope (topS 25)) := ⟨rfl, rfl, rfl, by decide +kernel, rfl, by decide +kernel, by decide +kernel⟩
theorem tr_law_anew : trSs gt f_law_anew.N 60 (defScope (topS 25)) (defScope (topS 25)) (defBody (topS 25)) = f_law_anew.body := by kernel_rfl
theorem sc_law_one : FnScope f_law_one.N f_law_one.ps (defScope (topS 26)) := ⟨rfl, rfl, rfl, by decide +kernel, rfl, by decide +kernel, by decide +kernel⟩
theorem tr_law_one : trSs gt f_law_one.N 60 (defScope (topS 26)) (defScope (topS 26)) (defBody (topS 26)) = f_law_one.body := by kernel_rfl
theorem sc_law_common : FnScope f_law_common.N f_law_common.ps (defScope (topS 27)) := ⟨rfl, rfl, rfl, by decide +kernel, rfl, by decide +kernel, by decide +kernel⟩
theorem tr_law_common : trSs gt f_law_common.N 60 (defScope (topS 27)) (defScope (topS 27)) (defBody (topS 27)) = f_law_common.body := by kernel_rfl
theorem sc_law_low : FnScope f_law_low.N f_law_low.ps (defScope (topS 28)) := ⟨rfl, rfl, rfl, by decide +kernel, rfl, by decide +kernel, by decide +kernel⟩
theorem tr_law_low : trSs gt f_law_low.N 60 (defScope (topS 28)) (defScope (topS 28)) (defBody (topS 28)) = f_law_low.body := by kernel_rfl
theorem sc_law_drawn : FnScope f_law_drawn.N f_law_drawn.ps (defScope (topS 29)) := ⟨rfl, rfl, rfl, by decide +kernel, rfl, by decide +kernel, by decide +kernel⟩
theorem tr_law_drawn : trSs gt f_law_drawn.N 60 (defScope (topS 29)) (defScope (topS 29)) (defBody (topS 29)) = f_law_drawn.body := by kernel_rfl
theorem sc_law_order_right : FnScope f_law_order_right.N f_law_order_right.ps (defScope (topS 30)) := ⟨rfl, rfl, rfl, by decide +kernel, rfl, by decide +kernel, by decide +kernel⟩
theorem tr_law_order_right : trSs gt f_law_order_right.N 60 (defScope (topS 30)) (defScope (topS 30)) (defBody (topS 30)) = f_law_order_right.body := by kernel_rfl
theorem sc_law : FnScope f_law.N f_law.ps (defScope (topS 31)) := ⟨rfl, rfl, rfl, by decide +kernel, rfl, by decide +kernel, by decide +kernel⟩
theorem tr_law : trSs gt f_law.N 60 (defScope (topS 31)) (defScope (topS 31)) (defBody (topS 31)) = f_law.body := by kernel_rfl
end L_onenumber_k06_whole_arithmetic

set_option Elab.async false
set_option linter.all false
set_option maxRecDepth 100000
set_option maxHeartbeats 1000000
/-! Evaluation by rewriting; fractions as Rat. -/
namespace PD
open PySem
section
variable {cl : Nat → List D → Hh → R D}
theorem callF_succ {fs : List Fn} {k i : Nat} {f : Fn} {ds : List D} {h : Hh} (hf : fget fs i = some f) (hl : ds.length = f.ps.length) : callF fs (k + 1) i ds h = endOf (exec (callF fs k) f.body (startE f.N ds) h) := by
  unfold callF
  rw [hf]
  dsimp only
  rw [if_pos hl]
theorem ev_con' {d} {u0 h} : ev cl (.con d) u0 h = .ok d h := by rw [ev_con]
theorem ev_var' {i} {en h} : ev cl (.var i) en h = optR (getE en i) fun d => .ok d h := by rw [ev_var]
theorem ev_tup' {es} {en h} : ev cl (.tup es) en h = bnd (evs cl es en h) fun ds h1 => if ds.length ≤ sizeLine then .ok (.tup ds) h1 else .bad := by rw [ev_tup]
theorem ev_lst' {es} {en h} : ev cl (.lst es) en h = bnd (evs cl es en h) fun ds h1 => if ds.length ≤ sizeLine then .ok (.ref h1.length) (h1 ++ [.lst ds]) else .bad := by rw [ev_lst]
theorem ev_bin' {op a b} {en h} : ev cl (.bin op a b) en h = bnd (ev cl a en h) fun x h1 => bnd (ev cl b en h1) fun y h2 => binOp op x y h2 := by rw [ev_bin]
theorem ev_neg' {a} {en h} : ev cl (.neg a) en h = bnd (ev cl a en h) unNeg := by rw [ev_neg]
theorem ev_not' {a} {en h} : ev cl (.not a) en h = bnd (ev cl a en h) fun x h1 => bnd (toBool x h1) fun b h2 => .ok (.bl (!b)) h2 := by rw [ev_not]
theorem ev_cmp' {op a b} {en h} : ev cl (.cmp op a b) en h = bnd (ev cl a en h) fun x h1 => bnd (ev cl b en h1) fun y h2 => cmpOp op x y h2 := by rw [ev_cmp]
theorem ev_chain' {op op' a b c} {en h} : ev cl (.chain op op' a b c) en h = bnd (ev cl a en h) fun x h1 => bnd (ev cl b en h1) fun y h2 => bnd (cmpOp op x y h2) fun z h3 => bnd (toBool z h3) fun k h4 => if k = true then bnd (ev cl c en h4) fun w h5 => cmpOp op' y w h5 else .ok (.bl false) h4 := by rw [ev_chain]
theorem ev_and' {a b} {en h} : ev cl (.and a b) en h = bnd (ev cl a en h) fun x h1 => bnd (toBool x h1) fun k h2 => if k = true then ev cl b en h2 else .ok (.bl false) h2 := by rw [ev_and]
theorem ev_or' {a b} {en h} : ev cl (.or a b) en h = bnd (ev cl a en h) fun x h1 => bnd (toBool x h1) fun k h2 => if k = true then .ok (.bl true) h2 else ev cl b en h2 := by rw [ev_or]
theorem ev_ite' {c a b} {en h} : ev cl (.ite c a b) en h = bnd (test cl c en h) fun k h1 => if k = true then ev cl a en h1 else ev cl b en h1 := by rw [ev_ite]
theorem ev_call' {f es} {en h} : ev cl (.call f es) en h = bnd (evs cl es en h) fun ds h1 => cl f ds h1 := by rw [ev_call]
theorem ev_bi' {b e} {en h} : ev cl (.bi b e) en h = bnd (ev cl e en h) (biOp b) := by rw [ev_bi]
theorem ev_isi' {e t} {en h} : ev cl (.isi e t) en h = bnd (ev cl e en h) fun x h1 => .ok (.bl (isTy t x)) h1 := by rw [ev_isi]
theorem ev_ix' {a i} {en h} : ev cl (.ix a i) en h = bnd (ev cl a en h) fun x h1 => bnd (ev cl i en h1) fun y h2 => ixOp x y h2 := by rw [ev_ix]
theorem ev_sl' {a lo hi} {en h} : ev cl (.sl a lo hi) en h = bnd (ev cl a en h) fun x h1 => bnd (evo cl lo en h1) fun l h2 => bnd (evo cl hi en h2) fun u h3 => slOp x l u h3 := by rw [ev_sl]
theorem ev_comp' {it t c e own} {en h} : ev cl (.comp it t c e own) en h = bnd (evi cl it en h) fun I h1 => bnd (noExc (compLoop I (fun d h2 => bnd (asgn cl t d (wipeE en own) h2) fun en3 h3 => bnd (test cl c en3 h3) fun k h4 => if k = true then bnd (ev cl e en3 h4) fun y h5 => .ok (some y) h5 else .ok none h4) turns 0 [] h1)) fun ds h2 => .ok (.ref h2.length) (h2 ++ [.lst ds]) := by rw [ev_comp]
theorem ev_bad' {u0 u1} : ev cl .bad u0 u1 = .bad := by rw [ev_bad]
theorem evs_nil' {u0 h} : evs cl .nil u0 h = .ok [] h := by rw [evs_nil]
theorem evs_cons' {e es} {en h} : evs cl (.cons e es) en h = bnd (ev cl e en h) fun d h1 => bnd (evs cl es en h1) fun ds h2 => .ok (d :: ds) h2 := by rw [evs_cons]
theorem evo_none' {u0 h} : evo cl .none u0 h = .ok none h := by rw [evo_none]
theorem evo_some' {e} {en h} : evo cl (.some e) en h = bnd (ev cl e en h) fun d h1 => bnd (toInt d h1) fun i h2 => .ok (some i) h2 := by rw [evo_some]
theorem test_not' {a} {en h} : test cl (.not a) en h = bnd (test cl a en h) fun b h1 => .ok (!b) h1 := by rw [test_not]
theorem test_and' {a b} {en h} : test cl (.and a b) en h = bnd (test cl a en h) fun k h1 => if k = true then test cl b en h1 else .ok false h1 := by rw [test_and]
theorem test_or' {a b} {en h} : test cl (.or a b) en h = bnd (test cl a en h) fun k h1 => if k = true then .ok true h1 else test cl b en h1 := by rw [test_or]
theorem test_ite' {c a b} {u0 u1} : test cl (.ite c a b) u0 u1 = .bad := by rw [test_ite]
theorem test_bad' {u0 u1} : test cl .bad u0 u1 = .bad := by rw [test_bad]
theorem test_true' {u0 h} : test cl (.con (.bl true)) u0 h = .ok true h := by rw [test_true]
theorem evi_seq' {e} {en h} : evi cl (.seq e) en h = bnd (ev cl e en h) seqIt := by rw [evi_seq]
theorem evi_rng1' {e} {en h} : evi cl (.rng1 e) en h = bnd (ev cl e en h) fun x h1 => rngIt 0 x h1 := by rw [evi_rng1]
theorem evi_rng2' {a b} {en h} : evi cl (.rng2 a b) en h = bnd (ev cl a en h) fun x h1 => bnd (ev cl b en h1) fun y h2 => bnd (toInt x h2) fun lo h3 => rngIt lo y h3 := by rw [evi_rng2]
theorem evi_enum' {e} {en h} : evi cl (.enum e) en h = bnd (ev cl e en h) enumIt := by rw [evi_enum]
theorem evi_zip' {a b} {en h} : evi cl (.zip a b) en h = bnd (ev cl a en h) fun x h1 => bnd (ev cl b en h1) fun y h2 => zipIt x y h2 := by rw [evi_zip]
theorem asgn_name' {i} {d en h} : asgn cl (.name i) d en h = .ok (en.set i (some d)) h := by rw [asgn_name]
theorem asgn_sub' {o i} {d en h} : asgn cl (.sub o i) d en h = bnd (ev cl o en h) fun x h1 => bnd (ev cl i en h1) fun y h2 => bnd (setAt x y d h2) fun _ h3 => .ok en h3 := by rw [asgn_sub]
theorem exec_asg' {t e} {en h} : exec cl (.asg t e) en h = bndS (ev cl e en h) en fun d h1 => bndS (noExc (asgn cl t d en h1)) en fun en2 h2 => .nx en2 h2 := by rw [exec_asg]
theorem exec_par' {is es} {en h} : exec cl (.par is es) en h = bndS (evs cl es en h) en fun ds h1 => match parSet is ds en with | some en' => .nx en' h1 | none => .bad := by rw [exec_par] <;> rfl
theorem exec_expr' {e} {en h} : exec cl (.expr e) en h = bndS (ev cl e en h) en fun _ h1 => .nx en h1 := by rw [exec_expr]
theorem exec_ret' {e} {en h} : exec cl (.ret e) en h = bndS (ev cl e en h) en fun d h1 => .rt d h1 := by rw [exec_ret]
theorem exec_retN' {u0 h} : exec cl .retN u0 h = .rt .non h := by rw [exec_retN]
theorem exec_ife' {c a b} {en h} : exec cl (.ife c a b) en h = bndS (test cl c en h) en fun k h1 => if k = true then exec cl a en h1 else exec cl b en h1 := by rw [exec_ife]
theorem exec_whl' {c b} {en h} : exec cl (.whl c b) en h = whileLoop (test cl c) (exec cl b) turns en h := by rw [exec_whl]
theorem exec_for' {it t b} {en h} : exec cl (.for_ it t b) en h = bndS (evi cl it en h) en fun I h1 => forLoop I (asgn cl t) (exec cl b) turns 0 en h1 := by rw [exec_for]
theorem exec_brk' {en h} : exec cl .brk en h = .bk en h := by rw [exec_brk]
theorem exec_cont' {en h} : exec cl .cont en h = .ct en h := by rw [exec_cont]
theorem exec_skip' {en h} : exec cl .skip en h = .nx en h := by rw [exec_skip]
theorem exec_seq' {a b} {en h} : exec cl (.seq a b) en h = thenS (exec cl a en h) (exec cl b) := by rw [exec_seq]
theorem exec_bad' {u0 u1} : exec cl .bad u0 u1 = .bad := by rw [exec_bad]
theorem test_cmp' {op a b en h} : test cl (.cmp op a b) en h = bnd (ev cl (.cmp op a b) en h) toBool := by rw [test_plain rfl]
theorem test_chain' {op op' a b c en h} : test cl (.chain op op' a b c) en h = bnd (ev cl (.chain op op' a b c) en h) toBool := by rw [test_plain rfl]
theorem test_var' {i en h} : test cl (.var i) en h = bnd (ev cl (.var i) en h) toBool := by rw [test_plain rfl]
theorem test_con' {i en h} : test cl (.con i) en h = bnd (ev cl (.con i) en h) toBool := by rw [test_plain rfl]
theorem test_call' {i es en h} : test cl (.call i es) en h = bnd (ev cl (.call i es) en h) toBool := by rw [test_plain rfl]
theorem test_bi' {i es en h} : test cl (.bi i es) en h = bnd (ev cl (.bi i es) en h) toBool := by rw [test_plain rfl]
theorem test_isi' {i es en h} : test cl (.isi i es) en h = bnd (ev cl (.isi i es) en h) toBool := by rw [test_plain rfl]
theorem test_ix' {i es en h} : test cl (.ix i es) en h = bnd (ev cl (.ix i es) en h) toBool := by rw [test_plain rfl]
theorem asgn_tupT' {ts ds en h} : asgn cl (.tup ts) (.tup ds) en h = asgns cl ts ds en h := by rw [asgn_tup]
theorem asgns_nil' {en h} : asgns cl .nil [] en h = .ok en h := by rw [asgns_nil]
theorem asgns_cons' {t ts d ds en h} : asgns cl (.cons t ts) (d :: ds) en h = bnd (asgn cl t d en h) fun en1 h1 => asgns cl ts ds en1 h1 := by rw [asgns_cons]
theorem if_false_bool {α : Type} {a b : α} : (if false = true then a else b) = b := rfl
theorem getE_zero {o : Option D} {en : En} : getE (o :: en) 0 = o := by cases o <;> rfl
theorem getE_succ {o : Option D} {en : En} {i : Nat} : getE (o :: en) (i + 1) = getE en i := rfl
theorem bndS_ok {α : Type} {a : α} {h : Hh} {en : En} {f : α → Hh → RS} : bndS (.ok a h) en f = f a h := rfl
theorem thenS_nx {en : En} {h : Hh} {f : En → Hh → RS} : thenS (.nx en h) f = f en h := rfl
theorem thenS_rt {d : D} {h : Hh} {f : En → Hh → RS} : thenS (.rt d h) f = .rt d h := rfl
theorem noExc_ok {α : Type} {a : α} {h : Hh} : noExc (.ok a h) = .ok a h := rfl
theorem toBool_bl {b : Bool} {h : Hh} : toBool (.bl b) h = .ok b h := rfl
theorem toInt_int {b : Int} {h : Hh} : toInt (.int b) h = .ok b h := rfl
theorem endOf_rt {d : D} {h : Hh} : endOf (.rt d h) = .ok d h := rfl
theorem endOf_nx {d : En} {h : Hh} : endOf (.nx d h) = .ok .non h := rfl
theorem add_int {a b : Int} {h : Hh} : binOp .Add (.int a) (.int b) h = .ok (.int (a + b)) h := rfl
theorem sub_int {a b : Int} {h : Hh} : binOp .Sub (.int a) (.int b) h = .ok (.int (a - b)) h := rfl
theorem mod_int {a b : Int} {h : Hh} (hb : b ≠ 0) : binOp .Mod (.int a) (.int b) h = .ok (.int (a.fmod b)) h := by
  show (if b ≠ 0 then _ else _) = _
  rw [if_pos hb]
theorem mul_int {a b : Int} {h : Hh} (hb : a.natAbs.log2 + b.natAbs.log2 < 1000000) : binOp .Mult (.int a) (.int b) h = .ok (.int (a * b)) h := by
  show (if _ then _ else _) = _
  rw [if_pos hb]
theorem fdiv_int {a b : Int} {h : Hh} (h0 : b ≠ 0) (hb : b.natAbs.log2 < 9000) : binOp .FloorDiv (.int a) (.int b) h = .ok (.int (a.fdiv b)) h := by
  show (if _ then _ else _) = _
  rw [if_pos ⟨h0, hb⟩]
theorem pow_int {a b : Int} {h : Hh} (hb : 0 ≤ b ∧ b ≤ 1000000 ∧ a.natAbs < 2 ^ 64) : binOp .Pow (.int a) (.int b) h = .ok (.int (a ^ b.toNat)) h := by
  show (if _ then _ else _) = _
  rw [if_pos hb]
theorem lt_int {a b : Int} {h : Hh} : cmpOp .Lt (.int a) (.int b) h = .ok (.bl (decide (a < b))) h := rfl
theorem le_int {a b : Int} {h : Hh} : cmpOp .LtE (.int a) (.int b) h = .ok (.bl (decide (a ≤ b))) h := rfl
theorem gt_int {a b : Int} {h : Hh} : cmpOp .Gt (.int a) (.int b) h = .ok (.bl (decide (b < a))) h := rfl
theorem ge_int {a b : Int} {h : Hh} : cmpOp .GtE (.int a) (.int b) h = .ok (.bl (decide (b ≤ a))) h := rfl
theorem cmp_eq {x y : D} {h : Hh} : cmpOp .Eq x y h = optR (eqD h x y) fun b => .ok (.bl b) h := by cases x <;> cases y <;> rfl
theorem cmp_ne {x y : D} {h : Hh} : cmpOp .NotEq x y h = optR (eqD h x y) fun b => .ok (.bl (!b)) h := by cases x <;> cases y <;> rfl
theorem eq_int {a b : Int} {h : Hh} : cmpOp .Eq (.int a) (.int b) h = .ok (.bl (decide (a = b))) h := by
  have e : eqD h (.int a) (.int b) = some (a == b) := by
    simp [eqD, toPy, SeqAt.shaped, PyData.canLay0, PyData.depth, PyData.eqv]
  rw [cmp_eq, e]
  simp [optR, Bool.beq_eq_decide_eq]
theorem ne_int {a b : Int} {h : Hh} : cmpOp .NotEq (.int a) (.int b) h = .ok (.bl (!decide (a = b))) h := by
  have e : eqD h (.int a) (.int b) = some (a == b) := by
    simp [eqD, toPy, SeqAt.shaped, PyData.canLay0, PyData.depth, PyData.eqv]
  rw [cmp_ne, e]
  simp [optR, Bool.beq_eq_decide_eq]
theorem abs_int {a : Int} {h : Hh} : biOp .abs (.int a) h = .ok (.int (a.natAbs : Int)) h := by
  show R.ok (D.int (if a < 0 then -a else a)) h = _
  have : (if a < 0 then -a else a) = (a.natAbs : Int) := by split <;> omega
  rw [this]
theorem int_int {a : Int} {h : Hh} : biOp .int (.int a) h = .ok (.int a) h := rfl
theorem int_bl {a : Bool} {h : Hh} : biOp .int (.bl a) h = .ok (.int (if a then 1 else 0)) h := rfl
theorem neg_int {a : Int} {h : Hh} : unNeg (.int a) h = .ok (.int (-a)) h := rfl
theorem ix2_0 {a b : D} {h : Hh} : ixOp (.tup [a, b]) (.int 0) h = .ok a h := rfl
theorem ix2_1 {a b : D} {h : Hh} : ixOp (.tup [a, b]) (.int 1) h = .ok b h := rfl
theorem len_tup {ds : List D} {h : Hh} : biOp .len (.tup ds) h = .ok (.int ds.length) h := rfl
end
/-! ### the greatest common divisor by division -/
def gstep : Nat → Nat → Nat → Option Nat
  | 0, _, _ => none
  | f + 1, a, b => if b = 0 then some a else gstep f b (a % b)
theorem gstep_gcd : ∀ (m a b : Nat), b < 2 ^ m → ∀ f, 2 * m + 1 ≤ f → gstep f a b = some (Nat.gcd a b)
  | 0, a, b, hb, f, hf => by
    have : b = 0 := by simpa using hb
    subst this
    cases f with
    | zero => omega
    | succ f => simp [gstep]
  | m + 1, a, b, hb, f, hf => by
    cases f with
    | zero => omega
    | succ f =>
      unfold gstep
      by_cases h0 : b = 0
      · subst h0; simp
      · rw [if_neg h0]
        cases f with
        | zero => omega
        | succ f =>
          unfold gstep
          have hr : a % b < b := Nat.mod_lt _ (Nat.pos_of_ne_zero h0)
          by_cases h1 : a % b = 0
          · rw [if_pos h1]
            have e : Nat.gcd a b = b := Nat.gcd_eq_right (Nat.dvd_of_mod_eq_zero h1)
            rw [e]
          · rw [if_neg h1]
            have hm : b % (a % b) < 2 ^ m := by
              have h2 : b % (a % b) < a % b := Nat.mod_lt _ (Nat.pos_of_ne_zero h1)
              have h3 : b % (a % b) ≤ b - a % b := by
                have e := Nat.div_add_mod b (a % b)
                have hq : 1 ≤ b / (a % b) := (Nat.one_le_div_iff (Nat.pos_of_ne_zero h1)).mpr (Nat.le_of_lt hr)
                have : a % b * 1 ≤ a % b * (b / (a % b)) := Nat.mul_le_mul_left _ hq
                omega
              rw [Nat.pow_succ] at hb
              omega
            rw [gstep_gcd m (a % b) (b % (a % b)) hm f (by omega)]
            rw [Nat.gcd_comm (a % b), ← Nat.gcd_rec (a % b) b, ← Nat.gcd_rec b a, Nat.gcd_comm]
theorem fmod_nat (a b : Nat) : Int.fmod (a : Int) (b : Int) = ((a % b : Nat) : Int) := by
  rw [Int.fmod_eq_emod_of_nonneg _ (Int.natCast_nonneg b)]
  rfl
end PD
namespace L_onenumber_k06_whole_arithmetic
open PD PySem
variable {k : Nat} {h : Hh}
theorem c_is_integer_int {i : Int} : callF fs (k + 1) 512 [.int i] h = .ok (.bl true) h := by
  rw [callF_succ (f := f_is_integer) rfl rfl]
  simp only [f_is_integer, startE, List.length, List.cons_append, exec_asg', exec_par', exec_expr', exec_ret', exec_retN', exec_ife', exec_whl', exec_for', exec_brk', exec_cont', exec_skip', exec_seq', ev_con', ev_var', ev_tup', ev_lst', ev_bin', ev_neg', ev_not', ev_cmp', ev_chain', ev_and', ev_or', ev_ite', ev_call', ev_bi', ev_isi', ev_ix', ev_sl', ev_comp', evs_nil', evs_cons', evo_none', evo_some', test_not', test_and', test_or', test_cmp', test_chain', test_var', test_con', test_call', test_bi', test_isi', test_ix', evi_seq', evi_rng1', evi_rng2', evi_enum', evi_zip', asgn_name', asgn_sub', asgn_tupT', asgns_nil', asgns_cons', bnd_ok, bndS_ok, thenS_nx, thenS_rt, noExc_ok, optR_some, getE_zero, getE_succ, toBool_bl, toInt_int, endOf_rt, endOf_nx, add_int, sub_int, lt_int, le_int, gt_int, ge_int, eq_int, ne_int, abs_int, int_int, int_bl, neg_int, ix2_0, ix2_1, len_tup, parSet, List.set, List.map, isTy, kd, isK, if_true, Bool.not_false, Bool.not_true, if_false_bool, PySem.sizeLine_eq, List.length_cons, List.length_nil, List.length, reduceCtorEq, if_false, Nat.reduceAdd, Nat.reduceLeDiff]
theorem w_divisor : ∀ (f a b : Nat) (g : Nat), gstep f a b = some g →
    whileLoop (test (callF fs k) (.cmp .NotEq (.var 1) (.con (.int 0)))) (exec (callF fs k) (.seq (.par [0, 1] (.cons (.var 1) (.cons (.bin .Mod (.var 0) (.var 1)) .nil))) .skip)) f [some (.int a), some (.int b)] h = .nx [some (.int g), some (.int 0)] h
  | 0, _, _, _, e => by cases e
  | f + 1, a, b, g, e => by
    unfold gstep at e
    unfold whileLoop
    by_cases h0 : b = 0
    · rw [if_pos h0] at e
      cases e
      subst h0
      simp only [exec_asg', exec_par', exec_expr', exec_ret', exec_retN', exec_ife', exec_whl', exec_for', exec_brk', exec_cont', exec_skip', exec_seq', ev_con', ev_var', ev_tup', ev_lst', ev_bin', ev_neg', ev_not', ev_cmp', ev_chain', ev_and', ev_or', ev_ite', ev_call', ev_bi', ev_isi', ev_ix', ev_sl', ev_comp', evs_nil', evs_cons', evo_none', evo_some', test_not', test_and', test_or', test_cmp', test_chain', test_var', test_con', test_call', test_bi', test_isi', test_ix', evi_seq', evi_rng1', evi_rng2', evi_enum', evi_zip', asgn_name', asgn_sub', asgn_tupT', asgns_nil', asgns_cons', bnd_ok, bndS_ok, thenS_nx, thenS_rt, noExc_ok, optR_some, getE_zero, getE_succ, toBool_bl, toInt_int, endOf_rt, endOf_nx, add_int, sub_int, lt_int, le_int, gt_int, ge_int, eq_int, ne_int, abs_int, int_int, int_bl, neg_int, ix2_0, ix2_1, len_tup, parSet, List.set, List.map, isTy, kd, isK, if_true, Bool.not_false, Bool.not_true, if_false_bool, PySem.sizeLine_eq, List.length_cons, List.length_nil, List.length, reduceCtorEq, if_false, Nat.reduceAdd, Nat.reduceLeDiff]
      simp
    · rw [if_neg h0] at e
      have h1 : (b : Int) ≠ 0 := by omega
      have ih := w_divisor f b (a % b) g e
      simp only [h1, decide_false, mod_int h1, fmod_nat, exec_asg', exec_par', exec_expr', exec_ret', exec_retN', exec_ife', exec_whl', exec_for', exec_brk', exec_cont', exec_skip', exec_seq', ev_con', ev_var', ev_tup', ev_lst', ev_bin', ev_neg', ev_not', ev_cmp', ev_chain', ev_and', ev_or', ev_ite', ev_call', ev_bi', ev_isi', ev_ix', ev_sl', ev_comp', evs_nil', evs_cons', evo_none', evo_some', test_not', test_and', test_or', test_cmp', test_chain', test_var', test_con', test_call', test_bi', test_isi', test_ix', evi_seq', evi_rng1', evi_rng2', evi_enum', evi_zip', asgn_name', asgn_sub', asgn_tupT', asgns_nil', asgns_cons', bnd_ok, bndS_ok, thenS_nx, thenS_rt, noExc_ok, optR_some, getE_zero, getE_succ, toBool_bl, toInt_int, endOf_rt, endOf_nx, add_int, sub_int, lt_int, le_int, gt_int, ge_int, eq_int, ne_int, abs_int, int_int, int_bl, neg_int, ix2_0, ix2_1, len_tup, parSet, List.set, List.map, isTy, kd, isK, if_true, Bool.not_false, Bool.not_true, if_false_bool, PySem.sizeLine_eq, List.length_cons, List.length_nil, List.length, reduceCtorEq, if_false, Nat.reduceAdd, Nat.reduceLeDiff]
      exact ih
theorem c_divisor {a b : Int} (ha : b.natAbs < 2 ^ 100000) : callF fs (k + 1) 441 [.int a, .int b] h = .ok (.int (Int.gcd a b)) h := by
  rw [callF_succ (f := f_divisor_of) rfl rfl]
  have w := w_divisor (k := k) (h := h) turns a.natAbs b.natAbs _ (gstep_gcd 100000 _ _ ha turns (by decide))
  simp only [f_divisor_of, startE, List.length, List.cons_append, Nat.sub_self, List.replicate, List.append_nil, exec_asg', exec_par', exec_expr', exec_ret', exec_retN', exec_ife', exec_whl', exec_for', exec_brk', exec_cont', exec_skip', exec_seq', ev_con', ev_var', ev_tup', ev_lst', ev_bin', ev_neg', ev_not', ev_cmp', ev_chain', ev_and', ev_or', ev_ite', ev_call', ev_bi', ev_isi', ev_ix', ev_sl', ev_comp', evs_nil', evs_cons', evo_none', evo_some', test_not', test_and', test_or', test_cmp', test_chain', test_var', test_con', test_call', test_bi', test_isi', test_ix', evi_seq', evi_rng1', evi_rng2', evi_enum', evi_zip', asgn_name', asgn_sub', asgn_tupT', asgns_nil', asgns_cons', bnd_ok, bndS_ok, thenS_nx, thenS_rt, noExc_ok, optR_some, getE_zero, getE_succ, toBool_bl, toInt_int, endOf_rt, endOf_nx, add_int, sub_int, lt_int, le_int, gt_int, ge_int, eq_int, ne_int, abs_int, int_int, int_bl, neg_int, ix2_0, ix2_1, len_tup, parSet, List.set, List.map, isTy, kd, isK, if_true, Bool.not_false, Bool.not_true, if_false_bool, PySem.sizeLine_eq, List.length_cons, List.length_nil, List.length, reduceCtorEq, if_false, Nat.reduceAdd, Nat.reduceLeDiff]
  rw [w]
  simp only [exec_asg', exec_par', exec_expr', exec_ret', exec_retN', exec_ife', exec_whl', exec_for', exec_brk', exec_cont', exec_skip', exec_seq', ev_con', ev_var', ev_tup', ev_lst', ev_bin', ev_neg', ev_not', ev_cmp', ev_chain', ev_and', ev_or', ev_ite', ev_call', ev_bi', ev_isi', ev_ix', ev_sl', ev_comp', evs_nil', evs_cons', evo_none', evo_some', test_not', test_and', test_or', test_cmp', test_chain', test_var', test_con', test_call', test_bi', test_isi', test_ix', evi_seq', evi_rng1', evi_rng2', evi_enum', evi_zip', asgn_name', asgn_sub', asgn_tupT', asgns_nil', asgns_cons', bnd_ok, bndS_ok, thenS_nx, thenS_rt, noExc_ok, optR_some, getE_zero, getE_succ, toBool_bl, toInt_int, endOf_rt, endOf_nx, add_int, sub_int, lt_int, le_int, gt_int, ge_int, eq_int, ne_int, abs_int, int_int, int_bl, neg_int, ix2_0, ix2_1, len_tup, parSet, List.set, List.map, isTy, kd, isK, if_true, Bool.not_false, Bool.not_true, if_false_bool, PySem.sizeLine_eq, List.length_cons, List.length_nil, List.length, reduceCtorEq, if_false, Nat.reduceAdd, Nat.reduceLeDiff]
  rfl
end L_onenumber_k06_whole_arithmetic

set_option Elab.async false
set_option linter.all false
set_option maxRecDepth 100000
set_option maxHeartbeats 1000000
namespace PD
open PySem
def fr (q : Rat) : D := .tup [.int q.num, .int q.den]
def Bd (n : Nat) (q : Rat) : Prop := q.num.natAbs < 2 ^ n ∧ q.den < 2 ^ n
theorem log2_le {x n : Nat} (h : x < 2 ^ n) : x.log2 ≤ n := by
  by_cases h0 : x = 0
  · subst h0; simp
  · exact Nat.le_of_lt ((Nat.log2_lt h0).mpr h)
theorem mul_ok {a b : Int} {n m : Nat} (ha : a.natAbs < 2 ^ n) (hb : b.natAbs < 2 ^ m) (h : n + m < 1000000) : a.natAbs.log2 + b.natAbs.log2 < 1000000 := by
  have := log2_le ha
  have := log2_le hb
  omega
theorem pow_mul_lt {a b n m : Nat} (ha : a < 2 ^ n) (hb : b < 2 ^ m) : a * b < 2 ^ (n + m) := by
  rw [Nat.pow_add]
  exact Nat.mul_lt_mul'' ha hb
theorem pow_mono {a n m : Nat} (ha : a < 2 ^ n) (h : n ≤ m) : a < 2 ^ m := Nat.lt_of_lt_of_le ha (Nat.pow_le_pow_right (by decide) h)
theorem Bd.mono {n m : Nat} {q : Rat} (b : Bd n q) (h : n ≤ m) : Bd m q := ⟨pow_mono b.1 h, pow_mono b.2 h⟩
theorem num_lt {t b : Int} {n : Nat} (h : t.natAbs < 2 ^ n) : (Rat.divInt t b).num.natAbs < 2 ^ n := by
  rw [Rat.num_divInt]
  refine Nat.lt_of_le_of_lt ?_ h
  have h1 : (b.sign * t).natAbs ≤ t.natAbs := by
    rw [Int.natAbs_mul]
    have : b.sign.natAbs ≤ 1 := by
      by_cases hb : b = 0
      · subst hb; simp
      · rw [Int.natAbs_sign_of_ne_zero hb]
        exact Nat.le_refl 1
    calc b.sign.natAbs * t.natAbs ≤ 1 * t.natAbs := Nat.mul_le_mul_right _ this
      _ = t.natAbs := Nat.one_mul _
  exact Nat.le_trans (Int.natAbs_ediv_le_natAbs _ _) h1
theorem den_lt {t b : Int} {n : Nat} (h : b.natAbs < 2 ^ n) (hb : b ≠ 0) : (Rat.divInt t b).den < 2 ^ n := by
  rw [Rat.den_divInt, if_neg hb]
  exact Nat.lt_of_le_of_lt (Nat.div_le_self _ _) h
theorem add_divInt (a b : Rat) : Rat.divInt (a.num * b.den + b.num * a.den) (a.den * b.den) = a + b := by
  rw [Rat.add_def', ← Rat.divInt_ofNat]
  simp
theorem sub_divInt (a b : Rat) : Rat.divInt (a.num * b.den - b.num * a.den) (a.den * b.den) = a - b := by
  rw [Rat.sub_def', ← Rat.divInt_ofNat]
  simp
theorem mul_divInt (a b : Rat) : Rat.divInt (a.num * b.num) (a.den * b.den) = a * b := by
  rw [Rat.mul_def', ← Rat.divInt_ofNat]
  simp
theorem div_divInt (a b : Rat) : Rat.divInt (a.num * b.den) (a.den * b.num) = a / b := by
  rw [Rat.div_def, Rat.inv_def]
  conv => rhs; rw [← Rat.num_divInt_den a]
  rw [Rat.divInt_mul_divInt]
theorem den_pos (q : Rat) : (0 : Int) < q.den := by have := q.den_pos; omega
theorem den_nz (q : Rat) : (q.den : Int) ≠ 0 := by have := den_pos q; omega
/-! ### loops over what is told -/
def forList (asg : D → En → Hh → R En) (body : En → Hh → RS) : List D → En → Hh → RS
  | [], en, h => .nx en h
  | d :: ds, en, h => bndS (noExc (asg d en h)) en fun en1 h1 =>
      match body en1 h1 with
        | .nx en' h' => forList asg body ds en' h'
        | .ct en' h' => forList asg body ds en' h'
        | .bk en' h' => .nx en' h'
        | r => r
theorem forList_nil {asg : D → En → Hh → R En} {body : En → Hh → RS} {en : En} {h : Hh} : forList asg body [] en h = .nx en h := rfl
/-- what a turn's end leads to -/
def turnEnd (r : RS) (f : En → Hh → RS) : RS := match r with
  | .nx en' h' => f en' h'
  | .ct en' h' => f en' h'
  | .bk en' h' => .nx en' h'
  | r => r
theorem turnEnd_nx {en : En} {h : Hh} {f : En → Hh → RS} : turnEnd (.nx en h) f = f en h := rfl
theorem turnEnd_ct {en : En} {h : Hh} {f : En → Hh → RS} : turnEnd (.ct en h) f = f en h := rfl
theorem turnEnd_bk {en : En} {h : Hh} {f : En → Hh → RS} : turnEnd (.bk en h) f = .nx en h := rfl
theorem turnEnd_rt {d : D} {h : Hh} {f : En → Hh → RS} : turnEnd (.rt d h) f = .rt d h := rfl
theorem forList_cons {asg : D → En → Hh → R En} {body : En → Hh → RS} {d : D} {ds : List D} {en : En} {h : Hh} : forList asg body (d :: ds) en h = bndS (noExc (asg d en h)) en fun en1 h1 => turnEnd (body en1 h1) (forList asg body ds) := by
  rw [forList]
  rfl
theorem forLoop_step {it : It} {asg : D → En → Hh → R En} {body : En → Hh → RS} {f i : Nat} {en : En} {h : Hh} : forLoop it asg body (f + 1) i en h = match it.next i h with
    | none => .bad
    | some none => .nx en h
    | some (some d) => bndS (noExc (asg d en h)) en fun en1 h1 => turnEnd (body en1 h1) (forLoop it asg body f (i + 1)) := by
  rw [forLoop]
  cases it.next i h with
  | none => rfl
  | some o =>
    cases o with
    | none => rfl
    | some d => rfl
theorem forLoop_list {asg : D → En → Hh → R En} {body : En → Hh → RS} {it : It} {ds : List D} (hn : ∀ i h, it.next i h = some ds[i]?) : ∀ (f i : Nat) (en : En) (h : Hh), ds.length - i < f → forLoop it asg body f i en h = forList asg body (ds.drop i) en h
  | 0, _, _, _, hf => by omega
  | f + 1, i, en, h, hf => by
    rw [forLoop_step, hn]
    cases q : ds[i]? with
    | none =>
      have : ds.length ≤ i := List.getElem?_eq_none_iff.mp q
      rw [List.drop_eq_nil_of_le this]
      rfl
    | some d =>
      obtain ⟨hi, e⟩ := List.getElem?_eq_some_iff.mp q
      rw [List.drop_eq_getElem_cons hi, e, forList_cons]
      dsimp only
      congr 1
      funext en1 h1
      congr 1
      funext en2 h2
      exact forLoop_list hn f (i + 1) en2 h2 (by omega)
theorem turns_gt {n : Nat} (h : n ≤ 1000000000) : n < turns := by unfold turns; omega
theorem for_tup {asg : D → En → Hh → R En} {body : En → Hh → RS} {ds : List D} {en : En} {h : Hh} (hl : ds.length ≤ 1000000000) : forLoop (.tup ds) asg body turns 0 en h = forList asg body ds en h := by
  rw [forLoop_list (ds := ds) (fun i h => rfl) turns 0 en h (by rw [Nat.sub_zero]; exact turns_gt hl), List.drop_zero]
def rngL (lo : Int) (k : Nat) : List D := (List.range k).map fun (i : Nat) => D.int (lo + i)
theorem for_rng {asg : D → En → Hh → R En} {body : En → Hh → RS} {lo : Int} {k : Nat} {en : En} {h : Hh} (hl : k ≤ 1000000000) : forLoop (.rng lo k) asg body turns 0 en h = forList asg body (rngL lo k) en h := by
  have hn : ∀ (i : Nat) (h : Hh), (It.rng lo k).next i h = some (rngL lo k)[i]? := fun i h => by
    unfold rngL
    rw [List.getElem?_map]
    show (if i < k then some (some (D.int (lo + i))) else some none) = _
    by_cases c : i < k
    · rw [if_pos c, List.getElem?_range c]
      rfl
    · rw [if_neg c, List.getElem?_eq_none (by simpa using c)]
      rfl
  rw [forLoop_list hn turns 0 en h (by rw [Nat.sub_zero]; unfold rngL; rw [List.length_map, List.length_range]; exact turns_gt hl), List.drop_zero]
/-! ### fractions compared -/
theorem eqD_fr (a b : Rat) (h : Hh) : eqD h (fr a) (fr b) = some (decide (a = b)) := by
  have e : (a.num == b.num && (a.den : Int) == b.den) = decide (a = b) := by
    by_cases q : a = b
    · subst q; simp
    · rw [decide_eq_false q]
      cases z : (a.num == b.num && (a.den : Int) == b.den) with
      | false => rfl
      | true =>
        rw [Bool.and_eq_true, beq_iff_eq, beq_iff_eq] at z
        exact absurd (Rat.ext z.1 (by omega)) q
  simp [eqD, toPy, allO, fr, SeqAt.shaped, PyData.canLay0, PyData.canLayAll0, PyData.depth, PyData.depthAll, PyData.eqv, PyData.eqvAll]
  exact e
theorem eq_fr {a b : Rat} {h : Hh} : cmpOp .Eq (fr a) (fr b) h = .ok (.bl (decide (a = b))) h := by rw [cmp_eq, eqD_fr]; rfl
theorem ne_fr {a b : Rat} {h : Hh} : cmpOp .NotEq (fr a) (fr b) h = .ok (.bl (!decide (a = b))) h := by rw [cmp_ne, eqD_fr]; rfl
theorem fr_zero : D.tup [.int 0, .int 1] = fr 0 := rfl
/-- the two quotients of lowest -/
theorem low_pos {t b : Int} (hb : 0 < b) : t.fdiv (Int.gcd t b) = (Rat.divInt t b).num ∧ b.fdiv (Int.gcd t b) = ((Rat.divInt t b).den : Int) := by
  have h0 : b ≠ 0 := by omega
  have hs : b.sign = 1 := Int.sign_eq_one_of_pos hb
  have d1 : ((Int.gcd t b : Nat) : Int) ∣ t := Int.gcd_dvd_left ..
  have d2 : ((Int.gcd t b : Nat) : Int) ∣ b := Int.gcd_dvd_right ..
  rw [Rat.num_divInt, Rat.den_divInt, if_neg h0, hs, Int.one_mul, Int.fdiv_eq_ediv_of_dvd d1, Int.fdiv_eq_ediv_of_dvd d2, Int.gcd_comm b t]
  refine ⟨rfl, ?_⟩
  have : b = (b.natAbs : Int) := by omega
  conv => lhs; rw [this]
  rfl
theorem low_neg {t b : Int} (hb : b < 0) : t.fdiv (0 - (Int.gcd t b : Nat)) = (Rat.divInt t b).num ∧ b.fdiv (0 - (Int.gcd t b : Nat)) = ((Rat.divInt t b).den : Int) := by
  have h0 : b ≠ 0 := by omega
  have hs : b.sign = -1 := Int.sign_eq_neg_one_of_neg hb
  have d1 : ((Int.gcd t b : Nat) : Int) ∣ t := Int.gcd_dvd_left ..
  have d2 : ((Int.gcd t b : Nat) : Int) ∣ b := Int.gcd_dvd_right ..
  have e : (0 - ((Int.gcd t b : Nat) : Int)) = -((Int.gcd t b : Nat) : Int) := by omega
  rw [e, Rat.num_divInt, Rat.den_divInt, if_neg h0, hs, Int.fdiv_eq_ediv_of_dvd (Int.neg_dvd.mpr d1), Int.fdiv_eq_ediv_of_dvd (Int.neg_dvd.mpr d2), Int.gcd_comm b t, Int.ediv_neg, Int.ediv_neg]
  refine ⟨?_, ?_⟩
  · have : (-1 : Int) * t = -t := by omega
    rw [this, Int.neg_ediv_of_dvd d1]
  · rw [← Int.neg_ediv_of_dvd d2]
    have : -b = (b.natAbs : Int) := by omega
    rw [this]
    rfl
end PD
namespace L_onenumber_k06_whole_arithmetic
open PD PySem
variable {k : Nat} {h : Hh}
theorem gcd_lt {t b : Int} {n : Nat} (hb : b ≠ 0) (hs : b.natAbs < 2 ^ n) : Int.gcd t b < 2 ^ n ∧ Int.gcd t b ≠ 0 := by
  have d : Int.gcd t b ∣ b.natAbs := Nat.gcd_dvd_right ..
  have hp : 0 < b.natAbs := by omega
  exact ⟨Nat.lt_of_le_of_lt (Nat.le_of_dvd hp d) hs, fun z => by rw [z] at d; have := Nat.eq_zero_of_zero_dvd d; omega⟩
theorem c_lowest {t b : Int} (hb : b ≠ 0) (hs : b.natAbs < 2 ^ 8000) : callF fs (k + 2) 570 [.int t, .int b] h = .ok (fr (Rat.divInt t b)) h := by
  rw [callF_succ (f := f_lowest) rfl rfl]
  obtain ⟨g1, g2⟩ := gcd_lt (t := t) hb hs
  have g3 : ((Int.gcd t b : Nat) : Int) ≠ 0 := by omega
  have g4 : (0 - ((Int.gcd t b : Nat) : Int)) ≠ 0 := by omega
  have l1 : ((Int.gcd t b : Nat) : Int).natAbs.log2 < 9000 := Nat.lt_of_le_of_lt (log2_le (n := 8000) (by simpa using g1)) (by decide)
  have e0 : (0 - ((Int.gcd t b : Nat) : Int)).natAbs = Int.gcd t b := by omega
  have l2 : (0 - ((Int.gcd t b : Nat) : Int)).natAbs.log2 < 9000 := by
    rw [e0]
    exact Nat.lt_of_le_of_lt (log2_le (n := 8000) g1) (by decide)
  have cd := c_divisor (k := k) (h := h) (a := t) (b := b) (pow_mono hs (by decide))
  by_cases hn : b < 0
  · obtain ⟨e1, e2⟩ := low_neg (t := t) hn
    simp only [f_lowest, startE, List.cons_append, Nat.reduceAdd, Nat.reduceSub, List.replicate, List.append_nil, List.nil_append, cd, hn, decide_true, fdiv_int g4 l2, e1, e2, exec_asg', exec_par', exec_expr', exec_ret', exec_retN', exec_ife', exec_whl', exec_for', exec_brk', exec_cont', exec_skip', exec_seq', ev_con', ev_var', ev_tup', ev_lst', ev_bin', ev_neg', ev_not', ev_cmp', ev_chain', ev_and', ev_or', ev_ite', ev_call', ev_bi', ev_isi', ev_ix', ev_sl', ev_comp', evs_nil', evs_cons', evo_none', evo_some', test_not', test_and', test_or', test_cmp', test_chain', test_var', test_con', test_call', test_bi', test_isi', test_ix', evi_seq', evi_rng1', evi_rng2', evi_enum', evi_zip', asgn_name', asgn_sub', asgn_tupT', asgns_nil', asgns_cons', bnd_ok, bndS_ok, thenS_nx, thenS_rt, noExc_ok, optR_some, getE_zero, getE_succ, toBool_bl, toInt_int, endOf_rt, endOf_nx, add_int, sub_int, lt_int, le_int, gt_int, ge_int, eq_int, ne_int, abs_int, int_int, int_bl, neg_int, ix2_0, ix2_1, len_tup, parSet, List.set, List.map, isTy, kd, isK, if_true, Bool.not_false, Bool.not_true, if_false_bool, PySem.sizeLine_eq, List.length_cons, List.length_nil, List.length, reduceCtorEq, if_false]
    rfl
  · obtain ⟨e1, e2⟩ := low_pos (t := t) (b := b) (by omega)
    simp only [f_lowest, startE, List.cons_append, Nat.reduceAdd, Nat.reduceSub, List.replicate, List.append_nil, List.nil_append, cd, hn, decide_false, fdiv_int g3 l1, e1, e2, exec_asg', exec_par', exec_expr', exec_ret', exec_retN', exec_ife', exec_whl', exec_for', exec_brk', exec_cont', exec_skip', exec_seq', ev_con', ev_var', ev_tup', ev_lst', ev_bin', ev_neg', ev_not', ev_cmp', ev_chain', ev_and', ev_or', ev_ite', ev_call', ev_bi', ev_isi', ev_ix', ev_sl', ev_comp', evs_nil', evs_cons', evo_none', evo_some', test_not', test_and', test_or', test_cmp', test_chain', test_var', test_con', test_call', test_bi', test_isi', test_ix', evi_seq', evi_rng1', evi_rng2', evi_enum', evi_zip', asgn_name', asgn_sub', asgn_tupT', asgns_nil', asgns_cons', bnd_ok, bndS_ok, thenS_nx, thenS_rt, noExc_ok, optR_some, getE_zero, getE_succ, toBool_bl, toInt_int, endOf_rt, endOf_nx, add_int, sub_int, lt_int, le_int, gt_int, ge_int, eq_int, ne_int, abs_int, int_int, int_bl, neg_int, ix2_0, ix2_1, len_tup, parSet, List.set, List.map, isTy, kd, isK, if_true, Bool.not_false, Bool.not_true, if_false_bool, PySem.sizeLine_eq, List.length_cons, List.length_nil, List.length, reduceCtorEq, if_false]
    rfl
/-- what the sums and products need: n bits and m bits, not too many -/
theorem m_nd {a b : Rat} {n m : Nat} (ha : Bd n a) (hb : Bd m b) (hl : n + m ≤ 8000) : binOp .Mult (.int a.num) (.int b.den) h = .ok (.int (a.num * b.den)) h := mul_int (mul_ok ha.1 (by simpa using hb.2) (by omega))
theorem m_nn {a b : Rat} {n m : Nat} (ha : Bd n a) (hb : Bd m b) (hl : n + m ≤ 8000) : binOp .Mult (.int a.num) (.int b.num) h = .ok (.int (a.num * b.num)) h := mul_int (mul_ok ha.1 hb.1 (by omega))
theorem m_dd {a b : Rat} {n m : Nat} (ha : Bd n a) (hb : Bd m b) (hl : n + m ≤ 8000) : binOp .Mult (.int a.den) (.int b.den) h = .ok (.int (a.den * b.den)) h := mul_int (mul_ok (by simpa using ha.2) (by simpa using hb.2) (by omega))
theorem m_dn {a b : Rat} {n m : Nat} (ha : Bd n a) (hb : Bd m b) (hl : n + m ≤ 8000) : binOp .Mult (.int a.den) (.int b.num) h = .ok (.int (a.den * b.num)) h := mul_int (mul_ok (by simpa using ha.2) hb.1 (by omega))
theorem dd_lt {a b : Rat} {n m : Nat} (ha : Bd n a) (hb : Bd m b) (hl : n + m ≤ 8000) : ((a.den : Int) * b.den).natAbs < 2 ^ 8000 := by
  rw [Int.natAbs_mul]
  exact pow_mono (pow_mul_lt (by simpa using ha.2) (by simpa using hb.2)) hl
theorem dd_nz (a b : Rat) : (a.den : Int) * b.den ≠ 0 := Int.mul_ne_zero (den_nz a) (den_nz b)
theorem c_add {a b : Rat} {n m : Nat} (ha : Bd n a) (hb : Bd m b) (hl : n + m ≤ 8000) : callF fs (k + 3) 375 [fr a, fr b] h = .ok (fr (a + b)) h := by
  rw [callF_succ (f := f_add) rfl rfl]
  have cl := c_lowest (k := k) (h := h) (t := a.num * b.den + b.num * a.den) (dd_nz a b) (dd_lt ha hb hl)
  rw [add_divInt] at cl
  simp only [f_add, fr, startE, List.cons_append, Nat.reduceAdd, Nat.reduceSub, List.replicate, List.append_nil, List.nil_append, m_nd ha hb hl, m_nd hb ha (by omega : m + n ≤ 8000), m_dd ha hb hl, exec_asg', exec_par', exec_expr', exec_ret', exec_retN', exec_ife', exec_whl', exec_for', exec_brk', exec_cont', exec_skip', exec_seq', ev_con', ev_var', ev_tup', ev_lst', ev_bin', ev_neg', ev_not', ev_cmp', ev_chain', ev_and', ev_or', ev_ite', ev_call', ev_bi', ev_isi', ev_ix', ev_sl', ev_comp', evs_nil', evs_cons', evo_none', evo_some', test_not', test_and', test_or', test_cmp', test_chain', test_var', test_con', test_call', test_bi', test_isi', test_ix', evi_seq', evi_rng1', evi_rng2', evi_enum', evi_zip', asgn_name', asgn_sub', asgn_tupT', asgns_nil', asgns_cons', bnd_ok, bndS_ok, thenS_nx, thenS_rt, noExc_ok, optR_some, getE_zero, getE_succ, toBool_bl, toInt_int, endOf_rt, endOf_nx, add_int, sub_int, lt_int, le_int, gt_int, ge_int, eq_int, ne_int, abs_int, int_int, int_bl, neg_int, ix2_0, ix2_1, len_tup, parSet, List.set, List.map, isTy, kd, isK, if_true, Bool.not_false, Bool.not_true, if_false_bool, PySem.sizeLine_eq, List.length_cons, List.length_nil, List.length, reduceCtorEq, if_false] at cl ⊢
  rw [cl]
  rfl
theorem c_less {a b : Rat} {n m : Nat} (ha : Bd n a) (hb : Bd m b) (hl : n + m ≤ 8000) : callF fs (k + 3) 566 [fr a, fr b] h = .ok (fr (a - b)) h := by
  rw [callF_succ (f := f_less) rfl rfl]
  have cl := c_lowest (k := k) (h := h) (t := a.num * b.den - b.num * a.den) (dd_nz a b) (dd_lt ha hb hl)
  rw [sub_divInt] at cl
  simp only [f_less, fr, startE, List.cons_append, Nat.reduceAdd, Nat.reduceSub, List.replicate, List.append_nil, List.nil_append, m_nd ha hb hl, m_nd hb ha (by omega : m + n ≤ 8000), m_dd ha hb hl, exec_asg', exec_par', exec_expr', exec_ret', exec_retN', exec_ife', exec_whl', exec_for', exec_brk', exec_cont', exec_skip', exec_seq', ev_con', ev_var', ev_tup', ev_lst', ev_bin', ev_neg', ev_not', ev_cmp', ev_chain', ev_and', ev_or', ev_ite', ev_call', ev_bi', ev_isi', ev_ix', ev_sl', ev_comp', evs_nil', evs_cons', evo_none', evo_some', test_not', test_and', test_or', test_cmp', test_chain', test_var', test_con', test_call', test_bi', test_isi', test_ix', evi_seq', evi_rng1', evi_rng2', evi_enum', evi_zip', asgn_name', asgn_sub', asgn_tupT', asgns_nil', asgns_cons', bnd_ok, bndS_ok, thenS_nx, thenS_rt, noExc_ok, optR_some, getE_zero, getE_succ, toBool_bl, toInt_int, endOf_rt, endOf_nx, add_int, sub_int, lt_int, le_int, gt_int, ge_int, eq_int, ne_int, abs_int, int_int, int_bl, neg_int, ix2_0, ix2_1, len_tup, parSet, List.set, List.map, isTy, kd, isK, if_true, Bool.not_false, Bool.not_true, if_false_bool, PySem.sizeLine_eq, List.length_cons, List.length_nil, List.length, reduceCtorEq, if_false] at cl ⊢
  rw [cl]
  rfl
theorem c_mul {a b : Rat} {n m : Nat} (ha : Bd n a) (hb : Bd m b) (hl : n + m ≤ 8000) : callF fs (k + 3) 582 [fr a, fr b] h = .ok (fr (a * b)) h := by
  rw [callF_succ (f := f_mul) rfl rfl]
  have cl := c_lowest (k := k) (h := h) (t := a.num * b.num) (dd_nz a b) (dd_lt ha hb hl)
  rw [mul_divInt] at cl
  simp only [f_mul, fr, startE, List.cons_append, Nat.reduceAdd, Nat.reduceSub, List.replicate, List.append_nil, List.nil_append, m_nn ha hb hl, m_dd ha hb hl, exec_asg', exec_par', exec_expr', exec_ret', exec_retN', exec_ife', exec_whl', exec_for', exec_brk', exec_cont', exec_skip', exec_seq', ev_con', ev_var', ev_tup', ev_lst', ev_bin', ev_neg', ev_not', ev_cmp', ev_chain', ev_and', ev_or', ev_ite', ev_call', ev_bi', ev_isi', ev_ix', ev_sl', ev_comp', evs_nil', evs_cons', evo_none', evo_some', test_not', test_and', test_or', test_cmp', test_chain', test_var', test_con', test_call', test_bi', test_isi', test_ix', evi_seq', evi_rng1', evi_rng2', evi_enum', evi_zip', asgn_name', asgn_sub', asgn_tupT', asgns_nil', asgns_cons', bnd_ok, bndS_ok, thenS_nx, thenS_rt, noExc_ok, optR_some, getE_zero, getE_succ, toBool_bl, toInt_int, endOf_rt, endOf_nx, add_int, sub_int, lt_int, le_int, gt_int, ge_int, eq_int, ne_int, abs_int, int_int, int_bl, neg_int, ix2_0, ix2_1, len_tup, parSet, List.set, List.map, isTy, kd, isK, if_true, Bool.not_false, Bool.not_true, if_false_bool, PySem.sizeLine_eq, List.length_cons, List.length_nil, List.length, reduceCtorEq, if_false] at cl ⊢
  rw [cl]
  rfl
theorem c_div {a b : Rat} {n m : Nat} (ha : Bd n a) (hb : Bd m b) (hl : n + m ≤ 8000) (h0 : b ≠ 0) : callF fs (k + 3) 440 [fr a, fr b] h = .ok (fr (a / b)) h := by
  rw [callF_succ (f := f_div) rfl rfl]
  have hn : b.num ≠ 0 := fun z => h0 (Rat.num_eq_zero.mp z)
  have hs : ((a.den : Int) * b.num).natAbs < 2 ^ 8000 := by
    rw [Int.natAbs_mul]
    exact pow_mono (pow_mul_lt (by simpa using ha.2) hb.1) hl
  have cl := c_lowest (k := k) (h := h) (t := a.num * b.den) (Int.mul_ne_zero (den_nz a) hn) hs
  rw [div_divInt] at cl
  simp only [f_div, fr, startE, List.cons_append, Nat.reduceAdd, Nat.reduceSub, List.replicate, List.append_nil, List.nil_append, m_nd ha hb hl, m_dn ha hb hl, exec_asg', exec_par', exec_expr', exec_ret', exec_retN', exec_ife', exec_whl', exec_for', exec_brk', exec_cont', exec_skip', exec_seq', ev_con', ev_var', ev_tup', ev_lst', ev_bin', ev_neg', ev_not', ev_cmp', ev_chain', ev_and', ev_or', ev_ite', ev_call', ev_bi', ev_isi', ev_ix', ev_sl', ev_comp', evs_nil', evs_cons', evo_none', evo_some', test_not', test_and', test_or', test_cmp', test_chain', test_var', test_con', test_call', test_bi', test_isi', test_ix', evi_seq', evi_rng1', evi_rng2', evi_enum', evi_zip', asgn_name', asgn_sub', asgn_tupT', asgns_nil', asgns_cons', bnd_ok, bndS_ok, thenS_nx, thenS_rt, noExc_ok, optR_some, getE_zero, getE_succ, toBool_bl, toInt_int, endOf_rt, endOf_nx, add_int, sub_int, lt_int, le_int, gt_int, ge_int, eq_int, ne_int, abs_int, int_int, int_bl, neg_int, ix2_0, ix2_1, len_tup, parSet, List.set, List.map, isTy, kd, isK, if_true, Bool.not_false, Bool.not_true, if_false_bool, PySem.sizeLine_eq, List.length_cons, List.length_nil, List.length, reduceCtorEq, if_false] at cl ⊢
  rw [cl]
  rfl
def sgn (q : Rat) : Int := if q < 0 then -1 else if 0 < q then 1 else 0
def cmpR (a b : Rat) : Int := if a < b then -1 else if b < a then 1 else 0
theorem c_order_of {a b : Rat} {n m : Nat} (ha : Bd n a) (hb : Bd m b) (hl : n + m ≤ 8000) : callF fs (k + 1) 635 [fr a, fr b] h = .ok (.int (cmpR a b)) h := by
  rw [callF_succ (f := f_order_of) rfl rfl]
  have l1 := Rat.lt_iff a b
  have l2 := Rat.lt_iff b a
  simp only [f_order_of, fr, startE, List.cons_append, Nat.reduceAdd, Nat.reduceSub, List.replicate, List.append_nil, List.nil_append, m_nd ha hb hl, m_nd hb ha (by omega : m + n ≤ 8000), exec_asg', exec_par', exec_expr', exec_ret', exec_retN', exec_ife', exec_whl', exec_for', exec_brk', exec_cont', exec_skip', exec_seq', ev_con', ev_var', ev_tup', ev_lst', ev_bin', ev_neg', ev_not', ev_cmp', ev_chain', ev_and', ev_or', ev_ite', ev_call', ev_bi', ev_isi', ev_ix', ev_sl', ev_comp', evs_nil', evs_cons', evo_none', evo_some', test_not', test_and', test_or', test_cmp', test_chain', test_var', test_con', test_call', test_bi', test_isi', test_ix', evi_seq', evi_rng1', evi_rng2', evi_enum', evi_zip', asgn_name', asgn_sub', asgn_tupT', asgns_nil', asgns_cons', bnd_ok, bndS_ok, thenS_nx, thenS_rt, noExc_ok, optR_some, getE_zero, getE_succ, toBool_bl, toInt_int, endOf_rt, endOf_nx, add_int, sub_int, lt_int, le_int, gt_int, ge_int, eq_int, ne_int, abs_int, int_int, int_bl, neg_int, ix2_0, ix2_1, len_tup, parSet, List.set, List.map, isTy, kd, isK, if_true, Bool.not_false, Bool.not_true, if_false_bool, PySem.sizeLine_eq, List.length_cons, List.length_nil, List.length, reduceCtorEq, if_false]
  congr 2
  unfold cmpR
  by_cases h1 : a < b
  · have := l1.mp h1
    rw [if_pos h1]
    have e1 : decide (0 < a.num * (b.den : Int) - b.num * (a.den : Int)) = false := decide_eq_false (by omega)
    have e2 : decide (a.num * (b.den : Int) - b.num * (a.den : Int) < 0) = true := decide_eq_true (by omega)
    rw [e1, e2]
    rfl
  · rw [if_neg h1]
    have n1 : ¬ (a.num * (b.den : Int) < b.num * (a.den : Int)) := fun z => h1 (l1.mpr z)
    by_cases h2 : b < a
    · have := l2.mp h2
      rw [if_pos h2]
      have e1 : decide (0 < a.num * (b.den : Int) - b.num * (a.den : Int)) = true := decide_eq_true (by omega)
      have e2 : decide (a.num * (b.den : Int) - b.num * (a.den : Int) < 0) = false := decide_eq_false (by omega)
      rw [e1, e2]
      rfl
    · rw [if_neg h2]
      have n2 : ¬ (b.num * (a.den : Int) < a.num * (b.den : Int)) := fun z => h2 (l2.mpr z)
      have e1 : decide (0 < a.num * (b.den : Int) - b.num * (a.den : Int)) = false := decide_eq_false (by omega)
      have e2 : decide (a.num * (b.den : Int) - b.num * (a.den : Int) < 0) = false := decide_eq_false (by omega)
      rw [e1, e2]
      rfl
theorem c_is_fraction {a : Rat} {n : Nat} (ha : Bd n a) (hl : n ≤ 8000) : callF fs (k + 2) 509 [fr a] h = .ok (.bl true) h := by
  rw [callF_succ (f := f_is_fraction) rfl rfl]
  have cd := c_divisor (k := k) (h := h) (a := a.num) (b := a.den) (by simpa using pow_mono ha.2 (by omega : n ≤ 100000))
  have e : Int.gcd a.num a.den = 1 := a.reduced
  rw [e] at cd
  have hp : decide ((0 : Int) < a.den) = true := decide_eq_true (den_pos a)
  simp only [f_is_fraction, fr, startE, List.cons_append, Nat.reduceAdd, Nat.reduceSub, List.replicate, List.append_nil, List.nil_append, c_is_integer_int, cd, hp, Int.natCast_one, Int.cast_ofNat_Int, decide_true, exec_asg', exec_par', exec_expr', exec_ret', exec_retN', exec_ife', exec_whl', exec_for', exec_brk', exec_cont', exec_skip', exec_seq', ev_con', ev_var', ev_tup', ev_lst', ev_bin', ev_neg', ev_not', ev_cmp', ev_chain', ev_and', ev_or', ev_ite', ev_call', ev_bi', ev_isi', ev_ix', ev_sl', ev_comp', evs_nil', evs_cons', evo_none', evo_some', test_not', test_and', test_or', test_cmp', test_chain', test_var', test_con', test_call', test_bi', test_isi', test_ix', evi_seq', evi_rng1', evi_rng2', evi_enum', evi_zip', asgn_name', asgn_sub', asgn_tupT', asgns_nil', asgns_cons', bnd_ok, bndS_ok, thenS_nx, thenS_rt, noExc_ok, optR_some, getE_zero, getE_succ, toBool_bl, toInt_int, endOf_rt, endOf_nx, add_int, sub_int, lt_int, le_int, gt_int, ge_int, eq_int, ne_int, abs_int, int_int, int_bl, neg_int, ix2_0, ix2_1, len_tup, parSet, List.set, List.map, isTy, kd, isK, if_true, Bool.not_false, Bool.not_true, if_false_bool, PySem.sizeLine_eq, List.length_cons, List.length_nil, List.length, reduceCtorEq, if_false]
theorem c_need2 {a b : Rat} {n m : Nat} (ha : Bd n a) (hb : Bd m b) (hn : n ≤ 8000) (hm : m ≤ 8000) : callF fs (k + 3) 595 [.tup [fr a, fr b]] h = .ok .non h := by
  rw [callF_succ (f := f_need_fractions) rfl rfl]
  simp only [f_need_fractions, startE, List.cons_append, Nat.reduceAdd, Nat.reduceSub, List.replicate, List.append_nil, List.nil_append, seqIt, exec_asg', exec_par', exec_expr', exec_ret', exec_retN', exec_ife', exec_whl', exec_for', exec_brk', exec_cont', exec_skip', exec_seq', ev_con', ev_var', ev_tup', ev_lst', ev_bin', ev_neg', ev_not', ev_cmp', ev_chain', ev_and', ev_or', ev_ite', ev_call', ev_bi', ev_isi', ev_ix', ev_sl', ev_comp', evs_nil', evs_cons', evo_none', evo_some', test_not', test_and', test_or', test_cmp', test_chain', test_var', test_con', test_call', test_bi', test_isi', test_ix', evi_seq', evi_rng1', evi_rng2', evi_enum', evi_zip', asgn_name', asgn_sub', asgn_tupT', asgns_nil', asgns_cons', bnd_ok, bndS_ok, thenS_nx, thenS_rt, noExc_ok, optR_some, getE_zero, getE_succ, toBool_bl, toInt_int, endOf_rt, endOf_nx, add_int, sub_int, lt_int, le_int, gt_int, ge_int, eq_int, ne_int, abs_int, int_int, int_bl, neg_int, ix2_0, ix2_1, len_tup, parSet, List.set, List.map, isTy, kd, isK, if_true, Bool.not_false, Bool.not_true, if_false_bool, PySem.sizeLine_eq, List.length_cons, List.length_nil, List.length, reduceCtorEq, if_false]
  rw [for_tup (by simp)]
  simp only [forList_cons, forList_nil, turnEnd_nx, c_is_fraction ha hn, c_is_fraction hb hm, exec_asg', exec_par', exec_expr', exec_ret', exec_retN', exec_ife', exec_whl', exec_for', exec_brk', exec_cont', exec_skip', exec_seq', ev_con', ev_var', ev_tup', ev_lst', ev_bin', ev_neg', ev_not', ev_cmp', ev_chain', ev_and', ev_or', ev_ite', ev_call', ev_bi', ev_isi', ev_ix', ev_sl', ev_comp', evs_nil', evs_cons', evo_none', evo_some', test_not', test_and', test_or', test_cmp', test_chain', test_var', test_con', test_call', test_bi', test_isi', test_ix', evi_seq', evi_rng1', evi_rng2', evi_enum', evi_zip', asgn_name', asgn_sub', asgn_tupT', asgns_nil', asgns_cons', bnd_ok, bndS_ok, thenS_nx, thenS_rt, noExc_ok, optR_some, getE_zero, getE_succ, toBool_bl, toInt_int, endOf_rt, endOf_nx, add_int, sub_int, lt_int, le_int, gt_int, ge_int, eq_int, ne_int, abs_int, int_int, int_bl, neg_int, ix2_0, ix2_1, len_tup, parSet, List.set, List.map, isTy, kd, isK, if_true, Bool.not_false, Bool.not_true, if_false_bool, PySem.sizeLine_eq, List.length_cons, List.length_nil, List.length, reduceCtorEq, if_false]
theorem c_plus {a b : Rat} {n m : Nat} (ha : Bd n a) (hb : Bd m b) (hl : n + m ≤ 8000) : callF fs (k + 4) 662 [fr a, fr b] h = .ok (fr (a + b)) h := by
  rw [callF_succ (f := f_plus) rfl rfl]
  simp only [f_plus, startE, List.cons_append, Nat.reduceAdd, Nat.reduceSub, List.replicate, List.append_nil, List.nil_append, Nat.reduceLeDiff, c_need2 ha hb (by omega) (by omega), c_add ha hb hl, exec_asg', exec_par', exec_expr', exec_ret', exec_retN', exec_ife', exec_whl', exec_for', exec_brk', exec_cont', exec_skip', exec_seq', ev_con', ev_var', ev_tup', ev_lst', ev_bin', ev_neg', ev_not', ev_cmp', ev_chain', ev_and', ev_or', ev_ite', ev_call', ev_bi', ev_isi', ev_ix', ev_sl', ev_comp', evs_nil', evs_cons', evo_none', evo_some', test_not', test_and', test_or', test_cmp', test_chain', test_var', test_con', test_call', test_bi', test_isi', test_ix', evi_seq', evi_rng1', evi_rng2', evi_enum', evi_zip', asgn_name', asgn_sub', asgn_tupT', asgns_nil', asgns_cons', bnd_ok, bndS_ok, thenS_nx, thenS_rt, noExc_ok, optR_some, getE_zero, getE_succ, toBool_bl, toInt_int, endOf_rt, endOf_nx, add_int, sub_int, lt_int, le_int, gt_int, ge_int, eq_int, ne_int, abs_int, int_int, int_bl, neg_int, ix2_0, ix2_1, len_tup, parSet, List.set, List.map, isTy, kd, isK, if_true, Bool.not_false, Bool.not_true, if_false_bool, PySem.sizeLine_eq, List.length_cons, List.length_nil, List.length, reduceCtorEq, if_false]
theorem c_minus {a b : Rat} {n m : Nat} (ha : Bd n a) (hb : Bd m b) (hl : n + m ≤ 8000) : callF fs (k + 4) 575 [fr a, fr b] h = .ok (fr (a - b)) h := by
  rw [callF_succ (f := f_minus) rfl rfl]
  simp only [f_minus, startE, List.cons_append, Nat.reduceAdd, Nat.reduceSub, List.replicate, List.append_nil, List.nil_append, Nat.reduceLeDiff, c_need2 ha hb (by omega) (by omega), c_less ha hb hl, exec_asg', exec_par', exec_expr', exec_ret', exec_retN', exec_ife', exec_whl', exec_for', exec_brk', exec_cont', exec_skip', exec_seq', ev_con', ev_var', ev_tup', ev_lst', ev_bin', ev_neg', ev_not', ev_cmp', ev_chain', ev_and', ev_or', ev_ite', ev_call', ev_bi', ev_isi', ev_ix', ev_sl', ev_comp', evs_nil', evs_cons', evo_none', evo_some', test_not', test_and', test_or', test_cmp', test_chain', test_var', test_con', test_call', test_bi', test_isi', test_ix', evi_seq', evi_rng1', evi_rng2', evi_enum', evi_zip', asgn_name', asgn_sub', asgn_tupT', asgns_nil', asgns_cons', bnd_ok, bndS_ok, thenS_nx, thenS_rt, noExc_ok, optR_some, getE_zero, getE_succ, toBool_bl, toInt_int, endOf_rt, endOf_nx, add_int, sub_int, lt_int, le_int, gt_int, ge_int, eq_int, ne_int, abs_int, int_int, int_bl, neg_int, ix2_0, ix2_1, len_tup, parSet, List.set, List.map, isTy, kd, isK, if_true, Bool.not_false, Bool.not_true, if_false_bool, PySem.sizeLine_eq, List.length_cons, List.length_nil, List.length, reduceCtorEq, if_false]
theorem c_times {a b : Rat} {n m : Nat} (ha : Bd n a) (hb : Bd m b) (hl : n + m ≤ 8000) : callF fs (k + 4) 720 [fr a, fr b] h = .ok (fr (a * b)) h := by
  rw [callF_succ (f := f_times) rfl rfl]
  simp only [f_times, startE, List.cons_append, Nat.reduceAdd, Nat.reduceSub, List.replicate, List.append_nil, List.nil_append, Nat.reduceLeDiff, c_need2 ha hb (by omega) (by omega), c_mul ha hb hl, exec_asg', exec_par', exec_expr', exec_ret', exec_retN', exec_ife', exec_whl', exec_for', exec_brk', exec_cont', exec_skip', exec_seq', ev_con', ev_var', ev_tup', ev_lst', ev_bin', ev_neg', ev_not', ev_cmp', ev_chain', ev_and', ev_or', ev_ite', ev_call', ev_bi', ev_isi', ev_ix', ev_sl', ev_comp', evs_nil', evs_cons', evo_none', evo_some', test_not', test_and', test_or', test_cmp', test_chain', test_var', test_con', test_call', test_bi', test_isi', test_ix', evi_seq', evi_rng1', evi_rng2', evi_enum', evi_zip', asgn_name', asgn_sub', asgn_tupT', asgns_nil', asgns_cons', bnd_ok, bndS_ok, thenS_nx, thenS_rt, noExc_ok, optR_some, getE_zero, getE_succ, toBool_bl, toInt_int, endOf_rt, endOf_nx, add_int, sub_int, lt_int, le_int, gt_int, ge_int, eq_int, ne_int, abs_int, int_int, int_bl, neg_int, ix2_0, ix2_1, len_tup, parSet, List.set, List.map, isTy, kd, isK, if_true, Bool.not_false, Bool.not_true, if_false_bool, PySem.sizeLine_eq, List.length_cons, List.length_nil, List.length, reduceCtorEq, if_false]
theorem c_over {a b : Rat} {n m : Nat} (ha : Bd n a) (hb : Bd m b) (hl : n + m ≤ 8000) (h0 : b ≠ 0) : callF fs (k + 4) 639 [fr a, fr b] h = .ok (fr (a / b)) h := by
  rw [callF_succ (f := f_over) rfl rfl]
  simp only [f_over, startE, List.cons_append, Nat.reduceAdd, Nat.reduceSub, List.replicate, List.append_nil, List.nil_append, Nat.reduceLeDiff, c_need2 ha hb (by omega) (by omega), fr_zero, eq_fr, decide_eq_false h0, c_div ha hb hl h0, exec_asg', exec_par', exec_expr', exec_ret', exec_retN', exec_ife', exec_whl', exec_for', exec_brk', exec_cont', exec_skip', exec_seq', ev_con', ev_var', ev_tup', ev_lst', ev_bin', ev_neg', ev_not', ev_cmp', ev_chain', ev_and', ev_or', ev_ite', ev_call', ev_bi', ev_isi', ev_ix', ev_sl', ev_comp', evs_nil', evs_cons', evo_none', evo_some', test_not', test_and', test_or', test_cmp', test_chain', test_var', test_con', test_call', test_bi', test_isi', test_ix', evi_seq', evi_rng1', evi_rng2', evi_enum', evi_zip', asgn_name', asgn_sub', asgn_tupT', asgns_nil', asgns_cons', bnd_ok, bndS_ok, thenS_nx, thenS_rt, noExc_ok, optR_some, getE_zero, getE_succ, toBool_bl, toInt_int, endOf_rt, endOf_nx, add_int, sub_int, lt_int, le_int, gt_int, ge_int, eq_int, ne_int, abs_int, int_int, int_bl, neg_int, ix2_0, ix2_1, len_tup, parSet, List.set, List.map, isTy, kd, isK, if_true, Bool.not_false, Bool.not_true, if_false_bool, PySem.sizeLine_eq, List.length_cons, List.length_nil, List.length, reduceCtorEq, if_false]
theorem c_compare {a b : Rat} {n m : Nat} (ha : Bd n a) (hb : Bd m b) (hl : n + m ≤ 8000) : callF fs (k + 4) 424 [fr a, fr b] h = .ok (.int (cmpR a b)) h := by
  rw [callF_succ (f := f_compare) rfl rfl]
  simp only [f_compare, startE, List.cons_append, Nat.reduceAdd, Nat.reduceSub, List.replicate, List.append_nil, List.nil_append, Nat.reduceLeDiff, c_need2 ha hb (by omega) (by omega), c_order_of ha hb hl, exec_asg', exec_par', exec_expr', exec_ret', exec_retN', exec_ife', exec_whl', exec_for', exec_brk', exec_cont', exec_skip', exec_seq', ev_con', ev_var', ev_tup', ev_lst', ev_bin', ev_neg', ev_not', ev_cmp', ev_chain', ev_and', ev_or', ev_ite', ev_call', ev_bi', ev_isi', ev_ix', ev_sl', ev_comp', evs_nil', evs_cons', evo_none', evo_some', test_not', test_and', test_or', test_cmp', test_chain', test_var', test_con', test_call', test_bi', test_isi', test_ix', evi_seq', evi_rng1', evi_rng2', evi_enum', evi_zip', asgn_name', asgn_sub', asgn_tupT', asgns_nil', asgns_cons', bnd_ok, bndS_ok, thenS_nx, thenS_rt, noExc_ok, optR_some, getE_zero, getE_succ, toBool_bl, toInt_int, endOf_rt, endOf_nx, add_int, sub_int, lt_int, le_int, gt_int, ge_int, eq_int, ne_int, abs_int, int_int, int_bl, neg_int, ix2_0, ix2_1, len_tup, parSet, List.set, List.map, isTy, kd, isK, if_true, Bool.not_false, Bool.not_true, if_false_bool, PySem.sizeLine_eq, List.length_cons, List.length_nil, List.length, reduceCtorEq, if_false]
theorem c_fraction {t b : Int} (hb : b ≠ 0) (hs : b.natAbs < 2 ^ 8000) : callF fs (k + 3) 466 [.int t, .int b] h = .ok (fr (Rat.divInt t b)) h := by
  rw [callF_succ (f := f_fraction) rfl rfl]
  simp only [f_fraction, startE, List.cons_append, Nat.reduceAdd, Nat.reduceSub, List.replicate, List.append_nil, List.nil_append, Nat.reduceLeDiff, seqIt, exec_asg', exec_par', exec_expr', exec_ret', exec_retN', exec_ife', exec_whl', exec_for', exec_brk', exec_cont', exec_skip', exec_seq', ev_con', ev_var', ev_tup', ev_lst', ev_bin', ev_neg', ev_not', ev_cmp', ev_chain', ev_and', ev_or', ev_ite', ev_call', ev_bi', ev_isi', ev_ix', ev_sl', ev_comp', evs_nil', evs_cons', evo_none', evo_some', test_not', test_and', test_or', test_cmp', test_chain', test_var', test_con', test_call', test_bi', test_isi', test_ix', evi_seq', evi_rng1', evi_rng2', evi_enum', evi_zip', asgn_name', asgn_sub', asgn_tupT', asgns_nil', asgns_cons', bnd_ok, bndS_ok, thenS_nx, thenS_rt, noExc_ok, optR_some, getE_zero, getE_succ, toBool_bl, toInt_int, endOf_rt, endOf_nx, add_int, sub_int, lt_int, le_int, gt_int, ge_int, eq_int, ne_int, abs_int, int_int, int_bl, neg_int, ix2_0, ix2_1, len_tup, parSet, List.set, List.map, isTy, kd, isK, if_true, Bool.not_false, Bool.not_true, if_false_bool, PySem.sizeLine_eq, List.length_cons, List.length_nil, List.length, reduceCtorEq, if_false]
  rw [for_tup (by simp)]
  simp only [forList_cons, forList_nil, turnEnd_nx, c_is_integer_int, decide_eq_false hb, c_lowest hb hs, exec_asg', exec_par', exec_expr', exec_ret', exec_retN', exec_ife', exec_whl', exec_for', exec_brk', exec_cont', exec_skip', exec_seq', ev_con', ev_var', ev_tup', ev_lst', ev_bin', ev_neg', ev_not', ev_cmp', ev_chain', ev_and', ev_or', ev_ite', ev_call', ev_bi', ev_isi', ev_ix', ev_sl', ev_comp', evs_nil', evs_cons', evo_none', evo_some', test_not', test_and', test_or', test_cmp', test_chain', test_var', test_con', test_call', test_bi', test_isi', test_ix', evi_seq', evi_rng1', evi_rng2', evi_enum', evi_zip', asgn_name', asgn_sub', asgn_tupT', asgns_nil', asgns_cons', bnd_ok, bndS_ok, thenS_nx, thenS_rt, noExc_ok, optR_some, getE_zero, getE_succ, toBool_bl, toInt_int, endOf_rt, endOf_nx, add_int, sub_int, lt_int, le_int, gt_int, ge_int, eq_int, ne_int, abs_int, int_int, int_bl, neg_int, ix2_0, ix2_1, len_tup, parSet, List.set, List.map, isTy, kd, isK, if_true, Bool.not_false, Bool.not_true, if_false_bool, PySem.sizeLine_eq, List.length_cons, List.length_nil, List.length, reduceCtorEq, if_false]
/-! ### bounds -/
theorem bd_add {a b : Rat} {n m : Nat} (ha : Bd n a) (hb : Bd m b) : Bd (n + m + 1) (a + b) := by
  rw [← add_divInt]
  have h1 : (a.num * (b.den : Int)).natAbs < 2 ^ (n + m) := by rw [Int.natAbs_mul]; exact pow_mul_lt ha.1 (by simpa using hb.2)
  have h2 : (b.num * (a.den : Int)).natAbs < 2 ^ (n + m) := by rw [Int.natAbs_mul, Nat.add_comm n m]; exact pow_mul_lt hb.1 (by simpa using ha.2)
  refine ⟨num_lt ?_, den_lt ?_ (dd_nz a b)⟩
  · rw [Nat.pow_succ]
    omega
  · rw [Int.natAbs_mul]
    exact pow_mono (pow_mul_lt (by simpa using ha.2) (by simpa using hb.2)) (by omega)
theorem bd_sub {a b : Rat} {n m : Nat} (ha : Bd n a) (hb : Bd m b) : Bd (n + m + 1) (a - b) := by
  rw [← sub_divInt]
  have h1 : (a.num * (b.den : Int)).natAbs < 2 ^ (n + m) := by rw [Int.natAbs_mul]; exact pow_mul_lt ha.1 (by simpa using hb.2)
  have h2 : (b.num * (a.den : Int)).natAbs < 2 ^ (n + m) := by rw [Int.natAbs_mul, Nat.add_comm n m]; exact pow_mul_lt hb.1 (by simpa using ha.2)
  refine ⟨num_lt ?_, den_lt ?_ (dd_nz a b)⟩
  · rw [Nat.pow_succ]
    omega
  · rw [Int.natAbs_mul]
    exact pow_mono (pow_mul_lt (by simpa using ha.2) (by simpa using hb.2)) (by omega)
theorem bd_mul {a b : Rat} {n m : Nat} (ha : Bd n a) (hb : Bd m b) : Bd (n + m) (a * b) := by
  rw [← mul_divInt]
  refine ⟨num_lt ?_, den_lt ?_ (dd_nz a b)⟩
  · rw [Int.natAbs_mul]; exact pow_mul_lt ha.1 hb.1
  · rw [Int.natAbs_mul]; exact pow_mul_lt (by simpa using ha.2) (by simpa using hb.2)
theorem bd_div {a b : Rat} {n m : Nat} (ha : Bd n a) (hb : Bd m b) (h0 : b ≠ 0) : Bd (n + m) (a / b) := by
  rw [← div_divInt]
  have hn : b.num ≠ 0 := fun z => h0 (Rat.num_eq_zero.mp z)
  refine ⟨num_lt ?_, den_lt ?_ (Int.mul_ne_zero (den_nz a) hn)⟩
  · rw [Int.natAbs_mul]; exact pow_mul_lt ha.1 (by simpa using hb.2)
  · rw [Int.natAbs_mul]; exact pow_mul_lt (by simpa using ha.2) hb.1
end L_onenumber_k06_whole_arithmetic

set_option Elab.async false
set_option linter.all false
set_option maxRecDepth 100000
set_option maxHeartbeats 2000000
set_option exponentiation.threshold 100000
namespace PD
open PySem
theorem fmod_range (a : Int) {b : Int} (hb : 0 < b) : 0 ≤ a.fmod b ∧ a.fmod b < b := by
  rw [Int.fmod_eq_emod_of_nonneg _ (by omega)]
  exact ⟨Int.emod_nonneg _ (by omega), Int.emod_lt_of_pos _ hb⟩
theorem fdiv_nonneg' {a b : Int} (ha : 0 ≤ a) (hb : 0 < b) : 0 ≤ a.fdiv b := by
  rw [Int.fdiv_eq_ediv_of_nonneg _ (by omega)]
  exact Int.ediv_nonneg ha (by omega)
theorem lt_pow_of {a : Int} {n : Nat} (h0 : 0 ≤ a) (h : a < (2 : Int) ^ n) : a.natAbs < 2 ^ n := by
  have e : ((2 ^ n : Nat) : Int) = (2 : Int) ^ n := by simp
  omega
theorem mul_70 {a b : Int} {h : Hh} (ha : a.natAbs < 2 ^ 400) (hb : b.natAbs < 2 ^ 400) : binOp .Mult (.int a) (.int b) h = .ok (.int (a * b)) h := mul_int (mul_ok ha hb (by omega))
theorem lst_at1 {h : Hh} {a : List D} : lstOf (h ++ [.lst a]) h.length = some a := by
  unfold lstOf
  rw [List.getElem?_append_right (Nat.le_refl _), Nat.sub_self]
  rfl
theorem lstOf_of {h : Hh} {n : Nat} {ds : List D} (e : h[n]? = some (.lst ds)) : lstOf h n = some ds := by
  unfold lstOf
  rw [e]
theorem lst_app {h g : Hh} {n : Nat} {ds : List D} (e : lstOf h n = some ds) : lstOf (h ++ g) n = some ds := by
  have q := lstOf_some e
  refine lstOf_of ?_
  rw [List.getElem?_append_left (List.getElem?_eq_some_iff.mp q).1]
  exact q
theorem ix_ref {h : Hh} {n : Nat} {ds : List D} {i : Int} {d : D} (hs : lstOf h n = some ds) (ha : L2.atI ds i = some d) : ixOp (.ref n) (.int i) h = .ok d h := by
  show optR ((seqOf h (.ref n)).bind (fun ds => L2.atI ds i)) _ = _
  have : seqOf h (.ref n) = some ds := hs
  rw [this]
  show optR (L2.atI ds i) _ = _
  rw [ha]
  rfl
theorem len_ref {h : Hh} {n : Nat} {ds : List D} (hs : lstOf h n = some ds) : biOp .len (.ref n) h = .ok (.int ds.length) h := by
  show optR (seqOf h (.ref n)) _ = _
  have : seqOf h (.ref n) = some ds := hs
  rw [this]
  rfl
theorem set_ref {h : Hh} {n : Nat} {ds : List D} {i : Int} {j : Nat} {v : D} (hs : lstOf h n = some ds) (hi : L2.ixN ds.length i = some j) : setAt (.ref n) (.int i) v h = .ok () (h.set n (.lst (ds.set j v))) := by
  show optR (lstOf h n) _ = _
  rw [hs]
  show optR (L2.ixN ds.length i) _ = _
  rw [hi]
  rfl
theorem cat_ref {h : Hh} {n m : Nat} {a b : List D} (h1 : lstOf h n = some a) (h2 : lstOf h m = some b) (hl : a.length + b.length ≤ sizeLine) : binOp .Add (.ref n) (.ref m) h = .ok (.ref h.length) (h ++ [.lst (a ++ b)]) := by
  show optR (lstOf h n) _ = _
  rw [h1]
  show optR (lstOf h m) _ = _
  rw [h2]
  show (if _ then _ else _) = _
  rw [if_pos hl]
theorem atI_lt {α : Type} {ds : List α} {i : Int} (h0 : 0 ≤ i) (h1 : i < ds.length) : ∃ d, L2.atI ds i = some d ∧ d ∈ ds := by
  have e : L2.ixN ds.length i = some i.toNat := by
    unfold L2.ixN
    rw [if_pos h0, if_pos h1]
  have hl : i.toNat < ds.length := by omega
  refine ⟨ds[i.toNat], ?_, List.getElem_mem hl⟩
  unfold L2.atI
  rw [e]
  show ds[i.toNat]? = _
  exact List.getElem?_eq_getElem hl
/-! ### the pen -/
structure PenAt (h : Hh) (p c : Nat) (cells : List Int) (t r : Int) : Prop where
  pen : lstOf h p = some [.ref c, .int t, .int r]
  cel : lstOf h c = some (cells.map D.int)
  ne : c ≠ p
/-- all but p is as it was -/
structure Oth (p : Nat) (h h' : Hh) : Prop where
  len : h.length ≤ h'.length
  get : ∀ n : Nat, n ≠ p → n < h.length → h'[n]? = h[n]?
theorem Oth.refl {p : Nat} {h : Hh} : Oth p h h := ⟨Nat.le_refl _, fun _ _ _ => rfl⟩
theorem Oth.trans {p : Nat} {h h1 h2 : Hh} (a : Oth p h h1) (b : Oth p h1 h2) : Oth p h h2 := ⟨Nat.le_trans a.len b.len, fun n hn hl => (b.get n hn (Nat.lt_of_lt_of_le hl a.len)).trans (a.get n hn hl)⟩
theorem Oth.app {p : Nat} {h g : Hh} : Oth p h (h ++ g) := ⟨by simp, fun n _ hl => List.getElem?_append_left hl⟩
theorem Oth.set {p : Nat} {h : Hh} {o : O} : Oth p h (h.set p o) := ⟨by simp, fun n hn _ => List.getElem?_set_ne (Ne.symm hn)⟩
theorem Oth.lst {p n : Nat} {h h' : Hh} {ds : List D} (a : Oth p h h') (hn : n ≠ p) (e : lstOf h n = some ds) : lstOf h' n = some ds := by
  have q := lstOf_some e
  exact lstOf_of ((a.get n hn (List.getElem?_eq_some_iff.mp q).1).trans q)
theorem PenAt.app {h g : Hh} {p c : Nat} {cells : List Int} {t r : Int} (a : PenAt h p c cells t r) : PenAt (h ++ g) p c cells t r := ⟨lst_app a.pen, lst_app a.cel, a.ne⟩
theorem PenAt.lt {h : Hh} {p c : Nat} {cells : List Int} {t r : Int} (a : PenAt h p c cells t r) : p < h.length := (List.getElem?_eq_some_iff.mp (lstOf_some a.pen)).1
theorem PenAt.set {h : Hh} {p c : Nat} {cells : List Int} {t r t' r' : Int} (a : PenAt h p c cells t r) : PenAt (h.set p (.lst [.ref c, .int t', .int r'])) p c cells t' r' := by
  refine ⟨lstOf_of (List.getElem?_set_self a.lt), ?_, a.ne⟩
  have q := lstOf_some a.cel
  exact lstOf_of ((List.getElem?_set_ne (Ne.symm a.ne)).trans q)
/-- a pen of at most n takes -/
def Pen (n : Nat) (h : Hh) (p : Nat) : Prop := ∃ c cells t r, PenAt h p c cells t r ∧ 0 ≤ t ∧ t ≤ (n : Int) ∧ 0 ≤ r
end PD
namespace L_onenumber_k06_whole_arithmetic
open PD PySem
variable {k : Nat} {h : Hh}
def primes : List D := [.int 2147483629, .int 2147483587, .int 2147483579, .int 2147483563, .int 2147483549, .int 2147483543, .int 2147483497, .int 2147483489, .int 2147483477, .int 2147483423, .int 2147483399, .int 2147483353, .int 2147483323]
theorem prime_at (t : Int) : ∃ q : Int, L2.atI primes (t.fmod 13) = some (.int q) ∧ 0 < q ∧ q < 2147483648 := by
  obtain ⟨h0, h1⟩ := fmod_range t (b := 13) (by decide)
  obtain ⟨d, e, m⟩ := atI_lt (ds := primes) (i := t.fmod 13) h0 (by simpa [primes] using h1)
  simp only [primes, List.mem_cons, List.not_mem_nil, or_false] at m
  rcases m with m | m | m | m | m | m | m | m | m | m | m | m | m <;> exact ⟨_, by rw [e, m], by decide, by decide⟩
theorem p18 {h : Hh} : binOp .Pow (.int 10) (.int 18) h = .ok (.int 1000000000000000000) h := by
  rw [PD.pow_int (by decide)]
  rfl
theorem p17 {h : Hh} : binOp .Pow (.int 10) (.int 17) h = .ok (.int 100000000000000000) h := by
  rw [PD.pow_int (by decide)]
  rfl
theorem c_spread {c t : Int} (h0 : 0 ≤ t) (h1 : t < 1000000) : ∃ v g, callF fs (k + 1) 315 [.int c, .int t] h = .ok (.int v) (h ++ g) ∧ 0 ≤ v := by
  rw [callF_succ (f := f_law_spread) rfl rfl]
  by_cases hc : (1000000000000000000 : Int) ≤ c
  · refine ⟨c, [], ?_, by omega⟩
    simp only [f_law_spread, startE, List.cons_append, Nat.reduceAdd, Nat.reduceSub, List.replicate, List.append_nil, List.nil_append, p18, decide_eq_true hc, exec_asg', exec_par', exec_expr', exec_ret', exec_retN', exec_ife', exec_whl', exec_for', exec_brk', exec_cont', exec_skip', exec_seq', ev_con', ev_var', ev_tup', ev_lst', ev_bin', ev_neg', ev_not', ev_cmp', ev_chain', ev_and', ev_or', ev_ite', ev_call', ev_bi', ev_isi', ev_ix', ev_sl', ev_comp', evs_nil', evs_cons', evo_none', evo_some', test_not', test_and', test_or', test_cmp', test_chain', test_var', test_con', test_call', test_bi', test_isi', test_ix', evi_seq', evi_rng1', evi_rng2', evi_enum', evi_zip', asgn_name', asgn_sub', asgn_tupT', asgns_nil', asgns_cons', bnd_ok, bndS_ok, thenS_nx, thenS_rt, noExc_ok, optR_some, getE_zero, getE_succ, toBool_bl, toInt_int, endOf_rt, endOf_nx, add_int, sub_int, lt_int, le_int, gt_int, ge_int, eq_int, ne_int, abs_int, int_int, int_bl, neg_int, ix2_0, ix2_1, len_tup, parSet, List.set, List.map, isTy, kd, isK, if_true, Bool.not_false, Bool.not_true, if_false_bool, PySem.sizeLine_eq, List.length_cons, List.length_nil, List.length, reduceCtorEq, if_false]
  · obtain ⟨q1, e1, a1, b1⟩ := prime_at t
    obtain ⟨q2, e2, a2, b2⟩ := prime_at (t + 5)
    obtain ⟨q3, e3, a3, b3⟩ := prime_at (t + 7)
    obtain ⟨m0, hm0⟩ : ∃ x, x = c.fmod 1000000007 := ⟨_, rfl⟩
    have m1 := fmod_range c (b := 1000000007) (by decide)
    rw [← hm0] at m1
    have x1 : ∀ h, binOp .Mult (.int m0) (.int (2 * t + 69069)) h = .ok (.int (m0 * (2 * t + 69069))) h := fun h => mul_70 (lt_pow_of m1.1 (by omega)) (lt_pow_of (by omega) (by omega))
    have x2 : ∀ h, binOp .Mult (.int 2) (.int t) h = .ok (.int (2 * t)) h := fun h => mul_70 (by decide) (lt_pow_of (by omega) (by omega))
    have x3 : ∀ h, binOp .Mult (.int t) (.int 40503) h = .ok (.int (t * 40503)) h := fun h => mul_70 (lt_pow_of (by omega) (by omega)) (by decide)
    have y1 : m0 * (2 * t + 69069) ≤ 1000000007 * 2069069 := Int.mul_le_mul (by omega) (by omega) (by omega) (by omega)
    have y0 : 0 ≤ m0 * (2 * t + 69069) := Int.mul_nonneg m1.1 (by omega)
    obtain ⟨mx, hmx⟩ : ∃ x, x = m0 * (2 * t + 69069) + t * 40503 + 977 := ⟨_, rfl⟩
    have mb : 0 ≤ mx ∧ mx < 18446744073709551616 := by omega
    have x4 : ∀ h, binOp .Pow (.int mx) (.int 3) h = .ok (.int (mx ^ 3)) h := fun h => PD.pow_int ⟨by decide, by decide, lt_pow_of (n := 64) mb.1 (by omega)⟩
    obtain ⟨o, ho⟩ : ∃ x, x = (mx ^ 3).fmod q1 := ⟨_, rfl⟩
    have ob := fmod_range (mx ^ 3) a1
    rw [← ho] at ob
    obtain ⟨rs, hrs⟩ : ∃ x, x = c.fmod 65537 := ⟨_, rfl⟩
    have rb := fmod_range c (b := 65537) (by decide)
    rw [← hrs] at rb
    have x5 : ∀ h, binOp .Mult (.int o) (.int (t + 3)) h = .ok (.int (o * (t + 3))) h := fun h => mul_70 (lt_pow_of ob.1 (by omega)) (lt_pow_of (by omega) (by omega))
    have y5 : o * (t + 3) ≤ 2147483648 * 1000003 := Int.mul_le_mul (by omega) (by omega) (by omega) (by omega)
    have y6 : 0 ≤ o * (t + 3) := Int.mul_nonneg ob.1 (by omega)
    obtain ⟨u, hu⟩ : ∃ x, x = o * (t + 3) + (rs + 5) := ⟨_, rfl⟩
    have ub : 0 ≤ u ∧ u < 18446744073709551616 := by omega
    have x6 : ∀ h, binOp .Pow (.int u) (.int 5) h = .ok (.int (u ^ 5)) h := fun h => PD.pow_int ⟨by decide, by decide, lt_pow_of (n := 64) ub.1 (by omega)⟩
    obtain ⟨w, hw⟩ : ∃ x, x = (u ^ 5).fmod q2 := ⟨_, rfl⟩
    have wb := fmod_range (u ^ 5) a2
    rw [← hw] at wb
    obtain ⟨z, hz⟩ : ∃ x, x = o.fmod 1009 := ⟨_, rfl⟩
    have zb := fmod_range o (b := 1009) (by decide)
    rw [← hz] at zb
    obtain ⟨y, hy⟩ : ∃ x, x = w + z + t := ⟨_, rfl⟩
    have yb : 0 ≤ y ∧ y < 18446744073709551616 := by omega
    have x7 : ∀ h, binOp .Pow (.int y) (.int 3) h = .ok (.int (y ^ 3)) h := fun h => PD.pow_int ⟨by decide, by decide, lt_pow_of (n := 64) yb.1 (by omega)⟩
    obtain ⟨f, hf⟩ : ∃ x, x = (y ^ 3).fmod q3 := ⟨_, rfl⟩
    have fb := fmod_range (y ^ 3) a3
    rw [← hf] at fb
    have x8 : ∀ h, binOp .Mult (.int o) (.int 2147483647) h = .ok (.int (o * 2147483647)) h := fun h => mul_70 (lt_pow_of ob.1 (by omega)) (by decide)
    have x9 : ∀ h, binOp .Mult (.int (o * 2147483647 + w)) (.int 2147483647) h = .ok (.int ((o * 2147483647 + w) * 2147483647)) h := fun h => mul_70 (lt_pow_of (by omega) (by omega)) (by decide)
    refine ⟨(o * 2147483647 + w) * 2147483647 + f, [O.lst [D.int 2147483629, D.int 2147483587, D.int 2147483579, D.int 2147483563, D.int 2147483549, D.int 2147483543, D.int 2147483497], O.lst [D.int 2147483489, D.int 2147483477, D.int 2147483423, D.int 2147483399, D.int 2147483353, D.int 2147483323], O.lst primes], ?_, by omega⟩
    have k1 : ∀ g : Hh, lstOf ((h ++ [O.lst [D.int 2147483629, D.int 2147483587, D.int 2147483579, D.int 2147483563, D.int 2147483549, D.int 2147483543, D.int 2147483497]]) ++ g) h.length = some [D.int 2147483629, D.int 2147483587, D.int 2147483579, D.int 2147483563, D.int 2147483549, D.int 2147483543, D.int 2147483497] := fun g => lst_app lst_at1
    have k2 : ∀ g : Hh, binOp .Add (.ref h.length) (.ref (h ++ [O.lst [D.int 2147483629, D.int 2147483587, D.int 2147483579, D.int 2147483563, D.int 2147483549, D.int 2147483543, D.int 2147483497]]).length) ((h ++ [O.lst [D.int 2147483629, D.int 2147483587, D.int 2147483579, D.int 2147483563, D.int 2147483549, D.int 2147483543, D.int 2147483497]]) ++ [O.lst [D.int 2147483489, D.int 2147483477, D.int 2147483423, D.int 2147483399, D.int 2147483353, D.int 2147483323]]) = .ok (.ref ((h ++ [O.lst [D.int 2147483629, D.int 2147483587, D.int 2147483579, D.int 2147483563, D.int 2147483549, D.int 2147483543, D.int 2147483497]]) ++ [O.lst [D.int 2147483489, D.int 2147483477, D.int 2147483423, D.int 2147483399, D.int 2147483353, D.int 2147483323]]).length) (((h ++ [O.lst [D.int 2147483629, D.int 2147483587, D.int 2147483579, D.int 2147483563, D.int 2147483549, D.int 2147483543, D.int 2147483497]]) ++ [O.lst [D.int 2147483489, D.int 2147483477, D.int 2147483423, D.int 2147483399, D.int 2147483353, D.int 2147483323]]) ++ [O.lst primes]) := fun g => cat_ref (k1 _) lst_at1 (by decide)
    generalize hh2 : (h ++ [O.lst [D.int 2147483629, D.int 2147483587, D.int 2147483579, D.int 2147483563, D.int 2147483549, D.int 2147483543, D.int 2147483497]]) ++ [O.lst [D.int 2147483489, D.int 2147483477, D.int 2147483423, D.int 2147483399, D.int 2147483353, D.int 2147483323]] = h2 at k2
    have k3 : lstOf (h2 ++ [O.lst primes]) h2.length = some primes := lst_at1
    simp only [f_law_spread, startE, List.cons_append, Nat.reduceAdd, Nat.reduceSub, List.replicate, List.append_nil, List.nil_append, p18, decide_eq_false hc, Nat.reduceLeDiff, hh2, k2 [], PD.mod_int (b := 1000000007) (by decide), PD.mod_int (b := 65537) (by decide), PD.mod_int (b := 13) (by decide), PD.mod_int (b := 1009) (by decide), ← hm0, ← hrs, x1, x2, x3, ← hmx, x4, ix_ref k3 e1, PD.mod_int (b := q1) (by omega), ← ho, x5, ← hu, x6, ix_ref k3 e2, PD.mod_int (b := q2) (by omega), ← hw, ← hz, ← hy, x7, ix_ref k3 e3, PD.mod_int (b := q3) (by omega), ← hf, x8, x9, exec_asg', exec_par', exec_expr', exec_ret', exec_retN', exec_ife', exec_whl', exec_for', exec_brk', exec_cont', exec_skip', exec_seq', ev_con', ev_var', ev_tup', ev_lst', ev_bin', ev_neg', ev_not', ev_cmp', ev_chain', ev_and', ev_or', ev_ite', ev_call', ev_bi', ev_isi', ev_ix', ev_sl', ev_comp', evs_nil', evs_cons', evo_none', evo_some', test_not', test_and', test_or', test_cmp', test_chain', test_var', test_con', test_call', test_bi', test_isi', test_ix', evi_seq', evi_rng1', evi_rng2', evi_enum', evi_zip', asgn_name', asgn_sub', asgn_tupT', asgns_nil', asgns_cons', bnd_ok, bndS_ok, thenS_nx, thenS_rt, noExc_ok, optR_some, getE_zero, getE_succ, toBool_bl, toInt_int, endOf_rt, endOf_nx, add_int, sub_int, lt_int, le_int, gt_int, ge_int, eq_int, ne_int, abs_int, int_int, int_bl, neg_int, ix2_0, ix2_1, len_tup, parSet, List.set, List.map, isTy, kd, isK, if_true, Bool.not_false, Bool.not_true, if_false_bool, PySem.sizeLine_eq, List.length_cons, List.length_nil, List.length, reduceCtorEq, if_false]
    rw [← hh2]
    simp only [List.append_assoc, List.cons_append, List.nil_append]
theorem at0 {a b c : D} : L2.atI [a, b, c] 0 = some a := rfl
theorem at1 {a b c : D} : L2.atI [a, b, c] 1 = some b := rfl
theorem at2 {a b c : D} : L2.atI [a, b, c] 2 = some c := rfl
theorem ix1 {a b c : D} : L2.ixN [a, b, c].length 1 = some 1 := rfl
theorem ix2 {a b c : D} : L2.ixN [a, b, c].length 2 = some 2 := rfl
theorem take_cell {p c : Nat} {cells : List Int} {t r m : Int} (pa : PenAt h p c cells t r) (h0 : 0 ≤ t) (h1 : t < 1000000) : ∃ v : Int,
    exec (callF fs (k + 1)) (.ife (.cmp .Lt (.var 2) (.bi .len (.ix (.var 0) (.con (.int 0))))) (.seq (.asg (.name 3) (.ix (.ix (.var 0) (.con (.int 0))) (.var 2))) .skip) (.seq (.ife (.cmp .Gt (.bi .len (.ix (.var 0) (.con (.int 0)))) (.con (.int 0))) (.seq (.asg (.name 3) (.bin .Mod (.bi .int (.ix (.ix (.var 0) (.con (.int 0))) (.bin .Mod (.bi .int (.bin .Add (.bin .Mult (.var 2) (.con (.int 5))) (.con (.int 3)))) (.bi .len (.ix (.var 0) (.con (.int 0))))))) (.bin .Add (.bin .Pow (.con (.int 10)) (.con (.int 17))) (.var 2)))) .skip) .skip) .skip))
      [some (.ref p), some (.int m), some (.int t), some (.int 0), none] h = .nx [some (.ref p), some (.int m), some (.int t), some (.int v), none] h := by
  have i0 := ix_ref pa.pen at0
  have ln := len_ref pa.cel
  rw [List.length_map] at ln
  by_cases c1 : t < (cells.length : Int)
  · obtain ⟨d, e, m1⟩ := atI_lt (ds := cells.map D.int) (i := t) h0 (by simpa using c1)
    obtain ⟨v, _, rfl⟩ := List.mem_map.mp m1
    refine ⟨v, ?_⟩
    have i1 := ix_ref pa.cel e
    simp only [i0, ln, i1, decide_eq_true c1, exec_asg', exec_par', exec_expr', exec_ret', exec_retN', exec_ife', exec_whl', exec_for', exec_brk', exec_cont', exec_skip', exec_seq', ev_con', ev_var', ev_tup', ev_lst', ev_bin', ev_neg', ev_not', ev_cmp', ev_chain', ev_and', ev_or', ev_ite', ev_call', ev_bi', ev_isi', ev_ix', ev_sl', ev_comp', evs_nil', evs_cons', evo_none', evo_some', test_not', test_and', test_or', test_cmp', test_chain', test_var', test_con', test_call', test_bi', test_isi', test_ix', evi_seq', evi_rng1', evi_rng2', evi_enum', evi_zip', asgn_name', asgn_sub', asgn_tupT', asgns_nil', asgns_cons', bnd_ok, bndS_ok, thenS_nx, thenS_rt, noExc_ok, optR_some, getE_zero, getE_succ, toBool_bl, toInt_int, endOf_rt, endOf_nx, add_int, sub_int, lt_int, le_int, gt_int, ge_int, eq_int, ne_int, abs_int, int_int, int_bl, neg_int, ix2_0, ix2_1, len_tup, parSet, List.set, List.map, isTy, kd, isK, if_true, Bool.not_false, Bool.not_true, if_false_bool, PySem.sizeLine_eq, List.length_cons, List.length_nil, List.length, reduceCtorEq, if_false]
  · by_cases c2 : (0 : Int) < (cells.length : Int)
    · have nz : (cells.length : Int) ≠ 0 := by omega
      obtain ⟨b0, b1⟩ := fmod_range (t * 5 + 3) c2
      obtain ⟨d, e, m1⟩ := atI_lt (ds := cells.map D.int) (i := (t * 5 + 3).fmod cells.length) b0 (by simpa using b1)
      obtain ⟨v, _, rfl⟩ := List.mem_map.mp m1
      have i1 := ix_ref pa.cel e
      have x1 : ∀ h, binOp .Mult (.int t) (.int 5) h = .ok (.int (t * 5)) h := fun h => mul_70 (lt_pow_of h0 (by omega)) (by decide)
      refine ⟨v.fmod (100000000000000000 + t), ?_⟩
      simp only [i0, ln, i1, decide_eq_false c1, decide_eq_true c2, x1, p17, PD.mod_int nz, PD.mod_int (show 100000000000000000 + t ≠ 0 by omega), exec_asg', exec_par', exec_expr', exec_ret', exec_retN', exec_ife', exec_whl', exec_for', exec_brk', exec_cont', exec_skip', exec_seq', ev_con', ev_var', ev_tup', ev_lst', ev_bin', ev_neg', ev_not', ev_cmp', ev_chain', ev_and', ev_or', ev_ite', ev_call', ev_bi', ev_isi', ev_ix', ev_sl', ev_comp', evs_nil', evs_cons', evo_none', evo_some', test_not', test_and', test_or', test_cmp', test_chain', test_var', test_con', test_call', test_bi', test_isi', test_ix', evi_seq', evi_rng1', evi_rng2', evi_enum', evi_zip', asgn_name', asgn_sub', asgn_tupT', asgns_nil', asgns_cons', bnd_ok, bndS_ok, thenS_nx, thenS_rt, noExc_ok, optR_some, getE_zero, getE_succ, toBool_bl, toInt_int, endOf_rt, endOf_nx, add_int, sub_int, lt_int, le_int, gt_int, ge_int, eq_int, ne_int, abs_int, int_int, int_bl, neg_int, ix2_0, ix2_1, len_tup, parSet, List.set, List.map, isTy, kd, isK, if_true, Bool.not_false, Bool.not_true, if_false_bool, PySem.sizeLine_eq, List.length_cons, List.length_nil, List.length, reduceCtorEq, if_false]
    · refine ⟨0, ?_⟩
      simp only [i0, ln, decide_eq_false c1, decide_eq_false c2, exec_asg', exec_par', exec_expr', exec_ret', exec_retN', exec_ife', exec_whl', exec_for', exec_brk', exec_cont', exec_skip', exec_seq', ev_con', ev_var', ev_tup', ev_lst', ev_bin', ev_neg', ev_not', ev_cmp', ev_chain', ev_and', ev_or', ev_ite', ev_call', ev_bi', ev_isi', ev_ix', ev_sl', ev_comp', evs_nil', evs_cons', evo_none', evo_some', test_not', test_and', test_or', test_cmp', test_chain', test_var', test_con', test_call', test_bi', test_isi', test_ix', evi_seq', evi_rng1', evi_rng2', evi_enum', evi_zip', asgn_name', asgn_sub', asgn_tupT', asgns_nil', asgns_cons', bnd_ok, bndS_ok, thenS_nx, thenS_rt, noExc_ok, optR_some, getE_zero, getE_succ, toBool_bl, toInt_int, endOf_rt, endOf_nx, add_int, sub_int, lt_int, le_int, gt_int, ge_int, eq_int, ne_int, abs_int, int_int, int_bl, neg_int, ix2_0, ix2_1, len_tup, parSet, List.set, List.map, isTy, kd, isK, if_true, Bool.not_false, Bool.not_true, if_false_bool, PySem.sizeLine_eq, List.length_cons, List.length_nil, List.length, reduceCtorEq, if_false]
theorem c_take {p n : Nat} {m : Int} (hp : Pen n h p) (hn : n < 900000) (hm : 0 < m) (hb : m.natAbs.log2 < 9000) :
    ∃ v h', callF fs (k + 2) 326 [.ref p, .int m] h = .ok (.int v) h' ∧ 0 ≤ v ∧ v < m ∧ Pen (n + 1) h' p ∧ Oth p h h' := by
  obtain ⟨c, cells, t, r, pa, t0, tn, r0⟩ := hp
  rw [callF_succ (f := f_law_take) rfl rfl]
  have mz : m ≠ 0 := by omega
  -- behind the first part
  have fin : ∀ (x y : Option D) (h1 : Hh) (t1 r1 : Int), PenAt h1 p c cells t1 r1 → exec (callF fs (k + 1)) (.seq (.asg (.name 4) (.bin .Mod (.bi .int (.ix (.var 0) (.con (.int 2)))) (.var 1))) (.seq (.asg (.sub (.var 0) (.con (.int 2))) (.bin .FloorDiv (.ix (.var 0) (.con (.int 2))) (.var 1))) (.seq (.ret (.var 4)) .skip))) [some (.ref p), some (.int m), x, y, none] h1 = .rt (.int (r1.fmod m)) (h1.set p (.lst [.ref c, .int t1, .int (r1.fdiv m)])) := fun x y h1 t1 r1 pa1 => by
    have i2 := ix_ref pa1.pen at2
    have s2 := set_ref (v := .int (r1.fdiv m)) pa1.pen ix2
    simp only [i2, s2, PD.mod_int mz, PD.fdiv_int mz hb, exec_asg', exec_par', exec_expr', exec_ret', exec_retN', exec_ife', exec_whl', exec_for', exec_brk', exec_cont', exec_skip', exec_seq', ev_con', ev_var', ev_tup', ev_lst', ev_bin', ev_neg', ev_not', ev_cmp', ev_chain', ev_and', ev_or', ev_ite', ev_call', ev_bi', ev_isi', ev_ix', ev_sl', ev_comp', evs_nil', evs_cons', evo_none', evo_some', test_not', test_and', test_or', test_cmp', test_chain', test_var', test_con', test_call', test_bi', test_isi', test_ix', evi_seq', evi_rng1', evi_rng2', evi_enum', evi_zip', asgn_name', asgn_sub', asgn_tupT', asgns_nil', asgns_cons', bnd_ok, bndS_ok, thenS_nx, thenS_rt, noExc_ok, optR_some, getE_zero, getE_succ, toBool_bl, toInt_int, endOf_rt, endOf_nx, add_int, sub_int, lt_int, le_int, gt_int, ge_int, eq_int, ne_int, abs_int, int_int, int_bl, neg_int, ix2_0, ix2_1, len_tup, parSet, List.set, List.map, isTy, kd, isK, if_true, Bool.not_false, Bool.not_true, if_false_bool, PySem.sizeLine_eq, List.length_cons, List.length_nil, List.length, reduceCtorEq, if_false]
  by_cases c1 : r < m
  · obtain ⟨v, ev⟩ := take_cell (k := k) (m := m) pa t0 (by omega)
    have i1 := ix_ref pa.pen at1
    have i2 := ix_ref pa.pen at2
    have s1 := set_ref (v := .int (t + 1)) pa.pen ix1
    have pa1 : PenAt (h.set p (.lst [.ref c, .int (t + 1), .int r])) p c cells (t + 1) r := pa.set
    obtain ⟨w, g, ew, w0⟩ := c_spread (k := k) (h := h.set p (.lst [.ref c, .int (t + 1), .int r])) (c := v) t0 (by omega)
    have pa2 := pa1.app (g := g)
    have s2 := set_ref (v := .int w) pa2.pen ix2
    have pa3 : PenAt (((h.set p (.lst [.ref c, .int (t + 1), .int r])) ++ g).set p (.lst [.ref c, .int (t + 1), .int w])) p c cells (t + 1) w := pa2.set
    obtain ⟨f0, f1⟩ := fmod_range w hm
    refine ⟨w.fmod m, _, ?_, f0, f1, ⟨c, cells, t + 1, w.fdiv m, pa3.set, by omega, by omega, fdiv_nonneg' w0 hm⟩, ((Oth.set.trans Oth.app).trans Oth.set).trans Oth.set⟩
    have i3 := ix_ref pa3.pen at2
    have s3 := set_ref (v := .int (w.fdiv m)) pa3.pen ix2
    simp only [List.set] at s1 s2 s3
    simp only [f_law_take, startE, List.cons_append, Nat.reduceAdd, Nat.reduceSub, List.replicate, List.append_nil, List.nil_append, exec_seq', exec_ife' (c := .cmp .Lt (.ix (.var 0) (.con (.int 2))) (.var 1)), exec_asg', asgn_name', ev_ix', ev_var', ev_con', test_cmp', ev_cmp', List.map, List.set, getE_zero, getE_succ, optR_some, bnd_ok, bndS_ok, noExc_ok, thenS_nx, i1, i2, lt_int, decide_eq_true c1, toBool_bl, if_true, List.length]
    rw [ev]
    simp only [s1, ew, s2, i3, s3, PD.mod_int mz, PD.fdiv_int mz hb, exec_asg', exec_par', exec_expr', exec_ret', exec_retN', exec_ife', exec_whl', exec_for', exec_brk', exec_cont', exec_skip', exec_seq', ev_con', ev_var', ev_tup', ev_lst', ev_bin', ev_neg', ev_not', ev_cmp', ev_chain', ev_and', ev_or', ev_ite', ev_call', ev_bi', ev_isi', ev_ix', ev_sl', ev_comp', evs_nil', evs_cons', evo_none', evo_some', test_not', test_and', test_or', test_cmp', test_chain', test_var', test_con', test_call', test_bi', test_isi', test_ix', evi_seq', evi_rng1', evi_rng2', evi_enum', evi_zip', asgn_name', asgn_sub', asgn_tupT', asgns_nil', asgns_cons', bnd_ok, bndS_ok, thenS_nx, thenS_rt, noExc_ok, optR_some, getE_zero, getE_succ, toBool_bl, toInt_int, endOf_rt, endOf_nx, add_int, sub_int, lt_int, le_int, gt_int, ge_int, eq_int, ne_int, abs_int, int_int, int_bl, neg_int, ix2_0, ix2_1, len_tup, parSet, List.set, List.map, isTy, kd, isK, if_true, Bool.not_false, Bool.not_true, if_false_bool, PySem.sizeLine_eq, List.length_cons, List.length_nil, List.length, reduceCtorEq, if_false]
  · refine ⟨r.fmod m, _, ?_, (fmod_range r hm).1, (fmod_range r hm).2, ⟨c, cells, t, r.fdiv m, pa.set, t0, by omega, fdiv_nonneg' r0 hm⟩, Oth.set⟩
    have i2 := ix_ref pa.pen at2
    have fin1 := fin none none _ _ _ pa
    simp only [f_law_take, startE, List.cons_append, Nat.reduceAdd, Nat.reduceSub, List.replicate, List.append_nil, List.nil_append, exec_seq' (a := .ife _ _ _), exec_ife', ev_ix', ev_var', ev_con', test_cmp', ev_cmp', List.map, getE_zero, getE_succ, optR_some, bnd_ok, bndS_ok, i2, lt_int, decide_eq_false c1, toBool_bl, if_false_bool, exec_skip', thenS_nx, List.length]
    rw [fin1]
    rfl
end L_onenumber_k06_whole_arithmetic

set_option Elab.async false
set_option linter.all false
set_option maxRecDepth 100000
set_option maxHeartbeats 2000000
set_option exponentiation.threshold 100000
namespace PD
open PySem
theorem sl_scr {h : Hh} {ns : List Int} {lo hi : Option Int} : slOp (.scr ns) lo hi h = .ok (.ref h.length) (h ++ [.lst (cutD (ns.map D.int) lo hi)]) := rfl
theorem list_ref {h : Hh} {n : Nat} {ds : List D} (hs : lstOf h n = some ds) : biOp .list (.ref n) h = .ok (.ref h.length) (h ++ [.lst ds]) := by
  show optR (seqOf h (.ref n)) _ = _
  have : seqOf h (.ref n) = some ds := hs
  rw [this]
  rfl
theorem enum_ref {h : Hh} {n : Nat} {ds : List D} (hs : lstOf h n = some ds) : enumIt (.ref n) h = .ok (.enum (.ref n)) h := by
  show optR (seqOf h (.ref n)) _ = _
  have : seqOf h (.ref n) = some ds := hs
  rw [this]
  rfl
theorem enum_next {h : Hh} {n : Nat} {ds : List D} {i : Nat} (hs : lstOf h n = some ds) : (It.enum (.ref n)).next i h = some (ds[i]?.map fun d => .tup [.int i, d]) := by
  show (seqOf h (.ref n)).map _ = _
  have : seqOf h (.ref n) = some ds := hs
  rw [this]
  rfl
theorem cut_to (ns : List Int) (b : Nat) : cutD (ns.map D.int) none (some (b : Int)) = (ns.take b).map D.int := by
  unfold cutD
  rw [HT.sIx_none, HT.sIx_nat, List.drop_zero, Nat.sub_zero, List.length_map, List.map_take, ← List.length_map (f := D.int) (as := ns)]
  by_cases c : b ≤ (ns.map D.int).length
  · rw [Nat.min_eq_left c]
  · rw [Nat.min_eq_right (by omega), List.take_length, List.take_of_length_le (by omega)]
theorem cut_from (ns : List Int) (a b : Nat) : ∃ es : List Int, cutD (ns.map D.int) (some (a : Int)) (some (b : Int)) = es.map D.int ∧ (es ≠ [] → a < ns.length) ∧ es.length ≤ ns.length := by
  unfold cutD
  rw [HT.sIx_nat, HT.sIx_nat, List.length_map]
  refine ⟨(ns.drop (min a ns.length)).take (min b ns.length - min a ns.length), by rw [List.map_take, List.map_drop], fun z => ?_, by rw [List.length_take, List.length_drop]; omega⟩
  by_cases c : a < ns.length
  · exact c
  · exfalso
    apply z
    rw [Nat.min_eq_right (by omega : ns.length ≤ a), List.drop_length, List.take_nil]
theorem map_set_int (cells : List Int) (j : Nat) (v : Int) : (cells.map D.int).set j (.int v) = (cells.set j v).map D.int := by
  rw [List.map_set]
/-! ### comprehensions over what is told -/
def compList (body : D → Hh → R (Option D)) : List D → List D → Hh → R (List D)
  | [], acc, h => .ok acc h
  | d :: ds, acc, h => bnd (body d h) fun o h1 => match o with
      | none => compList body ds acc h1
      | some x => if acc.length < sizeLine then compList body ds (acc ++ [x]) h1 else .bad
theorem compLoop_list {body : D → Hh → R (Option D)} {it : It} {ds : List D} (hn : ∀ i h, it.next i h = some ds[i]?) : ∀ (f i : Nat) (acc : List D) (h : Hh), ds.length - i < f → compLoop it body f i acc h = compList body (ds.drop i) acc h
  | 0, _, _, _, hf => by omega
  | f + 1, i, acc, h, hf => by
    rw [compLoop, hn]
    cases q : ds[i]? with
    | none =>
      have : ds.length ≤ i := List.getElem?_eq_none_iff.mp q
      rw [List.drop_eq_nil_of_le this]
      rfl
    | some d =>
      obtain ⟨hi, e⟩ := List.getElem?_eq_some_iff.mp q
      rw [List.drop_eq_getElem_cons hi, e, compList]
      dsimp only
      congr 1
      funext o h1
      cases o with
      | none => exact compLoop_list hn f (i + 1) acc h1 (by omega)
      | some x =>
        dsimp only
        rw [compLoop_list hn f (i + 1) (acc ++ [x]) h1 (by omega)]
theorem rng_next (lo : Int) (k i : Nat) (h : Hh) : (It.rng lo k).next i h = some (rngL lo k)[i]? := by
  unfold rngL
  rw [List.getElem?_map]
  show (if i < k then some (some (D.int (lo + i))) else some none) = _
  by_cases c : i < k
  · rw [if_pos c, List.getElem?_range c]
    rfl
  · rw [if_neg c, List.getElem?_eq_none (by simpa using c)]
    rfl
theorem comp_rng {body : D → Hh → R (Option D)} {lo : Int} {k : Nat} {h : Hh} (hl : k ≤ 1000000000) : compLoop (.rng lo k) body turns 0 [] h = compList body (rngL lo k) [] h := by
  rw [compLoop_list (rng_next lo k) turns 0 [] h (by rw [Nat.sub_zero]; unfold rngL; rw [List.length_map, List.length_range]; exact turns_gt hl), List.drop_zero]
theorem rng_it {a : Nat} {h : Hh} (ha : a < 1000000) : rngIt 0 (.int (a : Int)) h = .ok (.rng 0 a) h := by
  have e : rngIt 0 (.int (a : Int)) h = if -(2 ^ 62) ≤ (0 : Int) ∧ (0 : Int) < 2 ^ 62 ∧ -(2 ^ 62) ≤ (a : Int) ∧ (a : Int) < 2 ^ 62 then .ok (.rng 0 ((a : Int) - 0).toNat) h else .bad := by rw [rngIt]
  rw [e, if_pos ⟨by decide, by decide, by omega, by omega⟩, Int.sub_zero, Int.toNat_natCast]
end PD
namespace L_onenumber_k06_whole_arithmetic
open PD PySem
variable {k : Nat} {h : Hh}
theorem Pen.mono {n m p : Nat} (a : Pen n h p) (hl : n ≤ m) : Pen m h p := by
  obtain ⟨c, cells, t, r, pa, t0, tn, r0⟩ := a
  exact ⟨c, cells, t, r, pa, t0, by omega, r0⟩
theorem c_anew {p n : Nat} (hp : Pen n h p) : ∃ h', callF fs (k + 1) 12 [.ref p] h = .ok (.ref p) h' ∧ Pen n h' p ∧ Oth p h h' := by
  obtain ⟨c, cells, t, r, pa, t0, tn, r0⟩ := hp
  rw [callF_succ (f := f_law_anew) rfl rfl]
  have s2 := set_ref (v := .int 0) pa.pen ix2
  refine ⟨_, ?_, ⟨c, cells, t, 0, pa.set (r' := 0) (t' := t), t0, tn, by decide⟩, Oth.set⟩
  simp only [List.set] at s2
  simp only [f_law_anew, startE, List.cons_append, Nat.reduceAdd, Nat.reduceSub, List.replicate, List.append_nil, List.nil_append, s2, exec_asg', exec_par', exec_expr', exec_ret', exec_retN', exec_ife', exec_whl', exec_for', exec_brk', exec_cont', exec_skip', exec_seq', ev_con', ev_var', ev_tup', ev_lst', ev_bin', ev_neg', ev_not', ev_cmp', ev_chain', ev_and', ev_or', ev_ite', ev_call', ev_bi', ev_isi', ev_ix', ev_sl', ev_comp', evs_nil', evs_cons', evo_none', evo_some', test_not', test_and', test_or', test_cmp', test_chain', test_var', test_con', test_call', test_bi', test_isi', test_ix', evi_seq', evi_rng1', evi_rng2', evi_enum', evi_zip', asgn_name', asgn_sub', asgn_tupT', asgns_nil', asgns_cons', bnd_ok, bndS_ok, thenS_nx, thenS_rt, noExc_ok, optR_some, getE_zero, getE_succ, toBool_bl, toInt_int, endOf_rt, endOf_nx, add_int, sub_int, lt_int, le_int, gt_int, ge_int, eq_int, ne_int, abs_int, int_int, int_bl, neg_int, ix2_0, ix2_1, len_tup, parSet, List.set, List.map, isTy, kd, isK, if_true, Bool.not_false, Bool.not_true, if_false_bool, PySem.sizeLine_eq, List.length_cons, List.length_nil, List.length, reduceCtorEq, if_false, Nat.reduceAdd, Nat.reduceLeDiff]
theorem small_log {m : Int} (h0 : 0 ≤ m) (h : m < 2 ^ 60) : m.natAbs.log2 < 9000 := Nat.lt_of_le_of_lt (log2_le (lt_pow_of h0 h)) (by decide)
theorem c_one {p s n : Nat} {ds : List D} (hp : Pen n h p) (hn : n < 900000) (hs : lstOf h s = some ds) (ne : s ≠ p) (h0 : 0 < ds.length) (h1 : ds.length < 1000000) :
    ∃ d h', callF fs (k + 3) 224 [.ref p, .ref s] h = .ok d h' ∧ d ∈ ds ∧ Pen (n + 1) h' p ∧ Oth p h h' := by
  rw [callF_succ (f := f_law_one) rfl rfl]
  obtain ⟨v, h', e, v0, v1, pn, ot⟩ := c_take (k := k) (m := (ds.length : Int)) hp hn (by omega) (small_log (by omega) (by omega))
  obtain ⟨d, ed, md⟩ := atI_lt v0 v1
  have i1 := ix_ref (ot.lst ne hs) ed
  refine ⟨d, h', ?_, md, pn, ot⟩
  simp only [f_law_one, startE, List.cons_append, Nat.reduceAdd, Nat.reduceSub, List.replicate, List.append_nil, List.nil_append, len_ref hs, e, i1, exec_asg', exec_par', exec_expr', exec_ret', exec_retN', exec_ife', exec_whl', exec_for', exec_brk', exec_cont', exec_skip', exec_seq', ev_con', ev_var', ev_tup', ev_lst', ev_bin', ev_neg', ev_not', ev_cmp', ev_chain', ev_and', ev_or', ev_ite', ev_call', ev_bi', ev_isi', ev_ix', ev_sl', ev_comp', evs_nil', evs_cons', evo_none', evo_some', test_not', test_and', test_or', test_cmp', test_chain', test_var', test_con', test_call', test_bi', test_isi', test_ix', evi_seq', evi_rng1', evi_rng2', evi_enum', evi_zip', asgn_name', asgn_sub', asgn_tupT', asgns_nil', asgns_cons', bnd_ok, bndS_ok, thenS_nx, thenS_rt, noExc_ok, optR_some, getE_zero, getE_succ, toBool_bl, toInt_int, endOf_rt, endOf_nx, add_int, sub_int, lt_int, le_int, gt_int, ge_int, eq_int, ne_int, abs_int, int_int, int_bl, neg_int, ix2_0, ix2_1, len_tup, parSet, List.set, List.map, isTy, kd, isK, if_true, Bool.not_false, Bool.not_true, if_false_bool, PySem.sizeLine_eq, List.length_cons, List.length_nil, List.length, reduceCtorEq, if_false, Nat.reduceAdd, Nat.reduceLeDiff]
/-! ### the script is opened -/
theorem open_loop {c e : Nat} {es : List Int} (ne : e ≠ c) : ∀ (f i : Nat) (h : Hh) (x y : Option D) (cells : List Int), es.length - i < f → lstOf h e = some (es.map D.int) → lstOf h c = some (cells.map D.int) → (es ≠ [] → cells.length = 12) → ∀ s : D,
    ∃ (x' y' : Option D) (h' : Hh) (cells' : List Int), forLoop (.enum (.ref e)) (asgn (callF fs k) (.tup (.cons (.name 2) (.cons (.name 3) .nil)))) (exec (callF fs k) (.seq (.asg (.sub (.var 1) (.bin .Mod (.bi .int (.var 2)) (.con (.int 12)))) (.bin .Add (.ix (.var 1) (.bin .Mod (.bi .int (.var 2)) (.con (.int 12)))) (.var 3))) .skip)) f i [some s, some (.ref c), x, y] h
      = .nx [some s, some (.ref c), x', y'] h' ∧ lstOf h' c = some (cells'.map D.int) ∧ Oth c h h'
  | 0, _, _, _, _, _, hf, _, _, _, _ => by omega
  | f + 1, i, h, x, y, cells, hf, he, hc, hl, s => by
    rw [forLoop_step, enum_next he]
    cases q : (es.map D.int)[i]? with
    | none => exact ⟨x, y, h, cells, rfl, hc, Oth.refl⟩
    | some d =>
      have hi : i < es.length := by
        have := (List.getElem?_eq_some_iff.mp q).1
        simpa using this
      obtain ⟨v, hv, rfl⟩ : ∃ v, es[i]? = some v ∧ D.int v = d := by
        rw [List.getElem?_map] at q
        cases z : es[i]? with
        | none => rw [z] at q; cases q
        | some v => rw [z] at q; cases q; exact ⟨v, rfl, rfl⟩
      have l12 : cells.length = 12 := hl (fun z => by subst z; simp at hi)
      obtain ⟨b0, b1⟩ := fmod_range (i : Int) (b := 12) (by decide)
      obtain ⟨d1, e1, m1⟩ := atI_lt (ds := cells.map D.int) (i := (i : Int).fmod 12) b0 (by rw [List.length_map, l12]; exact b1)
      obtain ⟨w, _, rfl⟩ := List.mem_map.mp m1
      have i1 := ix_ref hc e1
      have ixj : L2.ixN (cells.map D.int).length ((i : Int).fmod 12) = some ((i : Int).fmod 12).toNat := by
        unfold L2.ixN
        rw [if_pos b0, if_pos (by rw [List.length_map, l12]; exact b1)]
      have s1 := set_ref (v := .int (w + v)) hc ixj
      rw [map_set_int] at s1
      have hcl : c < h.length := (List.getElem?_eq_some_iff.mp (lstOf_some hc)).1
      have ih := open_loop ne f (i + 1) (h.set c (.lst ((cells.set ((i : Int).fmod 12).toNat (w + v)).map D.int))) (some (.int i)) (some (.int v)) (cells.set ((i : Int).fmod 12).toNat (w + v)) (by omega)
        (Oth.lst Oth.set ne he) (lstOf_of (List.getElem?_set_self hcl)) (fun z => by rw [List.length_set]; exact hl z) s
      obtain ⟨x', y', h', cells', e2, e3, e4⟩ := ih
      refine ⟨x', y', h', cells', ?_, e3, Oth.set.trans e4⟩
      simp only [Option.map_some, i1, s1, PD.mod_int (b := 12) (by decide), turnEnd_nx, exec_asg', exec_par', exec_expr', exec_ret', exec_retN', exec_ife', exec_whl', exec_for', exec_brk', exec_cont', exec_skip', exec_seq', ev_con', ev_var', ev_tup', ev_lst', ev_bin', ev_neg', ev_not', ev_cmp', ev_chain', ev_and', ev_or', ev_ite', ev_call', ev_bi', ev_isi', ev_ix', ev_sl', ev_comp', evs_nil', evs_cons', evo_none', evo_some', test_not', test_and', test_or', test_cmp', test_chain', test_var', test_con', test_call', test_bi', test_isi', test_ix', evi_seq', evi_rng1', evi_rng2', evi_enum', evi_zip', asgn_name', asgn_sub', asgn_tupT', asgns_nil', asgns_cons', bnd_ok, bndS_ok, thenS_nx, thenS_rt, noExc_ok, optR_some, getE_zero, getE_succ, toBool_bl, toInt_int, endOf_rt, endOf_nx, add_int, sub_int, lt_int, le_int, gt_int, ge_int, eq_int, ne_int, abs_int, int_int, int_bl, neg_int, ix2_0, ix2_1, len_tup, parSet, List.set, List.map, isTy, kd, isK, if_true, Bool.not_false, Bool.not_true, if_false_bool, PySem.sizeLine_eq, List.length_cons, List.length_nil, List.length, reduceCtorEq, if_false, Nat.reduceAdd, Nat.reduceLeDiff]
      exact e2
theorem c_open {ns : List Int} (hl : ns.length ≤ 63) : ∃ h' p, callF fs (k + 1) 227 [.scr ns] [] = .ok (.ref p) h' ∧ Pen 0 h' p := by
  rw [callF_succ (f := f_law_open) rfl rfl]
  obtain ⟨es, ees, hes, hel⟩ := cut_from ns 12 63
  have ec := cut_to ns 12
  obtain ⟨x', y', h', cells', e2, e3, e4⟩ := open_loop (k := k) (c := 1) (e := 2) (es := es) (by decide) turns 0 [.lst ((ns.take 12).map D.int), .lst ((ns.take 12).map D.int), .lst (es.map D.int)] none none (ns.take 12) (by rw [Nat.sub_zero]; exact turns_gt (by omega)) rfl rfl (fun z => by
    have := hes z
    rw [List.length_take]
    omega) (.scr ns)
  refine ⟨h' ++ [.lst [.ref 1, .int 0, .int 0]], h'.length, ?_, 1, cells', 0, 0, ⟨lst_at1, lst_app e3, ?_⟩, by decide, by decide, by decide⟩
  · have l1 : ∀ a : List D, lstOf ([O.lst a] : Hh) 0 = some a := fun a => rfl
    have l2 : ∀ a b c : List D, lstOf ([O.lst a, O.lst b, O.lst c] : Hh) 2 = some c := fun a b c => rfl
    simp only [f_law_open, startE, List.cons_append, Nat.reduceAdd, Nat.reduceSub, List.replicate, List.append_nil, List.nil_append, exec_seq', exec_asg', exec_for', exec_ret', exec_skip', ev_bi', ev_sl', ev_var', evo_none', evo_some', ev_con', evi_enum', asgn_name', getE_zero, getE_succ, optR_some, bnd_ok, bndS_ok, noExc_ok, thenS_nx, List.map, List.set, List.length, toInt_int, sl_scr]
    have c12 : cutD (ns.map D.int) none (some 12) = (ns.take 12).map D.int := ec
    have c63 : cutD (ns.map D.int) (some 12) (some 63) = es.map D.int := ees
    simp only [c12, c63, list_ref (l1 _), List.cons_append, List.nil_append, List.length, bnd_ok, bndS_ok, noExc_ok, thenS_nx, asgn_name', List.set, ev_sl', ev_var', evo_some', ev_con', getE_zero, getE_succ, optR_some, toInt_int, sl_scr, Nat.reduceAdd, enum_ref (l2 _ _ _), exec_seq', exec_for', evi_enum']
    rw [e2]
    simp only [exec_asg', exec_par', exec_expr', exec_ret', exec_retN', exec_ife', exec_whl', exec_for', exec_brk', exec_cont', exec_skip', exec_seq', ev_con', ev_var', ev_tup', ev_lst', ev_bin', ev_neg', ev_not', ev_cmp', ev_chain', ev_and', ev_or', ev_ite', ev_call', ev_bi', ev_isi', ev_ix', ev_sl', ev_comp', evs_nil', evs_cons', evo_none', evo_some', test_not', test_and', test_or', test_cmp', test_chain', test_var', test_con', test_call', test_bi', test_isi', test_ix', evi_seq', evi_rng1', evi_rng2', evi_enum', evi_zip', asgn_name', asgn_sub', asgn_tupT', asgns_nil', asgns_cons', bnd_ok, bndS_ok, thenS_nx, thenS_rt, noExc_ok, optR_some, getE_zero, getE_succ, toBool_bl, toInt_int, endOf_rt, endOf_nx, add_int, sub_int, lt_int, le_int, gt_int, ge_int, eq_int, ne_int, abs_int, int_int, int_bl, neg_int, ix2_0, ix2_1, len_tup, parSet, List.set, List.map, isTy, kd, isK, if_true, Bool.not_false, Bool.not_true, if_false_bool, PySem.sizeLine_eq, List.length_cons, List.length_nil, List.length, reduceCtorEq, if_false, Nat.reduceAdd, Nat.reduceLeDiff]
  · have := e4.len
    simp at this
    omega
/-! ### the law's own fractions -/
theorem w_common : ∀ (ds : List D) (a b g : Nat) (x : Option D), gstep ds.length a b = some g →
    forList (asgn (callF fs k) (.name 2)) (exec (callF fs k) (.seq (.ife (.cmp .Eq (.var 1) (.con (.int 0))) (.seq (.ret (.var 0)) .skip) .skip) (.seq (.par [0, 1] (.cons (.var 1) (.cons (.bin .Mod (.bi .int (.var 0)) (.var 1)) .nil))) .skip))) ds [some (.int a), some (.int b), x] h = .rt (.int g) h
  | [], _, _, _, _, e => by cases e
  | d :: ds, a, b, g, x, e => by
    rw [List.length_cons] at e
    unfold gstep at e
    rw [forList_cons]
    by_cases h0 : b = 0
    · rw [if_pos h0] at e
      cases e
      subst h0
      simp only [turnEnd_rt, Int.natCast_zero, Int.cast_ofNat_Int, decide_true, exec_asg', exec_par', exec_expr', exec_ret', exec_retN', exec_ife', exec_whl', exec_for', exec_brk', exec_cont', exec_skip', exec_seq', ev_con', ev_var', ev_tup', ev_lst', ev_bin', ev_neg', ev_not', ev_cmp', ev_chain', ev_and', ev_or', ev_ite', ev_call', ev_bi', ev_isi', ev_ix', ev_sl', ev_comp', evs_nil', evs_cons', evo_none', evo_some', test_not', test_and', test_or', test_cmp', test_chain', test_var', test_con', test_call', test_bi', test_isi', test_ix', evi_seq', evi_rng1', evi_rng2', evi_enum', evi_zip', asgn_name', asgn_sub', asgn_tupT', asgns_nil', asgns_cons', bnd_ok, bndS_ok, thenS_nx, thenS_rt, noExc_ok, optR_some, getE_zero, getE_succ, toBool_bl, toInt_int, endOf_rt, endOf_nx, add_int, sub_int, lt_int, le_int, gt_int, ge_int, eq_int, ne_int, abs_int, int_int, int_bl, neg_int, ix2_0, ix2_1, len_tup, parSet, List.set, List.map, isTy, kd, isK, if_true, Bool.not_false, Bool.not_true, if_false_bool, PySem.sizeLine_eq, List.length_cons, List.length_nil, List.length, reduceCtorEq, if_false, Nat.reduceAdd, Nat.reduceLeDiff]
    · rw [if_neg h0] at e
      have h1 : (b : Int) ≠ 0 := by omega
      have ih := w_common ds b (a % b) g (some d) e
      simp only [turnEnd_nx, decide_eq_false h1, PD.mod_int h1, fmod_nat, exec_asg', exec_par', exec_expr', exec_ret', exec_retN', exec_ife', exec_whl', exec_for', exec_brk', exec_cont', exec_skip', exec_seq', ev_con', ev_var', ev_tup', ev_lst', ev_bin', ev_neg', ev_not', ev_cmp', ev_chain', ev_and', ev_or', ev_ite', ev_call', ev_bi', ev_isi', ev_ix', ev_sl', ev_comp', evs_nil', evs_cons', evo_none', evo_some', test_not', test_and', test_or', test_cmp', test_chain', test_var', test_con', test_call', test_bi', test_isi', test_ix', evi_seq', evi_rng1', evi_rng2', evi_enum', evi_zip', asgn_name', asgn_sub', asgn_tupT', asgns_nil', asgns_cons', bnd_ok, bndS_ok, thenS_nx, thenS_rt, noExc_ok, optR_some, getE_zero, getE_succ, toBool_bl, toInt_int, endOf_rt, endOf_nx, add_int, sub_int, lt_int, le_int, gt_int, ge_int, eq_int, ne_int, abs_int, int_int, int_bl, neg_int, ix2_0, ix2_1, len_tup, parSet, List.set, List.map, isTy, kd, isK, if_true, Bool.not_false, Bool.not_true, if_false_bool, PySem.sizeLine_eq, List.length_cons, List.length_nil, List.length, reduceCtorEq, if_false, Nat.reduceAdd, Nat.reduceLeDiff]
      exact ih
theorem c_common {a b : Int} (hb : b.natAbs < 2 ^ 1999) : callF fs (k + 1) 47 [.int a, .int b] h = .ok (.int (Int.gcd a b)) h := by
  rw [callF_succ (f := f_law_common) rfl rfl]
  have hl : (rngL 0 4000).length = 4000 := by unfold rngL; rw [List.length_map, List.length_range]
  have w := w_common (k := k) (h := h) (rngL 0 4000) a.natAbs b.natAbs _ none (by rw [hl]; exact gstep_gcd 1999 _ _ hb 4000 (by decide))
  have r4 : ∀ h, rngIt 0 (.int 4000) h = .ok (.rng 0 4000) h := fun h => rng_it (a := 4000) (by decide)
  simp only [f_law_common, startE, List.cons_append, Nat.reduceAdd, Nat.reduceSub, List.replicate, List.append_nil, List.nil_append, r4, exec_asg', exec_par', exec_expr', exec_ret', exec_retN', exec_ife', exec_whl', exec_for', exec_brk', exec_cont', exec_skip', exec_seq', ev_con', ev_var', ev_tup', ev_lst', ev_bin', ev_neg', ev_not', ev_cmp', ev_chain', ev_and', ev_or', ev_ite', ev_call', ev_bi', ev_isi', ev_ix', ev_sl', ev_comp', evs_nil', evs_cons', evo_none', evo_some', test_not', test_and', test_or', test_cmp', test_chain', test_var', test_con', test_call', test_bi', test_isi', test_ix', evi_seq', evi_rng1', evi_rng2', evi_enum', evi_zip', asgn_name', asgn_sub', asgn_tupT', asgns_nil', asgns_cons', bnd_ok, bndS_ok, thenS_nx, thenS_rt, noExc_ok, optR_some, getE_zero, getE_succ, toBool_bl, toInt_int, endOf_rt, endOf_nx, add_int, sub_int, lt_int, le_int, gt_int, ge_int, eq_int, ne_int, abs_int, int_int, int_bl, neg_int, ix2_0, ix2_1, len_tup, parSet, List.set, List.map, isTy, kd, isK, if_true, Bool.not_false, Bool.not_true, if_false_bool, PySem.sizeLine_eq, List.length_cons, List.length_nil, List.length, reduceCtorEq, if_false, Nat.reduceAdd, Nat.reduceLeDiff]
  rw [for_rng (by decide), w]
  rfl
theorem c_low {t b : Int} (h0 : 0 < b) (hb : b.natAbs < 2 ^ 1000) (ht : t.natAbs < 2 ^ 1000) : callF fs (k + 2) 181 [.int t, .int b] h = .ok (fr (Rat.divInt t b)) h := by
  rw [callF_succ (f := f_law_low) rfl rfl]
  have cd := c_common (k := k) (h := h) (a := t) (b := b) (pow_mono hb (by decide))
  have nb : b ≠ 0 := by omega
  obtain ⟨g1, g2⟩ := gcd_lt (t := t) nb hb
  have g3 : ((Int.gcd t b : Nat) : Int) ≠ 0 := by omega
  have l1 : ((Int.gcd t b : Nat) : Int).natAbs.log2 < 9000 := Nat.lt_of_le_of_lt (log2_le (n := 1000) (by simpa using g1)) (by decide)
  obtain ⟨e1, e2⟩ := low_pos (t := t) h0
  have hn : ¬ (b < 0) := by omega
  have x1 : ∀ h, binOp .Mult (.int 1) (.int t) h = .ok (.int t) h := fun h => by
    rw [PD.mul_int (mul_ok (n := 1) (m := 1000) (by decide) ht (by decide)), Int.one_mul]
  have x2 : ∀ h, binOp .Mult (.int 1) (.int b) h = .ok (.int b) h := fun h => by
    rw [PD.mul_int (mul_ok (n := 1) (m := 1000) (by decide) hb (by decide)), Int.one_mul]
  simp only [f_law_low, startE, List.cons_append, Nat.reduceAdd, Nat.reduceSub, List.replicate, List.append_nil, List.nil_append, cd, decide_eq_false hn, x1, x2, PD.fdiv_int g3 l1, e1, e2, Nat.reduceLeDiff, exec_asg', exec_par', exec_expr', exec_ret', exec_retN', exec_ife', exec_whl', exec_for', exec_brk', exec_cont', exec_skip', exec_seq', ev_con', ev_var', ev_tup', ev_lst', ev_bin', ev_neg', ev_not', ev_cmp', ev_chain', ev_and', ev_or', ev_ite', ev_call', ev_bi', ev_isi', ev_ix', ev_sl', ev_comp', evs_nil', evs_cons', evo_none', evo_some', test_not', test_and', test_or', test_cmp', test_chain', test_var', test_con', test_call', test_bi', test_isi', test_ix', evi_seq', evi_rng1', evi_rng2', evi_enum', evi_zip', asgn_name', asgn_sub', asgn_tupT', asgns_nil', asgns_cons', bnd_ok, bndS_ok, thenS_nx, thenS_rt, noExc_ok, optR_some, getE_zero, getE_succ, toBool_bl, toInt_int, endOf_rt, endOf_nx, add_int, sub_int, lt_int, le_int, gt_int, ge_int, eq_int, ne_int, abs_int, int_int, int_bl, neg_int, ix2_0, ix2_1, len_tup, parSet, List.set, List.map, isTy, kd, isK, if_true, Bool.not_false, Bool.not_true, if_false_bool, PySem.sizeLine_eq, List.length_cons, List.length_nil, List.length, reduceCtorEq, if_false, Nat.reduceAdd, Nat.reduceLeDiff]
  rfl
end L_onenumber_k06_whole_arithmetic

set_option Elab.async false
set_option linter.all false
set_option maxRecDepth 100000
set_option maxHeartbeats 4000000
set_option exponentiation.threshold 100000
namespace L_onenumber_k06_whole_arithmetic
open PD PySem
variable {k : Nat} {h : Hh}
theorem p12 {h : Hh} : binOp .Pow (.int 10) (.int 12) h = .ok (.int 1000000000000) h := by
  rw [PD.pow_int (by decide)]
  rfl
theorem p29 {h : Hh} : binOp .Pow (.int 10) (.int 29) h = .ok (.int 100000000000000000000000000000) h := by
  rw [PD.pow_int (by decide)]
  rfl
theorem p9 {h : Hh} : binOp .Pow (.int 10) (.int 9) h = .ok (.int 1000000000) h := by
  rw [PD.pow_int (by decide)]
  rfl
theorem p6 {h : Hh} : binOp .Pow (.int 10) (.int 6) h = .ok (.int 1000000) h := by
  rw [PD.pow_int (by decide)]
  rfl
theorem Pen.app {n p : Nat} {g : Hh} (a : Pen n h p) : Pen n (h ++ g) p := by
  obtain ⟨c, cells, t, r, pa, t0, tn, r0⟩ := a
  exact ⟨c, cells, t, r, pa.app, t0, tn, r0⟩
theorem Pen.lt {n p : Nat} (a : Pen n h p) : p < h.length := by
  obtain ⟨c, cells, t, r, pa, t0, tn, r0⟩ := a
  exact pa.lt
def L1 (v : Int) : List D := [.int 0, .int 1, .int (-1), .int 3, .int (-8), .int (1000000000000 - 1), .int (-100000000000000000000000000000), .int v]
def L2' (v : Int) : List D := [.int 1, .int 2, .int 3, .int 7, .int (1000000000000 + 39), .int (100000000000000000000000000000 + 1), .int (1 + v)]
theorem L1_mem {v : Int} {d : D} (h0 : 0 ≤ v) (h1 : v < 1000000000) (m : d ∈ L1 v) : ∃ t : Int, d = .int t ∧ t.natAbs < 2 ^ 100 := by
  simp only [L1, List.mem_cons, List.not_mem_nil, or_false] at m
  rcases m with m | m | m | m | m | m | m | m <;> refine ⟨_, m, ?_⟩ <;> first | decide | exact lt_pow_of h0 (by omega)
theorem L2_mem {v : Int} {d : D} (h0 : 0 ≤ v) (h1 : v < 1000000) (m : d ∈ L2' v) : ∃ t : Int, d = .int t ∧ 0 < t ∧ t.natAbs < 2 ^ 100 := by
  simp only [L2', List.mem_cons, List.not_mem_nil, or_false] at m
  rcases m with m | m | m | m | m | m | m <;> refine ⟨_, m, ?_, ?_⟩ <;> first | decide | omega | exact lt_pow_of (by omega) (by omega)
theorem c_drawn {p n : Nat} (hp : Pen n h p) (hn : n < 800000) : ∃ q h', callF fs (k + 4) 67 [.ref p] h = .ok (fr q) h' ∧ Bd 100 q ∧ Pen (n + 4) h' p ∧ Oth p h h' := by
  rw [callF_succ (f := f_law_drawn) rfl rfl]
  obtain ⟨v1, h1, e1, a1, b1, pn1, ot1⟩ := c_take (k := k + 1) (m := 1000000000) hp (by omega) (by decide) (small_log (by decide) (by decide))
  have pn1' := Pen.app (g := [.lst (L1 v1)]) pn1
  obtain ⟨d1, h2, e2, m1, pn2, ot2⟩ := c_one (k := k) (s := h1.length) (ds := L1 v1) pn1' (by omega) lst_at1 (by have := Pen.lt pn1; omega) (by show 0 < 8; decide) (by show 8 < 1000000; decide)
  obtain ⟨t, rfl, tb⟩ := L1_mem a1 b1 m1
  obtain ⟨v2, h3, e3, a3, b3, pn3, ot3⟩ := c_take (k := k + 1) (m := 1000000) pn2 (by omega) (by decide) (small_log (by decide) (by decide))
  have pn3' := Pen.app (g := [.lst (L2' v2)]) pn3
  obtain ⟨d2, h4, e4, m2, pn4, ot4⟩ := c_one (k := k) (s := h3.length) (ds := L2' v2) pn3' (by omega) lst_at1 (by have := Pen.lt pn3; omega) (by show 0 < 7; decide) (by show 7 < 1000000; decide)
  obtain ⟨b, rfl, b0, bb⟩ := L2_mem a3 b3 m2
  have cl := c_low (k := k + 1) (h := h4) (t := t) (b := b) b0 (pow_mono bb (by decide)) (pow_mono tb (by decide))
  refine ⟨Rat.divInt t b, h4, ?_, ⟨num_lt tb, den_lt bb (by omega)⟩, pn4, ((((ot1.trans Oth.app).trans ot2).trans ot3).trans Oth.app).trans ot4⟩
  unfold L1 at e2
  unfold L2' at e4
  simp only [f_law_drawn, startE, List.cons_append, Nat.reduceSub, List.replicate, List.append_nil, List.nil_append, p12, p29, p9, p6, e1, e2, e3, e4, cl, exec_asg', exec_par', exec_expr', exec_ret', exec_retN', exec_ife', exec_whl', exec_for', exec_brk', exec_cont', exec_skip', exec_seq', ev_con', ev_var', ev_tup', ev_lst', ev_bin', ev_neg', ev_not', ev_cmp', ev_chain', ev_and', ev_or', ev_ite', ev_call', ev_bi', ev_isi', ev_ix', ev_sl', ev_comp', evs_nil', evs_cons', evo_none', evo_some', test_not', test_and', test_or', test_cmp', test_chain', test_var', test_con', test_call', test_bi', test_isi', test_ix', evi_seq', evi_rng1', evi_rng2', evi_enum', evi_zip', asgn_name', asgn_sub', asgn_tupT', asgns_nil', asgns_cons', bnd_ok, bndS_ok, thenS_nx, thenS_rt, noExc_ok, optR_some, getE_zero, getE_succ, toBool_bl, toInt_int, endOf_rt, endOf_nx, add_int, sub_int, lt_int, le_int, gt_int, ge_int, eq_int, ne_int, abs_int, int_int, int_bl, neg_int, ix2_0, ix2_1, len_tup, parSet, List.set, List.map, isTy, kd, isK, if_true, Bool.not_false, Bool.not_true, if_false_bool, PySem.sizeLine_eq, List.length_cons, List.length_nil, List.length, reduceCtorEq, if_false, Nat.reduceAdd, Nat.reduceLeDiff]
/-! ### what the law asks of three fractions -/
theorem tri (a b : Rat) : a < b ∨ a = b ∨ b < a := by
  by_cases h1 : a < b
  · exact .inl h1
  · by_cases h2 : b < a
    · exact .inr (.inr h2)
    · exact .inr (.inl (by grind))
theorem cmpR_neg (a b : Rat) : cmpR a b = 0 - cmpR b a := by
  unfold cmpR
  by_cases h1 : a < b
  · have h2 : ¬ b < a := by grind
    simp [h1, h2]
  · by_cases h2 : b < a
    · simp [h1, h2]
    · simp [h1, h2]
theorem cmpR_add (a b c : Rat) : cmpR (a + c) (b + c) = cmpR a b := by
  unfold cmpR
  have e1 : (a + c < b + c) = (a < b) := by
    apply propext
    constructor <;> intro z <;> grind
  have e2 : (b + c < a + c) = (b < a) := by
    apply propext
    constructor <;> intro z <;> grind
  simp only [e1, e2]
theorem cmpR_mul (a b c : Rat) : cmpR (a * c) (b * c) = cmpR a b * cmpR c 0 := by
  have key : ∀ a b : Rat, a < b → ∀ c, 0 < c → a * c < b * c := fun a b h c hc => Rat.mul_lt_mul_of_pos_right h hc
  have keyn : ∀ a b : Rat, a < b → ∀ c, c < 0 → b * c < a * c := fun a b h c hc => by
    have := Rat.mul_lt_mul_of_pos_right h (show (0 : Rat) < -c by grind)
    grind
  unfold cmpR
  rcases tri c 0 with hc | hc | hc
  · have n1 : ¬ (0 : Rat) < c := by grind
    rcases tri a b with h1 | h1 | h1
    · have l := keyn a b h1 c hc
      have n2 : ¬ a * c < b * c := by grind
      simp [hc, h1, l, n2]
    · subst h1
      simp [hc, Rat.lt_irrefl]
    · have l := keyn b a h1 c hc
      have n2 : ¬ a < b := by grind
      simp [hc, h1, l, n2]
  · subst hc
    simp [Rat.lt_irrefl, Rat.mul_zero]
  · have n1 : ¬ c < 0 := by grind
    rcases tri a b with h1 | h1 | h1
    · have l := key a b h1 c hc
      simp [hc, h1, l, n1]
    · subst h1
      simp [hc, Rat.lt_irrefl]
    · have l := key b a h1 c hc
      have n2 : ¬ a < b := by grind
      have n3 : ¬ a * c < b * c := by grind
      simp [hc, h1, l, n1, n2, n3]
theorem cmpR_zero (a b : Rat) : (cmpR a b = 0) = (a = b) := by
  apply propext
  unfold cmpR
  constructor
  · intro z
    by_cases h1 : a < b
    · simp [h1] at z
    · by_cases h2 : b < a
      · simp [h1, h2] at z
      · grind
  · intro z
    subst z
    simp [Rat.lt_irrefl]
theorem cmpR_sub (a b : Rat) : cmpR (a - b) 0 = cmpR a b := by
  unfold cmpR
  have e1 : (a - b < 0) = (a < b) := by
    apply propext
    constructor <;> intro z <;> grind
  have e2 : (0 < a - b) = (b < a) := by
    apply propext
    constructor <;> intro z <;> grind
  simp only [e1, e2]
theorem cmpR_ge (a b : Rat) : (0 ≤ cmpR a b) = (b ≤ a) := by
  apply propext
  unfold cmpR
  by_cases h1 : a < b
  · simp [h1]
    grind
  · by_cases h2 : b < a
    · simp [h1, h2]
      grind
    · simp [h1, h2]
      grind
theorem cmpR_lt (a b : Rat) : (cmpR a b < 0) = (a < b) := by
  apply propext
  unfold cmpR
  by_cases h1 : a < b
  · simp [h1]
  · by_cases h2 : b < a
    · simp [h1, h2]
    · simp [h1, h2]
theorem cmpR_abs (a b : Rat) : (cmpR a b).natAbs < 2 ^ 400 := by
  unfold cmpR
  split
  · decide
  · split <;> decide
theorem t01 : D.tup [.int 0, .int 1] = fr 0 := rfl
theorem fr_of {a b : Int} {q : Rat} (h1 : q.num = a) (h2 : (q.den : Int) = b) : D.tup [.int a, .int b] = fr q := by
  unfold fr
  rw [h1, h2]
theorem t73 : D.tup [.int 7, .int 3] = fr (mkRat 7 3) := fr_of (by decide +kernel) (by decide +kernel)
theorem bd0 : Bd 2 0 := by unfold Bd; decide
theorem bd73 : Bd 4 (mkRat 7 3) := by unfold Bd; decide +kernel
theorem n73 : mkRat 7 3 ≠ 0 := by decide +kernel
theorem divInt_six (q : Rat) : Rat.divInt (q.num * 6) ((q.den : Int) * 6) = q := by
  rw [← Rat.divInt_mul_divInt q.num 6, Rat.num_divInt_den, Rat.divInt_self' (by decide)]
  grind
theorem divInt_neg1 (q : Rat) : Rat.divInt (0 - q.num) (0 - (q.den : Int)) = q := by
  have e1 : (0 - q.num) = q.num * (-1) := by omega
  have e2 : (0 - (q.den : Int)) = (q.den : Int) * (-1) := by omega
  rw [e1, e2, ← Rat.divInt_mul_divInt q.num (-1), Rat.num_divInt_den, Rat.divInt_self' (by decide)]
  grind
theorem own_ok {q : Rat} {n : Nat} (hq : Bd n q) (hn : n ≤ 2000) {x y z w v : Option D} :
    exec (callF fs (k + 3)) (.seq (.ife (.or (.not (.call 509 (.cons (.var 4) .nil))) (.cmp .NotEq (.call 466 (.cons (.bin .Mult (.ix (.var 4) (.con (.int 0))) (.con (.int 6))) (.cons (.bin .Mult (.ix (.var 4) (.con (.int 1))) (.con (.int 6))) .nil))) (.var 4))) (.seq (.ret (.con (.bl false))) .skip) .skip) (.seq (.ife (.cmp .NotEq (.call 466 (.cons (.bin .Sub (.con (.int 0)) (.ix (.var 4) (.con (.int 0)))) (.cons (.bin .Sub (.con (.int 0)) (.ix (.var 4) (.con (.int 1)))) .nil))) (.var 4)) (.seq (.ret (.con (.bl false))) .skip) .skip) .skip)) [x, y, z, w, some (fr q)] h = .nx [x, y, z, w, some (fr q)] h := by
  have dn : q.den < 2 ^ n := hq.2
  have x1 : ∀ h, binOp .Mult (.int q.num) (.int 6) h = .ok (.int (q.num * 6)) h := fun h => PD.mul_int (mul_ok (n := n) (m := 3) hq.1 (by decide) (by omega))
  have x2 : ∀ h, binOp .Mult (.int (q.den : Int)) (.int 6) h = .ok (.int ((q.den : Int) * 6)) h := fun h => PD.mul_int (mul_ok (n := n) (m := 3) (by simpa using dn) (by decide) (by omega))
  have c1 := fun h => c_fraction (k := k) (h := h) (t := q.num * 6) (b := (q.den : Int) * 6) (Int.mul_ne_zero (den_nz q) (by decide)) (by
    rw [Int.natAbs_mul]
    exact pow_mono (pow_mul_lt (n := n) (m := 3) (by simpa using dn) (by decide)) (by omega))
  have c2 := fun h => c_fraction (k := k) (h := h) (t := 0 - q.num) (b := 0 - (q.den : Int)) (by have := den_nz q; omega) (by
    have : (0 - (q.den : Int)).natAbs = q.den := by omega
    rw [this]
    exact pow_mono dn (by omega))
  rw [divInt_six] at c1
  rw [divInt_neg1] at c2
  have i0 : ∀ h, ixOp (fr q) (.int 0) h = .ok (.int q.num) h := fun h => rfl
  have i1 : ∀ h, ixOp (fr q) (.int 1) h = .ok (.int (q.den : Int)) h := fun h => rfl
  simp only [c_is_fraction (k := k + 1) hq (by omega : n ≤ 8000), i0, i1, x1, x2, c1, c2, ne_fr, decide_true, exec_asg', exec_par', exec_expr', exec_ret', exec_retN', exec_ife', exec_whl', exec_for', exec_brk', exec_cont', exec_skip', exec_seq', ev_con', ev_var', ev_tup', ev_lst', ev_bin', ev_neg', ev_not', ev_cmp', ev_chain', ev_and', ev_or', ev_ite', ev_call', ev_bi', ev_isi', ev_ix', ev_sl', ev_comp', evs_nil', evs_cons', evo_none', evo_some', test_not', test_and', test_or', test_cmp', test_chain', test_var', test_con', test_call', test_bi', test_isi', test_ix', evi_seq', evi_rng1', evi_rng2', evi_enum', evi_zip', asgn_name', asgn_sub', asgn_tupT', asgns_nil', asgns_cons', bnd_ok, bndS_ok, thenS_nx, thenS_rt, noExc_ok, optR_some, getE_zero, getE_succ, toBool_bl, toInt_int, endOf_rt, endOf_nx, add_int, sub_int, lt_int, le_int, gt_int, ge_int, eq_int, ne_int, abs_int, int_int, int_bl, neg_int, ix2_0, ix2_1, len_tup, parSet, List.set, List.map, isTy, kd, isK, if_true, Bool.not_false, Bool.not_true, if_false_bool, PySem.sizeLine_eq, List.length_cons, List.length_nil, List.length, reduceCtorEq, if_false, Nat.reduceAdd, Nat.reduceLeDiff]
theorem c_order_right {a b c : Rat} (ha : Bd 100 a) (hb : Bd 100 b) (hc : Bd 100 c) : callF fs (k + 6) 233 [fr a, fr b, fr c] h = .ok (.bl true) h := by
  rw [callF_succ (f := f_law_order_right) rfl rfl]
  have e1 := cmpR_neg a b
  have mm : ∀ h, binOp .Mult (.int (cmpR a b)) (.int (cmpR c 0)) h = .ok (.int (cmpR a b * cmpR c 0)) h := fun h => mul_70 (cmpR_abs _ _) (cmpR_abs _ _)
  have eb : ∀ (p q : Bool) (h : Hh), cmpOp .NotEq (.bl p) (.bl q) h = .ok (.bl (!(p == q))) h := fun p q h => by
    cases p <;> cases q <;> rfl
  have tr : (decide (0 ≤ cmpR a b) && (decide (0 ≤ cmpR b c) && decide (cmpR a c < 0))) = false := by
    simp only [cmpR_ge, cmpR_lt]
    by_cases q1 : b ≤ a
    · by_cases q2 : c ≤ b
      · have : ¬ a < c := by grind
        simp [q1, q2, this]
      · simp [q1, q2]
    · simp [q1]
  have ab := bd_add ha hb
  have ac := bd_sub ha hc
  have bc := bd_mul hb hc
  have a7 := bd_div ha bd73 n73
  have last : ∀ (x y z w : Option D), forList (asgn (callF fs (k + 5)) (.name 4)) (exec (callF fs (k + 5)) (.seq (.ife (.or (.not (.call 509 (.cons (.var 4) .nil))) (.cmp .NotEq (.call 466 (.cons (.bin .Mult (.ix (.var 4) (.con (.int 0))) (.con (.int 6))) (.cons (.bin .Mult (.ix (.var 4) (.con (.int 1))) (.con (.int 6))) .nil))) (.var 4))) (.seq (.ret (.con (.bl false))) .skip) .skip) (.seq (.ife (.cmp .NotEq (.call 466 (.cons (.bin .Sub (.con (.int 0)) (.ix (.var 4) (.con (.int 0)))) (.cons (.bin .Sub (.con (.int 0)) (.ix (.var 4) (.con (.int 1)))) .nil))) (.var 4)) (.seq (.ret (.con (.bl false))) .skip) .skip) .skip))) [fr (a + b), fr (a - c), fr (b * c), fr (a / mkRat 7 3)] [x, y, z, w, none] h = .nx [x, y, z, w, some (fr (a / mkRat 7 3))] h := fun x y z w => by
    have o1 := own_ok (k := k + 2) (h := h) (v := none) ab (by decide) (x := x) (y := y) (z := z) (w := w)
    have o2 := own_ok (k := k + 2) (h := h) (v := none) ac (by decide) (x := x) (y := y) (z := z) (w := w)
    have o3 := own_ok (k := k + 2) (h := h) (v := none) bc (by decide) (x := x) (y := y) (z := z) (w := w)
    have o4 := own_ok (k := k + 2) (h := h) (v := none) a7 (by decide) (x := x) (y := y) (z := z) (w := w)
    simp only [forList_cons, forList_nil, asgn_name', noExc_ok, bndS_ok, List.set, o1, o2, o3, o4, turnEnd_nx]
  have le1 : (100 : Nat) + 100 ≤ 8000 := by decide
  have q1 := fun h => c_compare (k := k + 1) (h := h) ha hb (by decide)
  have q2 := fun h => c_compare (k := k + 1) (h := h) hb ha (by decide)
  have q3 := fun h => c_plus (k := k + 1) (h := h) ha hc (by decide)
  have q4 := fun h => c_plus (k := k + 1) (h := h) hb hc (by decide)
  have q5 := fun h => c_compare (k := k + 1) (h := h) (bd_add ha hc) (bd_add hb hc) (by decide)
  have q6 := fun h => c_times (k := k + 1) (h := h) ha hc (by decide)
  have q7 := fun h => c_times (k := k + 1) (h := h) hb hc (by decide)
  have q8 := fun h => c_compare (k := k + 1) (h := h) (bd_mul ha hc) (bd_mul hb hc) (by decide)
  have q9 := fun h => c_compare (k := k + 1) (h := h) hc bd0 (by decide)
  have r1 := fun h => c_minus (k := k + 1) (h := h) ha hb (by decide)
  have r2 := fun h => c_compare (k := k + 1) (h := h) (bd_sub ha hb) bd0 (by decide)
  have r3 := fun h => c_compare (k := k + 1) (h := h) hb hc (by decide)
  have r4 := fun h => c_compare (k := k + 1) (h := h) ha hc (by decide)
  have r5 := fun h => c_plus (k := k + 1) (h := h) ha hb (by decide)
  have r6 := fun h => c_minus (k := k + 1) (h := h) ha hc (by decide)
  have r7 := fun h => c_over (k := k + 1) (h := h) ha bd73 (by decide) n73
  rw [cmpR_add] at q5
  rw [cmpR_mul] at q8
  rw [cmpR_sub] at r2
  have tst : ∀ (x y : Bool) (A B : RS), (x && y) = false → True := fun _ _ _ _ _ => trivial
  simp only [f_law_order_right, startE, List.cons_append, Nat.reduceSub, List.replicate, List.append_nil, List.nil_append, q1, q2, ← e1, decide_true, q3, q4, q5, q6, q7, q8, q9, t01, t73, mm, eb, r1, r2, eq_fr, cmpR_zero, beq_self_eq_true, r3, r4, exec_asg', exec_par', exec_expr', exec_ret', exec_retN', exec_ife', exec_whl', exec_for', exec_brk', exec_cont', exec_skip', exec_seq', ev_con', ev_var', ev_tup', ev_lst', ev_bin', ev_neg', ev_not', ev_cmp', ev_chain', ev_and', ev_or', ev_ite', ev_call', ev_bi', ev_isi', ev_ix', ev_sl', ev_comp', evs_nil', evs_cons', evo_none', evo_some', test_not', test_and', test_or', test_cmp', test_chain', test_var', test_con', test_call', test_bi', test_isi', test_ix', evi_seq', evi_rng1', evi_rng2', evi_enum', evi_zip', asgn_name', asgn_sub', asgn_tupT', asgns_nil', asgns_cons', bnd_ok, bndS_ok, thenS_nx, thenS_rt, noExc_ok, optR_some, getE_zero, getE_succ, toBool_bl, toInt_int, endOf_rt, endOf_nx, add_int, sub_int, lt_int, le_int, gt_int, ge_int, eq_int, ne_int, abs_int, int_int, int_bl, neg_int, ix2_0, ix2_1, len_tup, parSet, List.set, List.map, isTy, kd, isK, if_true, Bool.not_false, Bool.not_true, if_false_bool, PySem.sizeLine_eq, List.length_cons, List.length_nil, List.length, reduceCtorEq, if_false, Nat.reduceAdd, Nat.reduceLeDiff]
  have key : (if decide (0 ≤ cmpR a b) = true then (if decide (0 ≤ cmpR b c) = true then R.ok (decide (cmpR a c < 0)) h else R.ok false h) else R.ok false h) = R.ok false h := by
    revert tr
    cases decide (0 ≤ cmpR a b) <;> cases decide (0 ≤ cmpR b c) <;> intro tr <;> simp_all
  rw [key]
  simp only [r5, r6, q7, r7, t73, seqIt, exec_asg', exec_par', exec_expr', exec_ret', exec_retN', exec_ife', exec_whl', exec_for', exec_brk', exec_cont', exec_skip', exec_seq', ev_con', ev_var', ev_tup', ev_lst', ev_bin', ev_neg', ev_not', ev_cmp', ev_chain', ev_and', ev_or', ev_ite', ev_call', ev_bi', ev_isi', ev_ix', ev_sl', ev_comp', evs_nil', evs_cons', evo_none', evo_some', test_not', test_and', test_or', test_cmp', test_chain', test_var', test_con', test_call', test_bi', test_isi', test_ix', evi_seq', evi_rng1', evi_rng2', evi_enum', evi_zip', asgn_name', asgn_sub', asgn_tupT', asgns_nil', asgns_cons', bnd_ok, bndS_ok, thenS_nx, thenS_rt, noExc_ok, optR_some, getE_zero, getE_succ, toBool_bl, toInt_int, endOf_rt, endOf_nx, add_int, sub_int, lt_int, le_int, gt_int, ge_int, eq_int, ne_int, abs_int, int_int, int_bl, neg_int, ix2_0, ix2_1, len_tup, parSet, List.set, List.map, isTy, kd, isK, if_true, Bool.not_false, Bool.not_true, if_false_bool, PySem.sizeLine_eq, List.length_cons, List.length_nil, List.length, reduceCtorEq, if_false, Nat.reduceAdd, Nat.reduceLeDiff]
  rw [for_tup (by simp), last]
  simp only [exec_asg', exec_par', exec_expr', exec_ret', exec_retN', exec_ife', exec_whl', exec_for', exec_brk', exec_cont', exec_skip', exec_seq', ev_con', ev_var', ev_tup', ev_lst', ev_bin', ev_neg', ev_not', ev_cmp', ev_chain', ev_and', ev_or', ev_ite', ev_call', ev_bi', ev_isi', ev_ix', ev_sl', ev_comp', evs_nil', evs_cons', evo_none', evo_some', test_not', test_and', test_or', test_cmp', test_chain', test_var', test_con', test_call', test_bi', test_isi', test_ix', evi_seq', evi_rng1', evi_rng2', evi_enum', evi_zip', asgn_name', asgn_sub', asgn_tupT', asgns_nil', asgns_cons', bnd_ok, bndS_ok, thenS_nx, thenS_rt, noExc_ok, optR_some, getE_zero, getE_succ, toBool_bl, toInt_int, endOf_rt, endOf_nx, add_int, sub_int, lt_int, le_int, gt_int, ge_int, eq_int, ne_int, abs_int, int_int, int_bl, neg_int, ix2_0, ix2_1, len_tup, parSet, List.set, List.map, isTy, kd, isK, if_true, Bool.not_false, Bool.not_true, if_false_bool, PySem.sizeLine_eq, List.length_cons, List.length_nil, List.length, reduceCtorEq, if_false, Nat.reduceAdd, Nat.reduceLeDiff]
/-- one turn of the law: three drawn fractions, all that is asked of them -/
theorem c_checks {a b c : Rat} (ha : Bd 100 a) (hb : Bd 100 b) (hc : Bd 100 c) {x p t kk : Option D} :
    exec (callF fs (k + 7)) (.seq (.ife (.or (.cmp .NotEq (.call 662 (.cons (.var 3) (.cons (.var 4) .nil))) (.call 662 (.cons (.var 4) (.cons (.var 3) .nil)))) (.cmp .NotEq (.call 720 (.cons (.var 3) (.cons (.var 4) .nil))) (.call 720 (.cons (.var 4) (.cons (.var 3) .nil))))) (.seq (.ret (.con (.bl false))) .skip) .skip) (.seq (.ife (.cmp .NotEq (.call 662 (.cons (.call 662 (.cons (.var 3) (.cons (.var 4) .nil))) (.cons (.var 5) .nil))) (.call 662 (.cons (.var 3) (.cons (.call 662 (.cons (.var 4) (.cons (.var 5) .nil))) .nil)))) (.seq (.ret (.con (.bl false))) .skip) .skip) (.seq (.ife (.cmp .NotEq (.call 720 (.cons (.call 720 (.cons (.var 3) (.cons (.var 4) .nil))) (.cons (.var 5) .nil))) (.call 720 (.cons (.var 3) (.cons (.call 720 (.cons (.var 4) (.cons (.var 5) .nil))) .nil)))) (.seq (.ret (.con (.bl false))) .skip) .skip) (.seq (.ife (.cmp .NotEq (.call 720 (.cons (.var 3) (.cons (.call 662 (.cons (.var 4) (.cons (.var 5) .nil))) .nil))) (.call 662 (.cons (.call 720 (.cons (.var 3) (.cons (.var 4) .nil))) (.cons (.call 720 (.cons (.var 3) (.cons (.var 5) .nil))) .nil)))) (.seq (.ret (.con (.bl false))) .skip) .skip) (.seq (.ife (.or (.cmp .NotEq (.call 575 (.cons (.call 662 (.cons (.var 3) (.cons (.var 4) .nil))) (.cons (.var 4) .nil))) (.var 3)) (.cmp .NotEq (.call 662 (.cons (.call 575 (.cons (.var 3) (.cons (.var 4) .nil))) (.cons (.var 4) .nil))) (.var 3))) (.seq (.ret (.con (.bl false))) .skip) .skip) (.seq (.ife (.cmp .NotEq (.call 575 (.cons (.var 3) (.cons (.var 3) .nil))) (.tup (.cons (.con (.int 0)) (.cons (.con (.int 1)) .nil)))) (.seq (.ret (.con (.bl false))) .skip) .skip) (.seq (.ife (.and (.cmp .NotEq (.var 4) (.tup (.cons (.con (.int 0)) (.cons (.con (.int 1)) .nil)))) (.cmp .NotEq (.call 720 (.cons (.call 639 (.cons (.var 3) (.cons (.var 4) .nil))) (.cons (.var 4) .nil))) (.var 3))) (.seq (.ret (.con (.bl false))) .skip) .skip) (.seq (.ife (.and (.cmp .NotEq (.var 4) (.tup (.cons (.con (.int 0)) (.cons (.con (.int 1)) .nil)))) (.cmp .NotEq (.call 639 (.cons (.call 720 (.cons (.var 3) (.cons (.var 4) .nil))) (.cons (.var 4) .nil))) (.var 3))) (.seq (.ret (.con (.bl false))) .skip) .skip) (.seq (.ife (.not (.call 233 (.cons (.var 3) (.cons (.var 4) (.cons (.var 5) .nil))))) (.seq (.ret (.con (.bl false))) .skip) .skip) .skip)))))))))
      [x, p, t, some (fr a), some (fr b), some (fr c), kk] h = .nx [x, p, t, some (fr a), some (fr b), some (fr c), kk] h := by
  have q1 := fun h => c_plus (k := k + 3) (h := h) ha hb (by decide)
  have q2 := fun h => c_plus (k := k + 3) (h := h) hb ha (by decide)
  have q3 := fun h => c_times (k := k + 3) (h := h) ha hb (by decide)
  have q4 := fun h => c_times (k := k + 3) (h := h) hb ha (by decide)
  have q5 := fun h => c_plus (k := k + 3) (h := h) (bd_add ha hb) hc (by decide)
  have q6 := fun h => c_plus (k := k + 3) (h := h) hb hc (by decide)
  have q7 := fun h => c_plus (k := k + 3) (h := h) ha (bd_add hb hc) (by decide)
  have q8 := fun h => c_times (k := k + 3) (h := h) (bd_mul ha hb) hc (by decide)
  have q9 := fun h => c_times (k := k + 3) (h := h) hb hc (by decide)
  have r1 := fun h => c_times (k := k + 3) (h := h) ha (bd_mul hb hc) (by decide)
  have r2 := fun h => c_times (k := k + 3) (h := h) ha (bd_add hb hc) (by decide)
  have r3 := fun h => c_times (k := k + 3) (h := h) ha hc (by decide)
  have r4 := fun h => c_plus (k := k + 3) (h := h) (bd_mul ha hb) (bd_mul ha hc) (by decide)
  have r5 := fun h => c_minus (k := k + 3) (h := h) (bd_add ha hb) hb (by decide)
  have r6 := fun h => c_minus (k := k + 3) (h := h) ha hb (by decide)
  have r7 := fun h => c_plus (k := k + 3) (h := h) (bd_sub ha hb) hb (by decide)
  have r8 := fun h => c_minus (k := k + 3) (h := h) ha ha (by decide)
  have o1 := fun h => c_order_right (k := k + 1) (h := h) ha hb hc
  have e1 : b + a = a + b := by grind
  have e2 : b * a = a * b := by grind
  have e3 : a + (b + c) = a + b + c := by grind
  have e4 : a * (b * c) = a * b * c := by grind
  have e5 : a * (b + c) = a * b + a * c := by grind
  have e6 : a + b - b = a := by grind
  have e7 : a - b + b = a := by grind
  have e8 : a - a = 0 := by grind
  rw [e1] at q2
  rw [e2] at q4
  rw [e3] at q7
  rw [e4] at r1
  rw [e5] at r2
  rw [e6] at r5
  rw [e7] at r7
  rw [e8] at r8
  by_cases hz : b = 0
  · simp only [q1, q2, q3, q4, q5, q6, q7, q8, q9, r1, r2, r3, r4, r5, r6, r7, r8, o1, ne_fr, t01, decide_true, decide_eq_true hz, exec_asg', exec_par', exec_expr', exec_ret', exec_retN', exec_ife', exec_whl', exec_for', exec_brk', exec_cont', exec_skip', exec_seq', ev_con', ev_var', ev_tup', ev_lst', ev_bin', ev_neg', ev_not', ev_cmp', ev_chain', ev_and', ev_or', ev_ite', ev_call', ev_bi', ev_isi', ev_ix', ev_sl', ev_comp', evs_nil', evs_cons', evo_none', evo_some', test_not', test_and', test_or', test_cmp', test_chain', test_var', test_con', test_call', test_bi', test_isi', test_ix', evi_seq', evi_rng1', evi_rng2', evi_enum', evi_zip', asgn_name', asgn_sub', asgn_tupT', asgns_nil', asgns_cons', bnd_ok, bndS_ok, thenS_nx, thenS_rt, noExc_ok, optR_some, getE_zero, getE_succ, toBool_bl, toInt_int, endOf_rt, endOf_nx, add_int, sub_int, lt_int, le_int, gt_int, ge_int, eq_int, ne_int, abs_int, int_int, int_bl, neg_int, ix2_0, ix2_1, len_tup, parSet, List.set, List.map, isTy, kd, isK, if_true, Bool.not_false, Bool.not_true, if_false_bool, PySem.sizeLine_eq, List.length_cons, List.length_nil, List.length, reduceCtorEq, if_false, Nat.reduceAdd, Nat.reduceLeDiff]
  · have s1 := fun h => c_over (k := k + 3) (h := h) ha hb (by decide) hz
    have s2 := fun h => c_times (k := k + 3) (h := h) (bd_div ha hb hz) hb (by decide)
    have s3 := fun h => c_over (k := k + 3) (h := h) (bd_mul ha hb) hb (by decide) hz
    have e9 : a / b * b = a := by grind
    have e10 : a * b / b = a := by grind
    rw [e9] at s2
    rw [e10] at s3
    simp only [q1, q2, q3, q4, q5, q6, q7, q8, q9, r1, r2, r3, r4, r5, r6, r7, r8, s1, s2, s3, o1, ne_fr, t01, decide_true, decide_eq_false hz, exec_asg', exec_par', exec_expr', exec_ret', exec_retN', exec_ife', exec_whl', exec_for', exec_brk', exec_cont', exec_skip', exec_seq', ev_con', ev_var', ev_tup', ev_lst', ev_bin', ev_neg', ev_not', ev_cmp', ev_chain', ev_and', ev_or', ev_ite', ev_call', ev_bi', ev_isi', ev_ix', ev_sl', ev_comp', evs_nil', evs_cons', evo_none', evo_some', test_not', test_and', test_or', test_cmp', test_chain', test_var', test_con', test_call', test_bi', test_isi', test_ix', evi_seq', evi_rng1', evi_rng2', evi_enum', evi_zip', asgn_name', asgn_sub', asgn_tupT', asgns_nil', asgns_cons', bnd_ok, bndS_ok, thenS_nx, thenS_rt, noExc_ok, optR_some, getE_zero, getE_succ, toBool_bl, toInt_int, endOf_rt, endOf_nx, add_int, sub_int, lt_int, le_int, gt_int, ge_int, eq_int, ne_int, abs_int, int_int, int_bl, neg_int, ix2_0, ix2_1, len_tup, parSet, List.set, List.map, isTy, kd, isK, if_true, Bool.not_false, Bool.not_true, if_false_bool, PySem.sizeLine_eq, List.length_cons, List.length_nil, List.length, reduceCtorEq, if_false, Nat.reduceAdd, Nat.reduceLeDiff]
theorem c_three {p n : Nat} {s t x3 x4 x5 x6 : Option D} (hp : Pen n h p) (hn : n < 700000) : ∃ a b c h', Bd 100 a ∧ Bd 100 b ∧ Bd 100 c ∧ Pen (n + 12) h' p ∧
    exec (callF fs (k + 7)) (.asg (.tup (.cons (.name 3) (.cons (.name 4) (.cons (.name 5) .nil)))) (.comp (.rng1 (.con (.int 3))) (.name 6) (.con (.bl true)) (.call 67 (.cons (.call 12 (.cons (.var 1) .nil)) .nil)) [6])) [s, some (.ref p), t, x3, x4, x5, x6] h
      = .nx [s, some (.ref p), t, some (fr a), some (fr b), some (fr c), x6] h' := by
  obtain ⟨h1, e1, p1, o1⟩ := c_anew (k := k + 6) hp
  obtain ⟨a, h2, e2, ba, p2, o2⟩ := c_drawn (k := k + 3) p1 (by omega)
  obtain ⟨h3, e3, p3, o3⟩ := c_anew (k := k + 6) p2
  obtain ⟨b, h4, e4, bb, p4, o4⟩ := c_drawn (k := k + 3) p3 (by omega)
  obtain ⟨h5, e5, p5, o5⟩ := c_anew (k := k + 6) p4
  obtain ⟨c, h6, e6, bc, p6, o6⟩ := c_drawn (k := k + 3) p5 (by omega)
  refine ⟨a, b, c, h6 ++ [.lst [fr a, fr b, fr c]], ba, bb, bc, Pen.app (Pen.mono p6 (by omega)), ?_⟩
  have r3 : ∀ h, rngIt 0 (.int 3) h = .ok (.rng 0 3) h := fun h => rng_it (a := 3) (by decide)
  have rl : rngL 0 3 = [.int 0, .int 1, .int 2] := rfl
  have sq : seqOf (h6 ++ [.lst [fr a, fr b, fr c]]) (.ref h6.length) = some [fr a, fr b, fr c] := lst_at1
  have at_ : ∀ en, asgn (callF fs (k + 7)) (.tup (.cons (.name 3) (.cons (.name 4) (.cons (.name 5) .nil)))) (.ref h6.length) en (h6 ++ [.lst [fr a, fr b, fr c]]) = asgns (callF fs (k + 7)) (.cons (.name 3) (.cons (.name 4) (.cons (.name 5) .nil))) [fr a, fr b, fr c] en (h6 ++ [.lst [fr a, fr b, fr c]]) := fun en => by
    rw [asgn_tup]
    show optR (seqOf _ _) _ = _
    rw [sq]
    rfl
  simp only [exec_asg', ev_comp', evi_rng1', ev_con', bnd_ok, r3]
  rw [comp_rng (by decide), rl]
  simp only [compList, wipeE, asgn_name', test_true', ev_call', evs_cons', evs_nil', ev_var', List.set, getE_zero, getE_succ, optR_some, bnd_ok, e1, e2, e3, e4, e5, e6, if_true, List.length_nil, List.length_cons, List.nil_append, List.cons_append, PySem.sizeLine_eq, Nat.reduceAdd, Nat.reduceLT, Nat.lt_eq, noExc_ok, bndS_ok, at_, asgns_cons', asgns_nil']
end L_onenumber_k06_whole_arithmetic

set_option Elab.async false
set_option linter.all false
set_option maxRecDepth 100000
set_option maxHeartbeats 4000000
set_option exponentiation.threshold 100000
namespace L_onenumber_k06_whole_arithmetic
open PD PySem
variable {k : Nat} {h : Hh}
def lawTurn : Sx := (.seq (.asg (.tup (.cons (.name 3) (.cons (.name 4) (.cons (.name 5) .nil)))) (.comp (.rng1 (.con (.int 3))) (.name 6) (.con (.bl true)) (.call 67 (.cons (.call 12 (.cons (.var 1) .nil)) .nil)) [6])) (.seq (.ife (.or (.cmp .NotEq (.call 662 (.cons (.var 3) (.cons (.var 4) .nil))) (.call 662 (.cons (.var 4) (.cons (.var 3) .nil)))) (.cmp .NotEq (.call 720 (.cons (.var 3) (.cons (.var 4) .nil))) (.call 720 (.cons (.var 4) (.cons (.var 3) .nil))))) (.seq (.ret (.con (.bl false))) .skip) .skip) (.seq (.ife (.cmp .NotEq (.call 662 (.cons (.call 662 (.cons (.var 3) (.cons (.var 4) .nil))) (.cons (.var 5) .nil))) (.call 662 (.cons (.var 3) (.cons (.call 662 (.cons (.var 4) (.cons (.var 5) .nil))) .nil)))) (.seq (.ret (.con (.bl false))) .skip) .skip) (.seq (.ife (.cmp .NotEq (.call 720 (.cons (.call 720 (.cons (.var 3) (.cons (.var 4) .nil))) (.cons (.var 5) .nil))) (.call 720 (.cons (.var 3) (.cons (.call 720 (.cons (.var 4) (.cons (.var 5) .nil))) .nil)))) (.seq (.ret (.con (.bl false))) .skip) .skip) (.seq (.ife (.cmp .NotEq (.call 720 (.cons (.var 3) (.cons (.call 662 (.cons (.var 4) (.cons (.var 5) .nil))) .nil))) (.call 662 (.cons (.call 720 (.cons (.var 3) (.cons (.var 4) .nil))) (.cons (.call 720 (.cons (.var 3) (.cons (.var 5) .nil))) .nil)))) (.seq (.ret (.con (.bl false))) .skip) .skip) (.seq (.ife (.or (.cmp .NotEq (.call 575 (.cons (.call 662 (.cons (.var 3) (.cons (.var 4) .nil))) (.cons (.var 4) .nil))) (.var 3)) (.cmp .NotEq (.call 662 (.cons (.call 575 (.cons (.var 3) (.cons (.var 4) .nil))) (.cons (.var 4) .nil))) (.var 3))) (.seq (.ret (.con (.bl false))) .skip) .skip) (.seq (.ife (.cmp .NotEq (.call 575 (.cons (.var 3) (.cons (.var 3) .nil))) (.tup (.cons (.con (.int 0)) (.cons (.con (.int 1)) .nil)))) (.seq (.ret (.con (.bl false))) .skip) .skip) (.seq (.ife (.and (.cmp .NotEq (.var 4) (.tup (.cons (.con (.int 0)) (.cons (.con (.int 1)) .nil)))) (.cmp .NotEq (.call 720 (.cons (.call 639 (.cons (.var 3) (.cons (.var 4) .nil))) (.cons (.var 4) .nil))) (.var 3))) (.seq (.ret (.con (.bl false))) .skip) .skip) (.seq (.ife (.and (.cmp .NotEq (.var 4) (.tup (.cons (.con (.int 0)) (.cons (.con (.int 1)) .nil)))) (.cmp .NotEq (.call 639 (.cons (.call 720 (.cons (.var 3) (.cons (.var 4) .nil))) (.cons (.var 4) .nil))) (.var 3))) (.seq (.ret (.con (.bl false))) .skip) .skip) (.seq (.ife (.not (.call 233 (.cons (.var 3) (.cons (.var 4) (.cons (.var 5) .nil))))) (.seq (.ret (.con (.bl false))) .skip) .skip) .skip))))))))))
theorem c_turn {p n : Nat} {s t x3 x4 x5 x6 : Option D} (hp : Pen n h p) (hn : n < 700000) : ∃ y3 y4 y5 h', Pen (n + 12) h' p ∧
    exec (callF fs (k + 7)) lawTurn [s, some (.ref p), t, x3, x4, x5, x6] h = .nx [s, some (.ref p), t, y3, y4, y5, x6] h' := by
  obtain ⟨a, b, c, h', ba, bb, bc, hp', e⟩ := c_three (k := k) (s := s) (t := t) (x3 := x3) (x4 := x4) (x5 := x5) (x6 := x6) hp hn
  refine ⟨some (fr a), some (fr b), some (fr c), h', hp', ?_⟩
  unfold lawTurn
  rw [exec_seq', e, thenS_nx]
  exact c_checks ba bb bc
theorem t12 : D.tup [.int 1, .int 2] = fr (mkRat 1 2) := fr_of (by decide +kernel) (by decide +kernel)
theorem t13 : D.tup [.int 1, .int 3] = fr (mkRat 1 3) := fr_of (by decide +kernel) (by decide +kernel)
theorem t56 : D.tup [.int 5, .int 6] = fr (mkRat 5 6) := fr_of (by decide +kernel) (by decide +kernel)
theorem t34 : D.tup [.int (-3), .int 4] = fr (mkRat (-3) 4) := fr_of (by decide +kernel) (by decide +kernel)
theorem t23 : D.tup [.int (-2), .int 3] = fr (mkRat (-2) 3) := fr_of (by decide +kernel) (by decide +kernel)
theorem e56 : (mkRat 1 2 + mkRat 1 3 : Rat) = mkRat 5 6 := by decide +kernel
theorem e23 : (mkRat 1 2 / mkRat (-3) 4 : Rat) = mkRat (-2) 3 := by decide +kernel
theorem law_any {ns : List Int} (hl : ns.length ≤ 63) : ∃ h', callF fs (k + 8) 556 [.scr ns] [] = .ok (.bl true) h' := by
  rw [callF_succ (f := f_law) rfl rfl]
  obtain ⟨h0, p, e0, p0⟩ := c_open (k := k + 6) hl
  have e0 : callF fs (k + 7) 227 [D.scr ns] [] = R.ok (D.ref p) h0 := e0
  obtain ⟨a3, a4, a5, h1, p1, e1⟩ := c_turn (k := k) (s := some (.scr ns)) (t := some (.int 0)) (x3 := none) (x4 := none) (x5 := none) (x6 := none) p0 (by omega)
  obtain ⟨b3, b4, b5, h2, p2, e2⟩ := c_turn (k := k) (s := some (.scr ns)) (t := some (.int 1)) (x3 := a3) (x4 := a4) (x5 := a5) (x6 := none) p1 (by omega)
  obtain ⟨c3, c4, c5, h3, p3, e3⟩ := c_turn (k := k) (s := some (.scr ns)) (t := some (.int 2)) (x3 := b3) (x4 := b4) (x5 := b5) (x6 := none) p2 (by omega)
  obtain ⟨d3, d4, d5, h4, p4, e4⟩ := c_turn (k := k) (s := some (.scr ns)) (t := some (.int 3)) (x3 := c3) (x4 := c4) (x5 := c5) (x6 := none) p3 (by omega)
  refine ⟨h4, ?_⟩
  have r4 : ∀ h, rngIt 0 (.int 4) h = .ok (.rng 0 4) h := fun h => rng_it (a := 4) (by decide)
  have rl : rngL 0 4 = [.int 0, .int 1, .int 2, .int 3] := rfl
  have w1 : Bd 2 (mkRat 1 2) := by unfold Bd; decide +kernel
  have w2 : Bd 2 (mkRat 1 3) := by unfold Bd; decide +kernel
  have w3 : Bd 3 (mkRat (-3) 4) := by unfold Bd; decide +kernel
  have w4 : mkRat (-3) 4 ≠ (0 : Rat) := by decide +kernel
  have q1 := fun h => c_plus (k := k + 3) (h := h) w1 w2 (by decide)
  have q2 := fun h => c_over (k := k + 3) (h := h) w1 w3 (by decide) w4
  rw [e56] at q1
  rw [e23] at q2
  show endOf (exec (callF fs (k + 7)) (.seq _ (.seq (.for_ _ _ lawTurn) _)) _ _) = _
  simp only [startE, f_law, List.map, List.nil_append, List.cons_append, Nat.reduceAdd, Nat.reduceSub, List.replicate, List.append_nil, List.nil_append, List.length_cons, List.length_nil, exec_seq', exec_asg', ev_call', evs_cons', evs_nil', ev_var', getE_zero, optR_some, bnd_ok, bndS_ok, asgn_name', List.set, e0, noExc_ok, thenS_nx, exec_for', evi_rng1', ev_con', r4]
  rw [for_rng (by decide), rl]
  simp only [forList_cons, forList_nil, asgn_name', List.set, noExc_ok, bndS_ok, turnEnd_nx, e1, e2, e3, e4, thenS_nx]
  simp only [q1, q2, t12, t13, t56, t34, t23, eq_fr, decide_true, exec_asg', exec_par', exec_expr', exec_ret', exec_retN', exec_ife', exec_whl', exec_for', exec_brk', exec_cont', exec_skip', exec_seq', ev_con', ev_var', ev_tup', ev_lst', ev_bin', ev_neg', ev_not', ev_cmp', ev_chain', ev_and', ev_or', ev_ite', ev_call', ev_bi', ev_isi', ev_ix', ev_sl', ev_comp', evs_nil', evs_cons', evo_none', evo_some', test_not', test_and', test_or', test_cmp', test_chain', test_var', test_con', test_call', test_bi', test_isi', test_ix', evi_seq', evi_rng1', evi_rng2', evi_enum', evi_zip', asgn_name', asgn_sub', asgn_tupT', asgns_nil', asgns_cons', bnd_ok, bndS_ok, thenS_nx, thenS_rt, noExc_ok, optR_some, getE_zero, getE_succ, toBool_bl, toInt_int, endOf_rt, endOf_nx, add_int, sub_int, lt_int, le_int, gt_int, ge_int, eq_int, ne_int, abs_int, int_int, int_bl, neg_int, ix2_0, ix2_1, len_tup, parSet, List.set, List.map, isTy, kd, isK, if_true, Bool.not_false, Bool.not_true, if_false_bool, PySem.sizeLine_eq, List.length_cons, List.length_nil, List.length, reduceCtorEq, if_false, Nat.reduceAdd, Nat.reduceLeDiff]
theorem law_ok (ns : List Int) (h : ns.length ≤ 63) : ∃ h', callF fs 40 556 [.scr ns] [] = .ok (.bl true) h' := law_any (k := 32) h
end L_onenumber_k06_whole_arithmetic

namespace L_onenumber_k06_whole_arithmetic
open PD PySem PySem.Spec PyProof.Rows L2
theorem all_mk {P : Program} {w : World} {K : PySem.W.Frag} {h : Heap} {mg : Str → Option Value} {fa : Addr} (X : K.In h) (G : h.Ns mainGlobals mg) (hfa : mg "law" = some (.ref fa))
    {f0 : Addr} {od0 an0 : Option Addr} {sl0 : Array (Option Value)} {oc0 kV0 dc0 pm0 cd0 ct0 : Value}
    {f1 : Addr} {od1 an1 : Option Addr} {sl1 : Array (Option Value)} {oc1 kV1 dc1 pm1 cd1 ct1 : Value}
    {f2 : Addr} {od2 an2 : Option Addr} {sl2 : Array (Option Value)} {oc2 kV2 dc2 pm2 cd2 ct2 : Value}
    {f3 : Addr} {od3 an3 : Option Addr} {sl3 : Array (Option Value)} {oc3 kV3 dc3 pm3 cd3 ct3 : Value}
    {f4 : Addr} {od4 an4 : Option Addr} {sl4 : Array (Option Value)} {oc4 kV4 dc4 pm4 cd4 ct4 : Value}
    {f5 : Addr} {od5 an5 : Option Addr} {sl5 : Array (Option Value)} {oc5 kV5 dc5 pm5 cd5 ct5 : Value}
    {f6 : Addr} {od6 an6 : Option Addr} {sl6 : Array (Option Value)} {oc6 kV6 dc6 pm6 cd6 ct6 : Value}
    {f7 : Addr} {od7 an7 : Option Addr} {sl7 : Array (Option Value)} {oc7 kV7 dc7 pm7 cd7 ct7 : Value}
    {f8 : Addr} {od8 an8 : Option Addr} {sl8 : Array (Option Value)} {oc8 kV8 dc8 pm8 cd8 ct8 : Value}
    {f9 : Addr} {od9 an9 : Option Addr} {sl9 : Array (Option Value)} {oc9 kV9 dc9 pm9 cd9 ct9 : Value}
    {f10 : Addr} {od10 an10 : Option Addr} {sl10 : Array (Option Value)} {oc10 kV10 dc10 pm10 cd10 ct10 : Value}
    {f11 : Addr} {od11 an11 : Option Addr} {sl11 : Array (Option Value)} {oc11 kV11 dc11 pm11 cd11 ct11 : Value}
    {f12 : Addr} {od12 an12 : Option Addr} {sl12 : Array (Option Value)} {oc12 kV12 dc12 pm12 cd12 ct12 : Value}
    {f13 : Addr} {od13 an13 : Option Addr} {sl13 : Array (Option Value)} {oc13 kV13 dc13 pm13 cd13 ct13 : Value}
    {f14 : Addr} {od14 an14 : Option Addr} {sl14 : Array (Option Value)} {oc14 kV14 dc14 pm14 cd14 ct14 : Value}
    {f15 : Addr} {od15 an15 : Option Addr} {sl15 : Array (Option Value)} {oc15 kV15 dc15 pm15 cd15 ct15 : Value}
    {f16 : Addr} {od16 an16 : Option Addr} {sl16 : Array (Option Value)} {oc16 kV16 dc16 pm16 cd16 ct16 : Value}
    {f17 : Addr} {od17 an17 : Option Addr} {sl17 : Array (Option Value)} {oc17 kV17 dc17 pm17 cd17 ct17 : Value}
    {f18 : Addr} {od18 an18 : Option Addr} {sl18 : Array (Option Value)} {oc18 kV18 dc18 pm18 cd18 ct18 : Value}
    {f19 : Addr} {od19 an19 : Option Addr} {sl19 : Array (Option Value)} {oc19 kV19 dc19 pm19 cd19 ct19 : Value}
    {f20 : Addr} {od20 an20 : Option Addr} {sl20 : Array (Option Value)} {oc20 kV20 dc20 pm20 cd20 ct20 : Value}
    {f21 : Addr} {od21 an21 : Option Addr} {sl21 : Array (Option Value)} {oc21 kV21 dc21 pm21 cd21 ct21 : Value}
    {f22 : Addr} {od22 an22 : Option Addr} {sl22 : Array (Option Value)} {oc22 kV22 dc22 pm22 cd22 ct22 : Value}
    {f23 : Addr} {od23 an23 : Option Addr} {sl23 : Array (Option Value)} {oc23 kV23 dc23 pm23 cd23 ct23 : Value}
    {f24 : Addr} {od24 an24 : Option Addr} {sl24 : Array (Option Value)} {oc24 kV24 dc24 pm24 cd24 ct24 : Value}
    {f25 : Addr} {od25 an25 : Option Addr} {sl25 : Array (Option Value)} {oc25 kV25 dc25 pm25 cd25 ct25 : Value}
    {g0 : Addr}
    {t_g0_0 : Tok}
    {t_g0_1 : Tok}
    {dd_g0 : Option Addr} {nn_g0 : Nat} {ss_g0 : Array (Option Value)}
    (a0 : PySem.W.nsIn K mainGlobals "is_integer" = some (some (.ref f0))) (l0 : K.lookup f0 = some ⟨oc0, od0, .func (PySem.W.fnOf "is_integer" "is_integer" (defArgs (topS 5)) (defBody (topS 5)) (defScope (topS 5)) .none kV0 dc0 pm0 an0 cd0 ct0), sl0⟩) (c0 : PySem.W.codeIn K cd0 "is_integer" = true) (k0 : PySem.W.keepIn K (.ref f0) = true)
    (a1 : PySem.W.nsIn K mainGlobals "divisor_of" = some (some (.ref f1))) (l1 : K.lookup f1 = some ⟨oc1, od1, .func (PySem.W.fnOf "divisor_of" "divisor_of" (defArgs (topS 6)) (defBody (topS 6)) (defScope (topS 6)) .none kV1 dc1 pm1 an1 cd1 ct1), sl1⟩) (c1 : PySem.W.codeIn K cd1 "divisor_of" = true) (k1 : PySem.W.keepIn K (.ref f1) = true)
    (a2 : PySem.W.nsIn K mainGlobals "is_fraction" = some (some (.ref f2))) (l2 : K.lookup f2 = some ⟨oc2, od2, .func (PySem.W.fnOf "is_fraction" "is_fraction" (defArgs (topS 7)) (defBody (topS 7)) (defScope (topS 7)) .none kV2 dc2 pm2 an2 cd2 ct2), sl2⟩) (c2 : PySem.W.codeIn K cd2 "is_fraction" = true) (k2 : PySem.W.keepIn K (.ref f2) = true)
    (a3 : PySem.W.nsIn K mainGlobals "lowest" = some (some (.ref f3))) (l3 : K.lookup f3 = some ⟨oc3, od3, .func (PySem.W.fnOf "lowest" "lowest" (defArgs (topS 8)) (defBody (topS 8)) (defScope (topS 8)) .none kV3 dc3 pm3 an3 cd3 ct3), sl3⟩) (c3 : PySem.W.codeIn K cd3 "lowest" = true) (k3 : PySem.W.keepIn K (.ref f3) = true)
    (a4 : PySem.W.nsIn K mainGlobals "add" = some (some (.ref f4))) (l4 : K.lookup f4 = some ⟨oc4, od4, .func (PySem.W.fnOf "add" "add" (defArgs (topS 9)) (defBody (topS 9)) (defScope (topS 9)) .none kV4 dc4 pm4 an4 cd4 ct4), sl4⟩) (c4 : PySem.W.codeIn K cd4 "add" = true) (k4 : PySem.W.keepIn K (.ref f4) = true)
    (a5 : PySem.W.nsIn K mainGlobals "less" = some (some (.ref f5))) (l5 : K.lookup f5 = some ⟨oc5, od5, .func (PySem.W.fnOf "less" "less" (defArgs (topS 10)) (defBody (topS 10)) (defScope (topS 10)) .none kV5 dc5 pm5 an5 cd5 ct5), sl5⟩) (c5 : PySem.W.codeIn K cd5 "less" = true) (k5 : PySem.W.keepIn K (.ref f5) = true)
    (a6 : PySem.W.nsIn K mainGlobals "mul" = some (some (.ref f6))) (l6 : K.lookup f6 = some ⟨oc6, od6, .func (PySem.W.fnOf "mul" "mul" (defArgs (topS 11)) (defBody (topS 11)) (defScope (topS 11)) .none kV6 dc6 pm6 an6 cd6 ct6), sl6⟩) (c6 : PySem.W.codeIn K cd6 "mul" = true) (k6 : PySem.W.keepIn K (.ref f6) = true)
    (a7 : PySem.W.nsIn K mainGlobals "div" = some (some (.ref f7))) (l7 : K.lookup f7 = some ⟨oc7, od7, .func (PySem.W.fnOf "div" "div" (defArgs (topS 12)) (defBody (topS 12)) (defScope (topS 12)) .none kV7 dc7 pm7 an7 cd7 ct7), sl7⟩) (c7 : PySem.W.codeIn K cd7 "div" = true) (k7 : PySem.W.keepIn K (.ref f7) = true)
    (a8 : PySem.W.nsIn K mainGlobals "order_of" = some (some (.ref f8))) (l8 : K.lookup f8 = some ⟨oc8, od8, .func (PySem.W.fnOf "order_of" "order_of" (defArgs (topS 13)) (defBody (topS 13)) (defScope (topS 13)) .none kV8 dc8 pm8 an8 cd8 ct8), sl8⟩) (c8 : PySem.W.codeIn K cd8 "order_of" = true) (k8 : PySem.W.keepIn K (.ref f8) = true)
    (a9 : PySem.W.nsIn K mainGlobals "need_fractions" = some (some (.ref f9))) (l9 : K.lookup f9 = some ⟨oc9, od9, .func (PySem.W.fnOf "need_fractions" "need_fractions" (defArgs (topS 14)) (defBody (topS 14)) (defScope (topS 14)) .none kV9 dc9 pm9 an9 cd9 ct9), sl9⟩) (c9 : PySem.W.codeIn K cd9 "need_fractions" = true) (k9 : PySem.W.keepIn K (.ref f9) = true)
    (a10 : PySem.W.nsIn K mainGlobals "fraction" = some (some (.ref f10))) (l10 : K.lookup f10 = some ⟨oc10, od10, .func (PySem.W.fnOf "fraction" "fraction" (defArgs (topS 15)) (defBody (topS 15)) (defScope (topS 15)) .none kV10 dc10 pm10 an10 cd10 ct10), sl10⟩) (c10 : PySem.W.codeIn K cd10 "fraction" = true) (k10 : PySem.W.keepIn K (.ref f10) = true)
    (a11 : PySem.W.nsIn K mainGlobals "plus" = some (some (.ref f11))) (l11 : K.lookup f11 = some ⟨oc11, od11, .func (PySem.W.fnOf "plus" "plus" (defArgs (topS 16)) (defBody (topS 16)) (defScope (topS 16)) .none kV11 dc11 pm11 an11 cd11 ct11), sl11⟩) (c11 : PySem.W.codeIn K cd11 "plus" = true) (k11 : PySem.W.keepIn K (.ref f11) = true)
    (a12 : PySem.W.nsIn K mainGlobals "minus" = some (some (.ref f12))) (l12 : K.lookup f12 = some ⟨oc12, od12, .func (PySem.W.fnOf "minus" "minus" (defArgs (topS 17)) (defBody (topS 17)) (defScope (topS 17)) .none kV12 dc12 pm12 an12 cd12 ct12), sl12⟩) (c12 : PySem.W.codeIn K cd12 "minus" = true) (k12 : PySem.W.keepIn K (.ref f12) = true)
    (a13 : PySem.W.nsIn K mainGlobals "times" = some (some (.ref f13))) (l13 : K.lookup f13 = some ⟨oc13, od13, .func (PySem.W.fnOf "times" "times" (defArgs (topS 18)) (defBody (topS 18)) (defScope (topS 18)) .none kV13 dc13 pm13 an13 cd13 ct13), sl13⟩) (c13 : PySem.W.codeIn K cd13 "times" = true) (k13 : PySem.W.keepIn K (.ref f13) = true)
    (a14 : PySem.W.nsIn K mainGlobals "over" = some (some (.ref f14))) (l14 : K.lookup f14 = some ⟨oc14, od14, .func (PySem.W.fnOf "over" "over" (defArgs (topS 19)) (defBody (topS 19)) (defScope (topS 19)) .none kV14 dc14 pm14 an14 cd14 ct14), sl14⟩) (c14 : PySem.W.codeIn K cd14 "over" = true) (k14 : PySem.W.keepIn K (.ref f14) = true)
    (a15 : PySem.W.nsIn K mainGlobals "compare" = some (some (.ref f15))) (l15 : K.lookup f15 = some ⟨oc15, od15, .func (PySem.W.fnOf "compare" "compare" (defArgs (topS 20)) (defBody (topS 20)) (defScope (topS 20)) .none kV15 dc15 pm15 an15 cd15 ct15), sl15⟩) (c15 : PySem.W.codeIn K cd15 "compare" = true) (k15 : PySem.W.keepIn K (.ref f15) = true)
    (a16 : PySem.W.nsIn K mainGlobals "_law_spread" = some (some (.ref f16))) (l16 : K.lookup f16 = some ⟨oc16, od16, .func (PySem.W.fnOf "_law_spread" "_law_spread" (defArgs (topS 22)) (defBody (topS 22)) (defScope (topS 22)) .none kV16 dc16 pm16 an16 cd16 ct16), sl16⟩) (c16 : PySem.W.codeIn K cd16 "_law_spread" = true) (k16 : PySem.W.keepIn K (.ref f16) = true)
    (a17 : PySem.W.nsIn K mainGlobals "_law_open" = some (some (.ref f17))) (l17 : K.lookup f17 = some ⟨oc17, od17, .func (PySem.W.fnOf "_law_open" "_law_open" (defArgs (topS 23)) (defBody (topS 23)) (defScope (topS 23)) .none kV17 dc17 pm17 an17 cd17 ct17), sl17⟩) (c17 : PySem.W.codeIn K cd17 "_law_open" = true) (k17 : PySem.W.keepIn K (.ref f17) = true)
    (a18 : PySem.W.nsIn K mainGlobals "_law_take" = some (some (.ref f18))) (l18 : K.lookup f18 = some ⟨oc18, od18, .func (PySem.W.fnOf "_law_take" "_law_take" (defArgs (topS 24)) (defBody (topS 24)) (defScope (topS 24)) .none kV18 dc18 pm18 an18 cd18 ct18), sl18⟩) (c18 : PySem.W.codeIn K cd18 "_law_take" = true) (k18 : PySem.W.keepIn K (.ref f18) = true)
    (a19 : PySem.W.nsIn K mainGlobals "_law_anew" = some (some (.ref f19))) (l19 : K.lookup f19 = some ⟨oc19, od19, .func (PySem.W.fnOf "_law_anew" "_law_anew" (defArgs (topS 25)) (defBody (topS 25)) (defScope (topS 25)) .none kV19 dc19 pm19 an19 cd19 ct19), sl19⟩) (c19 : PySem.W.codeIn K cd19 "_law_anew" = true) (k19 : PySem.W.keepIn K (.ref f19) = true)
    (a20 : PySem.W.nsIn K mainGlobals "_law_one" = some (some (.ref f20))) (l20 : K.lookup f20 = some ⟨oc20, od20, .func (PySem.W.fnOf "_law_one" "_law_one" (defArgs (topS 26)) (defBody (topS 26)) (defScope (topS 26)) .none kV20 dc20 pm20 an20 cd20 ct20), sl20⟩) (c20 : PySem.W.codeIn K cd20 "_law_one" = true) (k20 : PySem.W.keepIn K (.ref f20) = true)
    (a21 : PySem.W.nsIn K mainGlobals "_law_common" = some (some (.ref f21))) (l21 : K.lookup f21 = some ⟨oc21, od21, .func (PySem.W.fnOf "_law_common" "_law_common" (defArgs (topS 27)) (defBody (topS 27)) (defScope (topS 27)) .none kV21 dc21 pm21 an21 cd21 ct21), sl21⟩) (c21 : PySem.W.codeIn K cd21 "_law_common" = true) (k21 : PySem.W.keepIn K (.ref f21) = true)
    (a22 : PySem.W.nsIn K mainGlobals "_law_low" = some (some (.ref f22))) (l22 : K.lookup f22 = some ⟨oc22, od22, .func (PySem.W.fnOf "_law_low" "_law_low" (defArgs (topS 28)) (defBody (topS 28)) (defScope (topS 28)) .none kV22 dc22 pm22 an22 cd22 ct22), sl22⟩) (c22 : PySem.W.codeIn K cd22 "_law_low" = true) (k22 : PySem.W.keepIn K (.ref f22) = true)
    (a23 : PySem.W.nsIn K mainGlobals "_law_drawn" = some (some (.ref f23))) (l23 : K.lookup f23 = some ⟨oc23, od23, .func (PySem.W.fnOf "_law_drawn" "_law_drawn" (defArgs (topS 29)) (defBody (topS 29)) (defScope (topS 29)) .none kV23 dc23 pm23 an23 cd23 ct23), sl23⟩) (c23 : PySem.W.codeIn K cd23 "_law_drawn" = true) (k23 : PySem.W.keepIn K (.ref f23) = true)
    (a24 : PySem.W.nsIn K mainGlobals "_law_order_right" = some (some (.ref f24))) (l24 : K.lookup f24 = some ⟨oc24, od24, .func (PySem.W.fnOf "_law_order_right" "_law_order_right" (defArgs (topS 30)) (defBody (topS 30)) (defScope (topS 30)) .none kV24 dc24 pm24 an24 cd24 ct24), sl24⟩) (c24 : PySem.W.codeIn K cd24 "_law_order_right" = true) (k24 : PySem.W.keepIn K (.ref f24) = true)
    (a25 : PySem.W.nsIn K mainGlobals "law" = some (some (.ref f25))) (l25 : K.lookup f25 = some ⟨oc25, od25, .func (PySem.W.fnOf "law" "law" (defArgs (topS 31)) (defBody (topS 31)) (defScope (topS 31)) .none kV25 dc25 pm25 an25 cd25 ct25), sl25⟩) (c25 : PySem.W.codeIn K cd25 "law" = true) (k25 : PySem.W.keepIn K (.ref f25) = true)
    (z0 : PySem.W.nsIn K mainGlobals "len" = some none)
    (z1 : PySem.W.nsIn K mainGlobals "abs" = some none)
    (z2 : PySem.W.nsIn K mainGlobals "int" = some none)
    (z3 : PySem.W.nsIn K mainGlobals "list" = some none)
    (z4 : PySem.W.nsIn K mainGlobals "tuple" = some none)
    (z5 : PySem.W.nsIn K mainGlobals "all" = some none)
    (z6 : PySem.W.nsIn K mainGlobals "any" = some none)
    (z7 : PySem.W.nsIn K mainGlobals "sum" = some none)
    (z8 : PySem.W.nsIn K mainGlobals "isinstance" = some none)
    (z9 : PySem.W.nsIn K mainGlobals "bool" = some none)
    (z10 : PySem.W.nsIn K mainGlobals "str" = some none)
    (z11 : PySem.W.nsIn K mainGlobals "dict" = some none)
    (z12 : PySem.W.nsIn K mainGlobals "range" = some none)
    (z13 : PySem.W.nsIn K mainGlobals "enumerate" = some none)
    (z14 : PySem.W.nsIn K mainGlobals "zip" = some none)
    (x0 : PySem.W.nsIn K mainGlobals "NOUGHT" = some (some (.ref g0)))
    (y_g0 : K.lookup g0 = some ⟨.type "tuple", dd_g0, .seq [.int 0 t_g0_0, .int 1 t_g0_1].toArray nn_g0, ss_g0⟩)
    : ∃ fd : FuncData, (∀ (s : Shared) (v : Value), BindsTo s fd ⟨[v], []⟩ [("_law_script", v)]) ∧ ∀ base : Heap, K.In base → base.Ns mainGlobals mg → FnOk P w K mg base (L2.CX P w) 40 fa fd ["_law_script"] (spF ⟨K, fun _ => 0⟩ fs 40 556 1) := by
  have e : fa = f25 := by
    have z := hfa.symm.trans (PySem.W.mg_of X G a25)
    cases z
    rfl
  rw [e]
  have A0 : ∃ st a fd, FnAt K mg gt 60 f_is_integer st a fd := ⟨topS 5, f0, _, fun_mk (st := topS 5) l0 c0 k0, PySem.W.mg_of X G a0, (fun_mk (st := topS 5) l0 c0 k0).binds (ps := f_is_integer.ps) (fun _ _ _ _ _ _ us hl => match us, hl with | [_], _ => rfl), sc_is_integer, tr_is_integer⟩
  have A1 : ∃ st a fd, FnAt K mg gt 60 f_divisor_of st a fd := ⟨topS 6, f1, _, fun_mk (st := topS 6) l1 c1 k1, PySem.W.mg_of X G a1, (fun_mk (st := topS 6) l1 c1 k1).binds (ps := f_divisor_of.ps) (fun _ _ _ _ _ _ us hl => match us, hl with | [_, _], _ => rfl), sc_divisor_of, tr_divisor_of⟩
  have A2 : ∃ st a fd, FnAt K mg gt 60 f_is_fraction st a fd := ⟨topS 7, f2, _, fun_mk (st := topS 7) l2 c2 k2, PySem.W.mg_of X G a2, (fun_mk (st := topS 7) l2 c2 k2).binds (ps := f_is_fraction.ps) (fun _ _ _ _ _ _ us hl => match us, hl with | [_], _ => rfl), sc_is_fraction, tr_is_fraction⟩
  have A3 : ∃ st a fd, FnAt K mg gt 60 f_lowest st a fd := ⟨topS 8, f3, _, fun_mk (st := topS 8) l3 c3 k3, PySem.W.mg_of X G a3, (fun_mk (st := topS 8) l3 c3 k3).binds (ps := f_lowest.ps) (fun _ _ _ _ _ _ us hl => match us, hl with | [_, _], _ => rfl), sc_lowest, tr_lowest⟩
  have A4 : ∃ st a fd, FnAt K mg gt 60 f_add st a fd := ⟨topS 9, f4, _, fun_mk (st := topS 9) l4 c4 k4, PySem.W.mg_of X G a4, (fun_mk (st := topS 9) l4 c4 k4).binds (ps := f_add.ps) (fun _ _ _ _ _ _ us hl => match us, hl with | [_, _], _ => rfl), sc_add, tr_add⟩
  have A5 : ∃ st a fd, FnAt K mg gt 60 f_less st a fd := ⟨topS 10, f5, _, fun_mk (st := topS 10) l5 c5 k5, PySem.W.mg_of X G a5, (fun_mk (st := topS 10) l5 c5 k5).binds (ps := f_less.ps) (fun _ _ _ _ _ _ us hl => match us, hl with | [_, _], _ => rfl), sc_less, tr_less⟩
  have A6 : ∃ st a fd, FnAt K mg gt 60 f_mul st a fd := ⟨topS 11, f6, _, fun_mk (st := topS 11) l6 c6 k6, PySem.W.mg_of X G a6, (fun_mk (st := topS 11) l6 c6 k6).binds (ps := f_mul.ps) (fun _ _ _ _ _ _ us hl => match us, hl with | [_, _], _ => rfl), sc_mul, tr_mul⟩
  have A7 : ∃ st a fd, FnAt K mg gt 60 f_div st a fd := ⟨topS 12, f7, _, fun_mk (st := topS 12) l7 c7 k7, PySem.W.mg_of X G a7, (fun_mk (st := topS 12) l7 c7 k7).binds (ps := f_div.ps) (fun _ _ _ _ _ _ us hl => match us, hl with | [_, _], _ => rfl), sc_div, tr_div⟩
  have A8 : ∃ st a fd, FnAt K mg gt 60 f_order_of st a fd := ⟨topS 13, f8, _, fun_mk (st := topS 13) l8 c8 k8, PySem.W.mg_of X G a8, (fun_mk (st := topS 13) l8 c8 k8).binds (ps := f_order_of.ps) (fun _ _ _ _ _ _ us hl => match us, hl with | [_, _], _ => rfl), sc_order_of, tr_order_of⟩
  have A9 : ∃ st a fd, FnAt K mg gt 60 f_need_fractions st a fd := ⟨topS 14, f9, _, fun_mk (st := topS 14) l9 c9 k9, PySem.W.mg_of X G a9, (fun_mk (st := topS 14) l9 c9 k9).binds (ps := f_need_fractions.ps) (fun _ _ _ _ _ _ us hl => match us, hl with | [_], _ => rfl), sc_need_fractions, tr_need_fractions⟩
  have A10 : ∃ st a fd, FnAt K mg gt 60 f_fraction st a fd := ⟨topS 15, f10, _, fun_mk (st := topS 15) l10 c10 k10, PySem.W.mg_of X G a10, (fun_mk (st := topS 15) l10 c10 k10).binds (ps := f_fraction.ps) (fun _ _ _ _ _ _ us hl => match us, hl with | [_, _], _ => rfl), sc_fraction, tr_fraction⟩
  have A11 : ∃ st a fd, FnAt K mg gt 60 f_plus st a fd := ⟨topS 16, f11, _, fun_mk (st := topS 16) l11 c11 k11, PySem.W.mg_of X G a11, (fun_mk (st := topS 16) l11 c11 k11).binds (ps := f_plus.ps) (fun _ _ _ _ _ _ us hl => match us, hl with | [_, _], _ => rfl), sc_plus, tr_plus⟩
  have A12 : ∃ st a fd, FnAt K mg gt 60 f_minus st a fd := ⟨topS 17, f12, _, fun_mk (st := topS 17) l12 c12 k12, PySem.W.mg_of X G a12, (fun_mk (st := topS 17) l12 c12 k12).binds (ps := f_minus.ps) (fun _ _ _ _ _ _ us hl => match us, hl with | [_, _], _ => rfl), sc_minus, tr_minus⟩
  have A13 : ∃ st a fd, FnAt K mg gt 60 f_times st a fd := ⟨topS 18, f13, _, fun_mk (st := topS 18) l13 c13 k13, PySem.W.mg_of X G a13, (fun_mk (st := topS 18) l13 c13 k13).binds (ps := f_times.ps) (fun _ _ _ _ _ _ us hl => match us, hl with | [_, _], _ => rfl), sc_times, tr_times⟩
  have A14 : ∃ st a fd, FnAt K mg gt 60 f_over st a fd := ⟨topS 19, f14, _, fun_mk (st := topS 19) l14 c14 k14, PySem.W.mg_of X G a14, (fun_mk (st := topS 19) l14 c14 k14).binds (ps := f_over.ps) (fun _ _ _ _ _ _ us hl => match us, hl with | [_, _], _ => rfl), sc_over, tr_over⟩
  have A15 : ∃ st a fd, FnAt K mg gt 60 f_compare st a fd := ⟨topS 20, f15, _, fun_mk (st := topS 20) l15 c15 k15, PySem.W.mg_of X G a15, (fun_mk (st := topS 20) l15 c15 k15).binds (ps := f_compare.ps) (fun _ _ _ _ _ _ us hl => match us, hl with | [_, _], _ => rfl), sc_compare, tr_compare⟩
  have A16 : ∃ st a fd, FnAt K mg gt 60 f_law_spread st a fd := ⟨topS 22, f16, _, fun_mk (st := topS 22) l16 c16 k16, PySem.W.mg_of X G a16, (fun_mk (st := topS 22) l16 c16 k16).binds (ps := f_law_spread.ps) (fun _ _ _ _ _ _ us hl => match us, hl with | [_, _], _ => rfl), sc_law_spread, tr_law_spread⟩
  have A17 : ∃ st a fd, FnAt K mg gt 60 f_law_open st a fd := ⟨topS 23, f17, _, fun_mk (st := topS 23) l17 c17 k17, PySem.W.mg_of X G a17, (fun_mk (st := topS 23) l17 c17 k17).binds (ps := f_law_open.ps) (fun _ _ _ _ _ _ us hl => match us, hl with | [_], _ => rfl), sc_law_open, tr_law_open⟩
  have A18 : ∃ st a fd, FnAt K mg gt 60 f_law_take st a fd := ⟨topS 24, f18, _, fun_mk (st := topS 24) l18 c18 k18, PySem.W.mg_of X G a18, (fun_mk (st := topS 24) l18 c18 k18).binds (ps := f_law_take.ps) (fun _ _ _ _ _ _ us hl => match us, hl with | [_, _], _ => rfl), sc_law_take, tr_law_take⟩
  have A19 : ∃ st a fd, FnAt K mg gt 60 f_law_anew st a fd := ⟨topS 25, f19, _, fun_mk (st := topS 25) l19 c19 k19, PySem.W.mg_of X G a19, (fun_mk (st := topS 25) l19 c19 k19).binds (ps := f_law_anew.ps) (fun _ _ _ _ _ _ us hl => match us, hl with | [_], _ => rfl), sc_law_anew, tr_law_anew⟩
  have A20 : ∃ st a fd, FnAt K mg gt 60 f_law_one st a fd := ⟨topS 26, f20, _, fun_mk (st := topS 26) l20 c20 k20, PySem.W.mg_of X G a20, (fun_mk (st := topS 26) l20 c20 k20).binds (ps := f_law_one.ps) (fun _ _ _ _ _ _ us hl => match us, hl with | [_, _], _ => rfl), sc_law_one, tr_law_one⟩
  have A21 : ∃ st a fd, FnAt K mg gt 60 f_law_common st a fd := ⟨topS 27, f21, _, fun_mk (st := topS 27) l21 c21 k21, PySem.W.mg_of X G a21, (fun_mk (st := topS 27) l21 c21 k21).binds (ps := f_law_common.ps) (fun _ _ _ _ _ _ us hl => match us, hl with | [_, _], _ => rfl), sc_law_common, tr_law_common⟩
  have A22 : ∃ st a fd, FnAt K mg gt 60 f_law_low st a fd := ⟨topS 28, f22, _, fun_mk (st := topS 28) l22 c22 k22, PySem.W.mg_of X G a22, (fun_mk (st := topS 28) l22 c22 k22).binds (ps := f_law_low.ps) (fun _ _ _ _ _ _ us hl => match us, hl with | [_, _], _ => rfl), sc_law_low, tr_law_low⟩
  have A23 : ∃ st a fd, FnAt K mg gt 60 f_law_drawn st a fd := ⟨topS 29, f23, _, fun_mk (st := topS 29) l23 c23 k23, PySem.W.mg_of X G a23, (fun_mk (st := topS 29) l23 c23 k23).binds (ps := f_law_drawn.ps) (fun _ _ _ _ _ _ us hl => match us, hl with | [_], _ => rfl), sc_law_drawn, tr_law_drawn⟩
  have A24 : ∃ st a fd, FnAt K mg gt 60 f_law_order_right st a fd := ⟨topS 30, f24, _, fun_mk (st := topS 30) l24 c24 k24, PySem.W.mg_of X G a24, (fun_mk (st := topS 30) l24 c24 k24).binds (ps := f_law_order_right.ps) (fun _ _ _ _ _ _ us hl => match us, hl with | [_, _, _], _ => rfl), sc_law_order_right, tr_law_order_right⟩
  have A25 : ∃ st a fd, FnAt K mg gt 60 f_law st a fd := ⟨topS 31, f25, _, fun_mk (st := topS 31) l25 c25 k25, PySem.W.mg_of X G a25, (fun_mk (st := topS 31) l25 c25 k25).binds (ps := f_law.ps) (fun _ _ _ _ _ _ us hl => match us, hl with | [_], _ => rfl), sc_law, tr_law⟩
  have M : ModAt K mg gt fs ⟨K, fun _ => 0⟩ 60 := mod_at rfl (by decide) ⟨⟨_, .ref g0, PySem.W.mg_of X G x0, rfl, fun _ _ => (rep_tupK [.int 0, .int 1] y_g0 (.cons ⟨_, rfl⟩ (.cons ⟨_, rfl⟩ .nil)) (by show 2 ≤ sizeLine; decide) (.cons (.int _) (.cons (.int _) .nil)))⟩, trivial⟩ ⟨PySem.W.mg_none_of X G z0, ⟨PySem.W.mg_none_of X G z1, ⟨PySem.W.mg_none_of X G z2, ⟨PySem.W.mg_none_of X G z3, ⟨PySem.W.mg_none_of X G z4, ⟨PySem.W.mg_none_of X G z5, ⟨PySem.W.mg_none_of X G z6, ⟨PySem.W.mg_none_of X G z7, ⟨PySem.W.mg_none_of X G z8, ⟨PySem.W.mg_none_of X G z9, ⟨PySem.W.mg_none_of X G z10, ⟨PySem.W.mg_none_of X G z11, ⟨PySem.W.mg_none_of X G z12, ⟨PySem.W.mg_none_of X G z13, ⟨PySem.W.mg_none_of X G z14, trivial⟩⟩⟩⟩⟩⟩⟩⟩⟩⟩⟩⟩⟩⟩⟩ ⟨A0, ⟨A1, ⟨A2, ⟨A3, ⟨A4, ⟨A5, ⟨A6, ⟨A7, ⟨A8, ⟨A9, ⟨A10, ⟨A11, ⟨A12, ⟨A13, ⟨A14, ⟨A15, ⟨A16, ⟨A17, ⟨A18, ⟨A19, ⟨A20, ⟨A21, ⟨A22, ⟨A23, ⟨A24, ⟨A25, trivial⟩⟩⟩⟩⟩⟩⟩⟩⟩⟩⟩⟩⟩⟩⟩⟩⟩⟩⟩⟩⟩⟩⟩⟩⟩⟩
  have FL : FnAt K mg gt 60 f_law (topS 31) f25 _ := ⟨fun_mk (st := topS 31) l25 c25 k25, PySem.W.mg_of X G a25, (fun_mk (st := topS 31) l25 c25 k25).binds (ps := f_law.ps) (fun _ _ _ _ _ _ us hl => match us, hl with | [_], _ => rfl), sc_law, tr_law⟩
  exact ⟨_, fun s v => .of_eq rfl, fun base _ _ => fn_all M 40 f_law (by simp [fs]) _ _ _ FL⟩
end L_onenumber_k06_whole_arithmetic
open PySem PySem.W PyProof.Rows
set_option maxRecDepth 100000 in
set_option maxHeartbeats 0 in
theorem PySem.Challenge.cw_onenumber_k06_whole_arithmetic_holds : PySem.Challenge.rw_onenumber_k06_whole_arithmetic.Holds := by
  w_on; o_law; k_head; (case hw => w_witness2)
  k_fill
  refine L2.walk_of (l := PySem.Challenge.rw_onenumber_k06_whole_arithmetic) (n := 63) (k := 40) (x := "_law_script") (CX := fun w => L2.CX PySem.Challenge.pw_onenumber_k06_whole_arithmetic w) (sp := fun w => PD.spF ⟨_, fun _ => 0⟩ L_onenumber_k06_whole_arithmetic.fs 40 556 1) rfl (by decide) rfl ⟨rfl, by decide, by decide⟩ (fun w h Y => PySem.W.kIn_of Y) ?F (fun _ _ a ns hl hO hS => PD.law_post hO hS (L_onenumber_k06_whole_arithmetic.law_ok ns hl)) (fun _ _ _ _ _ h => PD.noCX h)
  case F =>
    intro w mg fa h KX G hmg
    refine' L_onenumber_k06_whole_arithmetic.all_mk KX G hmg ?a0 ?l0 ?c0 ?k0 ?a1 ?l1 ?c1 ?k1 ?a2 ?l2 ?c2 ?k2 ?a3 ?l3 ?c3 ?k3 ?a4 ?l4 ?c4 ?k4 ?a5 ?l5 ?c5 ?k5 ?a6 ?l6 ?c6 ?k6 ?a7 ?l7 ?c7 ?k7 ?a8 ?l8 ?c8 ?k8 ?a9 ?l9 ?c9 ?k9 ?a10 ?l10 ?c10 ?k10 ?a11 ?l11 ?c11 ?k11 ?a12 ?l12 ?c12 ?k12 ?a13 ?l13 ?c13 ?k13 ?a14 ?l14 ?c14 ?k14 ?a15 ?l15 ?c15 ?k15 ?a16 ?l16 ?c16 ?k16 ?a17 ?l17 ?c17 ?k17 ?a18 ?l18 ?c18 ?k18 ?a19 ?l19 ?c19 ?k19 ?a20 ?l20 ?c20 ?k20 ?a21 ?l21 ?c21 ?k21 ?a22 ?l22 ?c22 ?k22 ?a23 ?l23 ?c23 ?k23 ?a24 ?l24 ?c24 ?k24 ?a25 ?l25 ?c25 ?k25 ?z0 ?z1 ?z2 ?z3 ?z4 ?z5 ?z6 ?z7 ?z8 ?z9 ?z10 ?z11 ?z12 ?z13 ?z14 ?x0 ?y_g0
    (case a0 => k_is)
    (case l0 => k_is)
    (case c0 => k_is)
    (case k0 => k_is)
    (case a1 => k_is)
    (case l1 => k_is)
    (case c1 => k_is)
    (case k1 => k_is)
    (case a2 => k_is)
    (case l2 => k_is)
    (case c2 => k_is)
    (case k2 => k_is)
    (case a3 => k_is)
    (case l3 => k_is)
    (case c3 => k_is)
    (case k3 => k_is)
    (case a4 => k_is)
    (case l4 => k_is)
    (case c4 => k_is)
    (case k4 => k_is)
    (case a5 => k_is)
    (case l5 => k_is)
    (case c5 => k_is)
    (case k5 => k_is)
    (case a6 => k_is)
    (case l6 => k_is)
    (case c6 => k_is)
    (case k6 => k_is)
    (case a7 => k_is)
    (case l7 => k_is)
    (case c7 => k_is)
    (case k7 => k_is)
    (case a8 => k_is)
    (case l8 => k_is)
    (case c8 => k_is)
    (case k8 => k_is)
    (case a9 => k_is)
    (case l9 => k_is)
    (case c9 => k_is)
    (case k9 => k_is)
    (case a10 => k_is)
    (case l10 => k_is)
    (case c10 => k_is)
    (case k10 => k_is)
    (case a11 => k_is)
    (case l11 => k_is)
    (case c11 => k_is)
    (case k11 => k_is)
    (case a12 => k_is)
    (case l12 => k_is)
    (case c12 => k_is)
    (case k12 => k_is)
    (case a13 => k_is)
    (case l13 => k_is)
    (case c13 => k_is)
    (case k13 => k_is)
    (case a14 => k_is)
    (case l14 => k_is)
    (case c14 => k_is)
    (case k14 => k_is)
    (case a15 => k_is)
    (case l15 => k_is)
    (case c15 => k_is)
    (case k15 => k_is)
    (case a16 => k_is)
    (case l16 => k_is)
    (case c16 => k_is)
    (case k16 => k_is)
    (case a17 => k_is)
    (case l17 => k_is)
    (case c17 => k_is)
    (case k17 => k_is)
    (case a18 => k_is)
    (case l18 => k_is)
    (case c18 => k_is)
    (case k18 => k_is)
    (case a19 => k_is)
    (case l19 => k_is)
    (case c19 => k_is)
    (case k19 => k_is)
    (case a20 => k_is)
    (case l20 => k_is)
    (case c20 => k_is)
    (case k20 => k_is)
    (case a21 => k_is)
    (case l21 => k_is)
    (case c21 => k_is)
    (case k21 => k_is)
    (case a22 => k_is)
    (case l22 => k_is)
    (case c22 => k_is)
    (case k22 => k_is)
    (case a23 => k_is)
    (case l23 => k_is)
    (case c23 => k_is)
    (case k23 => k_is)
    (case a24 => k_is)
    (case l24 => k_is)
    (case c24 => k_is)
    (case k24 => k_is)
    (case a25 => k_is)
    (case l25 => k_is)
    (case c25 => k_is)
    (case k25 => k_is)
    (case z0 => k_is)
    (case z1 => k_is)
    (case z2 => k_is)
    (case z3 => k_is)
    (case z4 => k_is)
    (case z5 => k_is)
    (case z6 => k_is)
    (case z7 => k_is)
    (case z8 => k_is)
    (case z9 => k_is)
    (case z10 => k_is)
    (case z11 => k_is)
    (case z12 => k_is)
    (case z13 => k_is)
    (case z14 => k_is)
    (case x0 => k_is)
    (case y_g0 => k_is)

