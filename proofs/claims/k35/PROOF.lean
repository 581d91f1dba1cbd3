import PyProof.Rows.All
import Wide.All
import OpenK.AllK
import Wide.FinOn
import HandS.ForMost
import HandS.ForExc
import HandS.Wide
import HandS.Slots
import HandS.SlotsOwn
import HandS.Property
import HandS.IsInst
import HandS.Star
import HandS.Conv
import HandS.More
import HandS.Deep
import HandS.TupAny
import HandS.CallSlots
import HandS.Zip
import HandS.NoneIn
import KE.GoesEnum
import KE.GoesMore
import KE.GoesZip
import HandS.Style
import KE.KStateDown
import HandS.Head0
import HandS.Head1
import HandS.Head2
import HandS.HeadEnd
import HandS.HeadHook1
import HandS.HeadHook2
import HandS.Defaults
import HandS.EndBits
import PySem.Challenge.RW_fewreadings_k35_cuts_of_stretches
set_option Elab.async false
set_option linter.all false
set_option maxRecDepth 100000
namespace Mi
open PySem L2
inductive D where
  | non | bl (b : Bool) | int (i : Int) | str (x : Str) | tup (xs : List D) | loc (n : Nat) | ty (n : String) | fn (x : Str) | fz (ns : List Int)
  deriving Inhabited
inductive Cell where
  | lst (xs : List D) | dic (kvs : List (Key × D)) | ins (C : Str) (fs : List (Str × D))
abbrev Sto := List Cell
abbrev Lo := List (Option D)
structure Xc where
  cls : Str
  fs : Option (List (Str × D))
inductive R (α : Type) where
  | ok (a : α) (st : Sto) | ex (x : Xc) (st : Sto) | bad
def R.bind {α β : Type} (r : R α) (f : α → Sto → R β) : R β := match r with
  | .ok a st => f a st
  | .ex x st => .ex x st
  | .bad => .bad
def lift {α : Type} : Option (α × Sto) → R α
  | some (a, st) => .ok a st
  | none => .bad
inductive Fl where
  | nx (lo : Lo) (st : Sto) | rt (d : D) (st : Sto) | bk (lo : Lo) (st : Sto) | ct (lo : Lo) (st : Sto) | ex (x : Xc) (lo : Lo) (st : Sto) | bad
inductive Bi where
  | len | abs | int | max | min | list | tuple | sum | all | isi
  deriving DecidableEq
inductive Mt where
  | append | pop
  deriving DecidableEq
mutual
inductive Ex where
  | var (i : Nat) | con (c : Const) | glob (x : Str) | ty (x : String)
  | bin (op : Operator) (a b : Ex) | neg (a : Ex) | not (a : Ex) | and (a b : Ex) | or (a b : Ex)
  | cmp (op : CmpOp) (a b : Ex) | chain (o1 o2 : CmpOp) (a b c : Ex) | ife (c : Te) (a b : Ex)
  | tup (xs : Exs) | lst (xs : Exs) | idx (a b : Ex) | slice (a : Ex) (lo hi : Oe)
  | call (f : Str) (xs : Exs) | make (C : Str) (xs : Exs) | bi (f : Bi) (xs : Exs) | bm (m : Mt) (o : Ex) (xs : Exs) | meth (m : Str) (o : Ex) (xs : Exs) | fld (o : Ex) (f : Str)
  | comp (own : List Nat) (t : Tg) (it : Itx) (ifs : Ote) (elt : Ex)
inductive Te where
  | val (e : Ex) | not (t : Te) | and (a b : Te) | or (a b : Te)
inductive Ote where
  | none | some (t : Te)
inductive Exs where
  | nil | cons (star : Bool) (e : Ex) (r : Exs)
inductive Oe where
  | none | some (e : Ex)
inductive Tg where
  | name (i : Nat) | tup (ts : Tgs) | sub (o i : Ex) | fld (o : Ex) (f : Str)
inductive Tgs where
  | nil | cons (t : Tg) (r : Tgs)
inductive Itx where
  | seq (e : Ex) | rng (xs : Exs) | enum (e : Ex) | zip (a b : Ex)
end
mutual
inductive Sm where
  | asg (t : Tg) (e : Ex) | par (i j : Nat) (a b : Ex) | par3 (i j k : Nat) (a b c : Ex) | aug (i : Nat) (op : Operator) (e : Ex)
  | expr (e : Ex) | ret (e : Ex) | retn | ifs (c : Te) (a b : Sms) | for_ (t : Tg) (it : Itx) (b : Sms) | while_ (c : Te) (b : Sms)
  | raise_ (C : Str) (xs : Exs) | brk | cont | pass
inductive Sms where
  | nil | cons (s : Sm) (r : Sms)
end
structure Df where
  np : Nat
  ns : Nat
  body : Sms
structure Ci where
  slots : Option (List Str)
  init : Str
  props : List (Str × Str)
  meths : List (Str × Str)
abbrev Cl := Str → List D → Sto → R D
structure Ev where
  cl : Cl
  G : Str → Option D
  C : Str → Option Ci
  w : Nat
def conD : Const → Option D
  | .none => some .non
  | .bool b => some (.bl b)
  | .int i => some (.int i)
  | .str x => some (.str x)
  | _ => none
def asL (st : Sto) (n : Nat) : Option (List D) := match st[n]? with
  | some (.lst xs) => some xs
  | _ => none
def asM (st : Sto) (n : Nat) : Option (List D) := match st[n]? with
  | some (.lst xs) => some xs
  | _ => none
def seqOf (st : Sto) : D → Option (List D)
  | .tup xs => some xs
  | .loc n => asL st n
  | .fz ns => some (ns.map .int)
  | _ => none
mutual
def toPw (f : Nat → Option PyData) : D → Option PyData
  | .non => some .none | .bl b => some (.bool b) | .int i => some (.int i) | .str x => some (.str x)
  | .tup xs => (toPws f xs).map .tuple | .loc n => f n | .ty _ => none | .fn _ => none | .fz _ => none
def toPws (f : Nat → Option PyData) : List D → Option (List PyData)
  | [] => some []
  | x :: xs => match toPw f x, toPws f xs with
    | some y, some ys => some (y :: ys)
    | _, _ => none
end
def locP (st : Sto) : Nat → Nat → Option PyData
  | 0, _ => none
  | k + 1, n => match asL st n with
    | some xs => (toPws (locP st k) xs).map .list
    | none => none
def toP (st : Sto) (d : D) : Option PyData := toPw (locP st 4) d
def eqD (st : Sto) (a b : D) : Option Bool := match toP st a, toP st b with
  | some p, some q => if SeqAt.shaped p && SeqAt.shaped q then some (PyData.eqv p q) else none
  | _, _ => none
def mulOk (i j : Int) : Bool := decide (i.natAbs.log2 + j.natAbs.log2 < 1000000)
def divOk (j : Int) : Bool := decide (j ≠ 0) && decide (j.natAbs.log2 < 9000)
def powOk (i j : Int) : Bool := decide (0 ≤ j) && decide (j ≤ 1000000) && decide (i.natAbs < 2 ^ 64)
def szOk (n : Nat) : Bool := decide (n ≤ 1000000)
def binD (op : Operator) (a b : D) (st : Sto) : Option (D × Sto) := match op, a, b with
  | .Add, .int i, .int j => some (.int (i + j), st)
  | .Sub, .int i, .int j => some (.int (i - j), st)
  | .Mult, .int i, .int j => if mulOk i j then some (.int (i * j), st) else none
  | .FloorDiv, .int i, .int j => if divOk j then some (.int (i.fdiv j), st) else none
  | .Mod, .int i, .int j => if decide (j ≠ 0) then some (.int (i.fmod j), st) else none
  | .Pow, .int i, .int j => if powOk i j then some (.int (i ^ j.toNat), st) else none
  | .Add, .str x, .str y => if szOk (x.length + y.length) then some (.str (x ++ y), st) else none
  | .Add, .tup xs, .tup ys => if szOk (xs.length + ys.length) then some (.tup (xs ++ ys), st) else none
  | .Add, .loc m, .loc n => match asM st m, asM st n with
    | some xs, some ys => if szOk (xs.length + ys.length) then some (.loc st.length, st ++ [.lst (xs ++ ys)]) else none
    | _, _ => none
  | .Mult, .loc m, .int k => match asM st m with
    | some xs => if szOk (xs.length * k.toNat) && decide (k ≤ 1000000) && decide (-1000000 ≤ k) then some (.loc st.length, st ++ [.lst (List.replicate k.toNat xs).flatten]) else none
    | _ => none
  | _, _, _ => none
def augD (op : Operator) (a b : D) : Option D := match op, a, b with
  | .Add, .int i, .int j => some (.int (i + j))
  | .Sub, .int i, .int j => some (.int (i - j))
  | .Mult, .int i, .int j => if decide (-(2 ^ 64) < j) && decide (j < 2 ^ 64) then some (.int (i * j)) else none
  | _, _, _ => none
def cmpD (op : CmpOp) (a b : D) (st : Sto) : Option Bool := match op, a, b with
  | .Lt, .int i, .int j => some (decide (i < j))
  | .LtE, .int i, .int j => some (decide (i ≤ j))
  | .Gt, .int i, .int j => some (decide (j < i))
  | .GtE, .int i, .int j => some (decide (j ≤ i))
  | .Eq, a, b => eqD st a b
  | .NotEq, a, b => (eqD st a b).map (!·)
  | .Is, a, .non => match a with | .non => some true | _ => some false
  | .IsNot, a, .non => match a with | .non => some false | _ => some true
  | .In, a, .loc n => match toP st a, locP st 4 n with
    | some p, some (.list qs) => if SeqAt.shaped p && SeqAt.shaped (.list qs) then some (qs.any fun z => PyData.eqv z p) else none
    | _, _ => none
  | .NotIn, a, .loc n => match toP st a, locP st 4 n with
    | some p, some (.list qs) => if SeqAt.shaped p && SeqAt.shaped (.list qs) then some (!qs.any fun z => PyData.eqv z p) else none
    | _, _ => none
  | _, _, _ => none
def truD (a : D) (st : Sto) : Option Bool := match a with
  | .non => some false | .bl b => some b | .int i => some (i != 0) | .tup xs => some (!xs.isEmpty)
  | .loc n => (asL st n).map fun xs => !xs.isEmpty
  | _ => none
def idxD (a b : D) (st : Sto) : Option D := match b with
  | .int i => match seqOf st a with
    | some xs => atI xs i
    | none => none
  | _ => none
def cutD (xs : List D) (lo hi : Option Int) : List D := (xs.drop (HT.sIx xs.length 0 lo)).take (HT.sIx xs.length xs.length hi - HT.sIx xs.length 0 lo)
def slcD (a : D) (lo hi : Option Int) (st : Sto) : Option (D × Sto) := match a with
  | .tup xs => some (.tup (cutD xs lo hi), st)
  | .loc n => match asL st n with
    | some xs => some (.loc st.length, st ++ [.lst (cutD xs lo hi)])
    | none => none
  | _ => none
def intsOf : List D → Option (List Int)
  | [] => some [] | .int i :: r => (intsOf r).map (i :: ·) | _ => none
def blsOf : List D → Option (List Bool)
  | [] => some [] | .bl b :: r => (blsOf r).map (b :: ·) | _ => none
def tyOf : D → Option String
  | .int _ => some "int" | .bl _ => some "bool" | .str _ => some "str" | .non => some "NoneType" | .tup _ => some "tuple" | _ => none
def biD (f : Bi) (xs : List D) (st : Sto) : Option (D × Sto) := match f, xs with
  | .len, [.tup ys] => some (.int ys.length, st)
  | .len, [.loc n] => (asL st n).map fun ys => (.int ys.length, st)
  | .len, [.fz ns] => some (.int ns.length, st)
  | .abs, [.int i] => some (.int (if i < 0 then -i else i), st)
  | .int, [.int i] => some (.int i, st)
  | .int, [.bl b] => some (.int (if b then 1 else 0), st)
  | .max, [.int i, .int j] => some (.int (if j > i then j else i), st)
  | .min, [.int i, .int j] => some (.int (if j < i then j else i), st)
  | .list, [a] => (seqOf st a).map fun ys => (.loc st.length, st ++ [.lst ys])
  | .tuple, [a] => (seqOf st a).map fun ys => (.tup ys, st)
  | .sum, [.loc n] => ((asL st n).bind intsOf).map fun ns => (.int ns.sum, st)
  | .all, [.loc n] => ((asL st n).bind blsOf).map fun bs => (.bl (bs.all id), st)
  | .isi, [a, .ty T] => ((tyOf a).bind fun t => kitB t T).map fun b => (.bl b, st)
  | _, _ => none
def setC (st : Sto) (n : Nat) (c : Cell) : Sto := st.set n c
def mtD (m : Mt) (n : Nat) (xs : List D) (st : Sto) : Option (D × Sto) := match asM st n with
  | some ys => match m, xs with
    | .append, [x] => if szOk ys.length then some (.non, setC st n (.lst (ys ++ [x]))) else none
    | .pop, [] => match ys.getLast? with
      | some y => some (y, setC st n (.lst ys.dropLast))
      | none => none
    | _, _ => none
  | none => none
def setI (a b d : D) (st : Sto) : Option Sto := match a, b with
  | .loc n, .int i => match asM st n with
    | some ys => match ixN ys.length i with
      | some j => some (setC st n (.lst (ys.set j d)))
      | none => none
    | none => none
  | _, _ => none
structure Wk where
  len : Nat
  get : Nat → Sto → Option (Option D)
def wkTup (xs : List D) : Wk := ⟨xs.length, fun i _ => some xs[i]?⟩
def wkLst (n len : Nat) : Wk := ⟨len, fun i st => (asL st n).map (·[i]?)⟩
def wkRng (lo : Int) (n : Nat) : Wk := ⟨n, fun i _ => some (if i < n then some (.int (lo + i)) else none)⟩
def wkDown (hi : Int) (n : Nat) : Wk := ⟨n, fun i _ => some (if i < n then some (.int (hi - i)) else none)⟩
def wkSeq (st : Sto) : D → Option Wk
  | .tup xs => some (wkTup xs)
  | .loc n => (asL st n).map fun xs => wkLst n xs.length
  | _ => none
def wkEnum (w : Wk) : Wk := ⟨w.len, fun i st => (w.get i st).map fun o => o.map fun d => .tup [.int i, d]⟩
def wkZip (a b : Wk) : Wk := ⟨min a.len b.len, fun i st => match a.get i st, b.get i st with
  | some x, some y => some (x.bind fun u => y.map fun v => .tup [u, v])
  | _, _ => none⟩
def isLoc : D → Bool
  | .loc _ => true
  | _ => false
def bigOk (j : Int) : Bool := decide (-(2 ^ 62) ≤ j) && decide (j < 2 ^ 62)
def wkRange : List D → Option Wk
  | [.int j] => if bigOk j then some (wkRng 0 j.toNat) else none
  | [.int i, .int j] => if bigOk i && bigOk j then some (wkRng i (j - i).toNat) else none
  | [.int i, .int j, .int (-1)] => if bigOk i && bigOk j then some (wkDown i (i - j).toNat) else none
  | _ => none
def compL (g : Nat → Sto → Option (Option D)) (step : D → Sto → R (Option D)) : Nat → Nat → List D → Sto → R (List D)
  | 0, i, acc, st => match g i st with
    | some none => .ok acc st
    | _ => .bad
  | k + 1, i, acc, st => match g i st with
    | none => .bad
    | some none => .ok acc st
    | some (some d) => match step d st with
      | .ok none st' => compL g step k (i + 1) acc st'
      | .ok (some y) st' => if szOk acc.length then compL g step k (i + 1) (acc ++ [y]) st' else .bad
      | _ => .bad
def forL (g : Nat → Sto → Option (Option D)) (body : D → Lo → Sto → Fl) : Nat → Nat → Lo → Sto → Fl
  | 0, i, lo, st => match g i st with
    | some none => .nx lo st
    | _ => .bad
  | k + 1, i, lo, st => match g i st with
    | none => .bad
    | some none => .nx lo st
    | some (some d) => match body d lo st with
      | .nx lo' st' => forL g body k (i + 1) lo' st'
      | .ct lo' st' => forL g body k (i + 1) lo' st'
      | .bk lo' st' => .nx lo' st'
      | .rt d' st' => .rt d' st'
      | .ex x lo' st' => .ex x lo' st'
      | .bad => .bad
def whileL (c : Lo → Sto → R Bool) (body : Lo → Sto → Fl) : Nat → Lo → Sto → Fl
  | 0, _, _ => .bad
  | k + 1, lo, st => match c lo st with
    | .ok true st1 => match body lo st1 with
      | .nx lo' st' => whileL c body k lo' st'
      | .ct lo' st' => whileL c body k lo' st'
      | .bk lo' st' => .nx lo' st'
      | .rt d' st' => .rt d' st'
      | .ex x lo' st' => .ex x lo' st'
      | .bad => .bad
    | .ok false st1 => .nx lo st1
    | .ex x st1 => .ex x lo st1
    | .bad => .bad
def wipeD (lo : Lo) : List Nat → Lo
  | [] => lo
  | v :: vs => (wipeD lo vs).set v none
def putD (f : Str) (v : D) : List (Str × D) → List (Str × D)
  | [] => [(f, v)]
  | (g, x) :: r => if g = f then (g, v) :: r else (g, x) :: putD f v r
def fldD (E : Ev) (a : D) (f : Str) (st : Sto) : R D := match a with
  | .loc n => match st[n]? with
    | some (.ins C fs) => match E.C C with
      | some ci => match ci.props.lookup f with
        | some key => match E.cl key [a] st with
          | .ok d st' => .ok d st'
          | _ => .bad
        | none => match fs.lookup f with
          | some d => .ok d st
          | none => .bad
      | none => .bad
    | _ => .bad
  | _ => .bad
def setF (E : Ev) (a : D) (f : Str) (d : D) (st : Sto) : Option Sto := match a with
  | .loc n => match st[n]? with
    | some (.ins C fs) => match E.C C with
      | some ci => match ci.props.lookup f with
        | some _ => none
        | none => if szOk (fs.length * 1000) then some (setC st n (.ins C (putD f d fs))) else none
      | none => none
    | _ => none
  | _ => none
def tgLen : Tgs → Nat
  | .nil => 0
  | .cons _ r => tgLen r + 1
def tupOf : D → Option (List D)
  | .tup xs => some xs
  | _ => none
mutual
def evE (E : Ev) : Ex → Lo → Sto → R D
  | .var i, lo, st => match lo[i]? with
    | some (some d) => .ok d st
    | _ => .bad
  | .con c, _, st => match conD c with
    | some d => .ok d st
    | none => .bad
  | .glob x, _, st => match E.G x with
    | some d => .ok d st
    | none => .bad
  | .ty x, _, st => .ok (.ty x) st
  | .bin op a b, lo, st => (evE E a lo st).bind fun x st1 => (evE E b lo st1).bind fun y st2 => lift (binD op x y st2)
  | .neg a, lo, st => (evE E a lo st).bind fun x st1 => match x with
    | .int i => .ok (.int (-i)) st1
    | _ => .bad
  | .not a, lo, st => (evE E a lo st).bind fun x st1 => match x with
    | .bl b => .ok (.bl (!b)) st1
    | _ => .bad
  | .and a b, lo, st => (evE E a lo st).bind fun x st1 => match x with
    | .bl true => evE E b lo st1
    | .bl false => .ok (.bl false) st1
    | _ => .bad
  | .or a b, lo, st => (evE E a lo st).bind fun x st1 => match x with
    | .bl true => .ok (.bl true) st1
    | .bl false => evE E b lo st1
    | _ => .bad
  | .cmp op a b, lo, st => (evE E a lo st).bind fun x st1 => (evE E b lo st1).bind fun y st2 => lift ((cmpD op x y st2).map fun c => (.bl c, st2))
  | .chain o1 o2 a b c, lo, st => (evE E a lo st).bind fun x st1 => (evE E b lo st1).bind fun y st2 => match cmpD o1 x y st2 with
    | some true => (evE E c lo st2).bind fun z st3 => lift ((cmpD o2 y z st3).map fun c => (.bl c, st3))
    | some false => .ok (.bl false) st2
    | none => .bad
  | .ife c a b, lo, st => (evT E c lo st).bind fun t st1 => match t with
    | true => evE E a lo st1
    | false => evE E b lo st1
  | .tup xs, lo, st => (evA E xs lo st).bind fun ds st1 => if szOk ds.length then .ok (.tup ds) st1 else .bad
  | .lst xs, lo, st => (evA E xs lo st).bind fun ds st1 => if szOk ds.length then .ok (.loc st1.length) (st1 ++ [.lst ds]) else .bad
  | .idx a b, lo, st => (evE E a lo st).bind fun x st1 => (evE E b lo st1).bind fun y st2 => lift ((idxD x y st2).map fun d => (d, st2))
  | .slice a l h, lo, st => (evE E a lo st).bind fun x st1 => (evO E l lo st1).bind fun i st2 => (evO E h lo st2).bind fun j st3 => lift (slcD x i j st3)
  | .call f xs, lo, st => (evA E xs lo st).bind fun ds st1 => E.cl f ds st1
  | .make C xs, lo, st => (evA E xs lo st).bind fun ds st1 => match E.C C with
    | some ci => match E.cl ci.init (.loc st1.length :: ds) (st1 ++ [.ins C []]) with
      | .ok .non st2 => .ok (.loc st1.length) st2
      | .ex x st2 => .ex x st2
      | _ => .bad
    | none => .bad
  | .bi f xs, lo, st => (evA E xs lo st).bind fun ds st1 => lift (biD f ds st1)
  | .bm m o xs, lo, st => (evE E o lo st).bind fun x st1 => match x with
    | .loc n => match asM st1 n with
      | some _ => (evA E xs lo st1).bind fun ds st2 => lift (mtD m n ds st2)
      | none => .bad
    | _ => .bad
  | .meth m o xs, lo, st => (evE E o lo st).bind fun x st1 => match x with
    | .loc n => match st1[n]? with
      | some (.ins C _) => match E.C C with
        | some ci => match ci.meths.lookup m with
          | some key => (evA E xs lo st1).bind fun ds st2 => E.cl key (x :: ds) st2
          | none => .bad
        | none => .bad
      | _ => .bad
    | _ => .bad
  | .fld o f, lo, st => (evE E o lo st).bind fun x st1 => fldD E x f st1
  | .comp own t it c elt, lo, st => (evI E it lo st).bind fun w st1 =>
    match compL w.get (fun d st2 => match asgT E t d (wipeD lo own) st2 with
      | .nx lo3 st3 => match evC E c lo3 st3 with
        | .ok true st4 => match evE E elt lo3 st4 with
          | .ok y st5 => .ok (some y) st5
          | _ => .bad
        | .ok false st4 => .ok none st4
        | _ => .bad
      | _ => .bad) w.len 0 [] st1 with
    | .ok acc st2 => .ok (.loc st2.length) (st2 ++ [.lst acc])
    | _ => .bad
def evT (E : Ev) : Te → Lo → Sto → R Bool
  | .val e, lo, st => (evE E e lo st).bind fun d st1 => lift ((truD d st1).map fun t => (t, st1))
  | .not a, lo, st => (evT E a lo st).bind fun t st1 => .ok (!t) st1
  | .and a b, lo, st => (evT E a lo st).bind fun t st1 => match t with
    | true => evT E b lo st1
    | false => .ok false st1
  | .or a b, lo, st => (evT E a lo st).bind fun t st1 => match t with
    | true => .ok true st1
    | false => evT E b lo st1
def evC (E : Ev) : Ote → Lo → Sto → R Bool
  | .none, _, st => .ok true st
  | .some t, lo, st => evT E t lo st
def evO (E : Ev) : Oe → Lo → Sto → R (Option Int)
  | .none, _, st => .ok none st
  | .some e, lo, st => (evE E e lo st).bind fun x st1 => match x with
    | .int i => .ok (some i) st1
    | _ => .bad
def evA (E : Ev) : Exs → Lo → Sto → R (List D)
  | .nil, _, st => .ok [] st
  | .cons false e r, lo, st => (evE E e lo st).bind fun x st1 => (evA E r lo st1).bind fun xs st2 => .ok (x :: xs) st2
  | .cons true e r, lo, st => (evE E e lo st).bind fun x st1 => match seqOf st1 x with
    | some ys => (evA E r lo st1).bind fun xs st2 => .ok (ys ++ xs) st2
    | none => .bad
def evI (E : Ev) : Itx → Lo → Sto → R Wk
  | .seq e, lo, st => (evE E e lo st).bind fun x st1 => lift ((wkSeq st1 x).map fun w => (w, st1))
  | .rng xs, lo, st => (evA E xs lo st).bind fun ds st1 => lift ((wkRange ds).map fun w => (w, st1))
  | .enum e, lo, st => (evE E e lo st).bind fun x st1 => lift ((wkSeq st1 x).map fun w => (wkEnum w, st1))
  | .zip a b, lo, st => (evE E a lo st).bind fun x st1 => (evE E b lo st1).bind fun y st2 => match wkSeq st2 x, wkSeq st2 y with
    | some u, some v => if isLoc x == isLoc y then .ok (wkZip u v) st2 else .bad
    | _, _ => .bad
def asgT (E : Ev) : Tg → D → Lo → Sto → Fl
  | .name i, d, lo, st => .nx (lo.set i (some d)) st
  | .tup ts, d, lo, st => match tupOf d with
    | some ds => if decide (ds.length = tgLen ts) then asgTs E ts ds lo st else .bad
    | none => .bad
  | .sub o i, d, lo, st => match (evE E o lo st).bind fun x st1 => (evE E i lo st1).bind fun y st2 => lift ((setI x y d st2).map fun st3 => (D.non, st3)) with
    | .ok _ st3 => .nx lo st3
    | .ex x st3 => .ex x lo st3
    | .bad => .bad
  | .fld o f, d, lo, st => match (evE E o lo st).bind fun x st1 => lift ((setF E x f d st1).map fun st3 => (D.non, st3)) with
    | .ok _ st3 => .nx lo st3
    | .ex x st3 => .ex x lo st3
    | .bad => .bad
def asgTs (E : Ev) : Tgs → List D → Lo → Sto → Fl
  | .nil, [], lo, st => .nx lo st
  | .cons t r, d :: ds, lo, st => match asgT E t d lo st with
    | .nx lo1 st1 => asgTs E r ds lo1 st1
    | f => f
  | _, _, _, _ => .bad
end
def R.toFl (r : R D) (lo : Lo) (k : D → Sto → Fl) : Fl := match r with
  | .ok d st => k d st
  | .ex x st => .ex x lo st
  | .bad => .bad
mutual
def exS (E : Ev) : Sm → Lo → Sto → Fl
  | .asg t e, lo, st => (evE E e lo st).toFl lo fun d st1 => asgT E t d lo st1
  | .par i j a b, lo, st => (evE E a lo st).toFl lo fun x st1 => (evE E b lo st1).toFl lo fun y st2 => .nx ((lo.set i (some x)).set j (some y)) st2
  | .par3 i j k a b c, lo, st => (evE E a lo st).toFl lo fun x st1 => (evE E b lo st1).toFl lo fun y st2 => (evE E c lo st2).toFl lo fun z st3 => .nx (((lo.set i (some x)).set j (some y)).set k (some z)) st3
  | .aug i op e, lo, st => match lo[i]? with
    | some (some x) => (evE E e lo st).toFl lo fun y st1 => match augD op x y with
      | some z => .nx (lo.set i (some z)) st1
      | none => .bad
    | _ => .bad
  | .expr e, lo, st => (evE E e lo st).toFl lo fun _ st1 => .nx lo st1
  | .ret e, lo, st => (evE E e lo st).toFl lo fun d st1 => .rt d st1
  | .retn, _, st => .rt .non st
  | .ifs c a b, lo, st => match evT E c lo st with
    | .ok true st1 => exSs E a lo st1
    | .ok false st1 => exSs E b lo st1
    | .ex x st1 => .ex x lo st1
    | .bad => .bad
  | .for_ t it b, lo, st => match evI E it lo st with
    | .ok w st1 => forL w.get (fun d lo2 st2 => match asgT E t d lo2 st2 with
      | .nx lo3 st3 => exSs E b lo3 st3
      | f => f) w.len 0 lo st1
    | .ex x st1 => .ex x lo st1
    | .bad => .bad
  | .while_ c b, lo, st => whileL (evT E c) (exSs E b) E.w lo st
  | .raise_ _ _, _, _ => .bad
  | .brk, lo, st => .bk lo st
  | .cont, lo, st => .ct lo st
  | .pass, lo, st => .nx lo st
def exSs (E : Ev) : Sms → Lo → Sto → Fl
  | .nil, lo, st => .nx lo st
  | .cons s r, lo, st => match exS E s lo st with
    | .nx lo1 st1 => exSs E r lo1 st1
    | f => f
end
def runDf (E : Ev) (d : Df) (args : List D) (st : Sto) : R D :=
  if args.length = d.np then match exSs E d.body (args.map some ++ List.replicate (d.ns - d.np) none) st with
    | .nx _ st1 => .ok .non st1
    | .rt x st1 => .ok x st1
    | .ex x _ st1 => .ex x st1
    | _ => .bad
  else .bad
structure Tx where
  T : Str → Option Df
  G : Str → Option D
  C : Str → Option Ci
  w : Nat
def callN (t : Tx) : Nat → Cl
  | 0, _, _, _ => .bad
  | n + 1, f, args, st => match t.T f with
    | some d => runDf ⟨callN t n, t.G, t.C, t.w⟩ d args st
    | none => .bad
example (E : Ev) (lo : Lo) (st : Sto) : evE E (.bin .Add (.con (.int 1)) (.con (.int 2))) lo st = .ok (.int 3) st := rfl
end Mi
set_option autoImplicit false
namespace Mi
open PySem PySem.Spec PyProof.Rows L2 SlX
def RL (K : PySem.W.Frag) (H : Hp) (a : Addr) (xs : List V) : Prop := (∃ o, H a = some (.frz o (.lst xs))) ∨
    ∃ (o : Obj) (its : Array Value) (n : Nat), K.lookup a = some o ∧ o.cls = .type "list" ∧ o.dict = none ∧ o.data = .seq its n ∧ its.size ≤ sizeLine ∧ Vals xs its.toList
theorem RL.sq {K : PySem.W.Frag} {H : Hp} {a : Addr} {xs : List V} (h : RL K H a xs) : SqL K H a xs := by
  rcases h with h | h
  · exact .inl (.inr h)
  · exact .inr h
mutual
def RelD (K : PySem.W.Frag) (H : Hp) (ρ : List Addr) : D → V → Prop
  | .non, v => v = .non
  | .bl b, v => v = .bl b
  | .int i, v => v = .int i
  | .str x, v => v = .str x
  | .tup ds, v => ∃ a vs, v = .ref a ∧ SqT K H a vs ∧ RelDs K H ρ ds vs
  | .loc n, v => ∃ a, v = .ref a ∧ ρ[n]? = some a
  | .ty n, v => v = .ty n
  | .fn _, _ => False
  | .fz ns, v => ∃ a, v = .ref a ∧ RL K H a (ns.map V.int)
def RelDs (K : PySem.W.Frag) (H : Hp) (ρ : List Addr) : List D → List V → Prop
  | [], vs => vs = []
  | d :: ds, vs => ∃ v r, vs = v :: r ∧ RelD K H ρ d v ∧ RelDs K H ρ ds r
end
def RelFs (K : PySem.W.Frag) (H : Hp) (ρ : List Addr) : List (Str × D) → List (Str × V) → Prop
  | [], vs => vs = []
  | p :: ds, vs => ∃ v r, vs = (p.1, v) :: r ∧ RelD K H ρ p.2 v ∧ RelFs K H ρ ds r
def RelKs (K : PySem.W.Frag) (H : Hp) (ρ : List Addr) : List (Key × D) → List (Key × V) → Prop
  | [], vs => vs = []
  | p :: ds, vs => ∃ v r, vs = (p.1, v) :: r ∧ RelD K H ρ p.2 v ∧ RelKs K H ρ ds r
structure Wo where
  K : PySem.W.Frag
  mg : Str → Option Value
  t : Tx
def CellOk (O : Wo) (H : Hp) (ρ : List Addr) (a : Addr) : Cell → Prop
  | .lst ds => ∃ vs, H a = some (.lst vs) ∧ RelDs O.K H ρ ds vs
  | .dic kvs => ∃ ws, H a = some (.dK ws) ∧ RelKs O.K H ρ kvs ws
  | .ins C fs => ∃ Ca ci, O.mg C = some (.ref Ca) ∧ O.t.C C = some ci ∧ match ci.slots with
    | none => ∃ dx ws, H a = some (.ins Ca dx ws) ∧ RelFs O.K H ρ fs ws
    | some sl => ∃ dx vs, dx ≠ a ∧ Slt H a Ca dx vs ∧ (vs = [] → fs = []) ∧ ∀ (f : Str) (d : D), fs.lookup f = some d → ∃ (i : Nat) (v : V), sl[i]? = some f ∧ vs[i]? = some (some v) ∧ RelD O.K H ρ d v
def mutC : Cell → Bool := fun _ => true
structure Sim (O : Wo) (H : Hp) (ρ : List Addr) (st : Sto) : Prop where
  len : ρ.length = st.length
  nd : ∀ (m n : Nat) (a : Addr) (c c' : Cell), ρ[m]? = some a → ρ[n]? = some a → st[m]? = some c → st[n]? = some c' → mutC c = true → mutC c' = true → m = n
  ok : ∀ (n : Nat) (a : Addr) (c : Cell), ρ[n]? = some a → st[n]? = some c → CellOk O H ρ a c
def LoOk (O : Wo) (H : Hp) (ρ : List Addr) (lo : Lo) (σ : L2.St) : Prop :=
  lo.length = σ.length ∧ ∀ (i : Nat) (d : D), lo[i]? = some (some d) → ∃ v, σ[i]? = some (some v) ∧ RelD O.K H ρ d v
def isOwn : HO → Bool
  | .own _ => true
  | _ => false
structure Ext (H : Hp) (ρ : List Addr) (H' : Hp) (ρ' : List Addr) : Prop where
  more : ∃ m, ρ' = ρ ++ m
  fr : ∀ (b : Addr) (o : HO), H b = some o → isOwn o = false → (b ∉ ρ ∨ ¬ Mut (some o)) → H' b = some o
  nw : ∀ b : Addr, b ∈ ρ' → b ∈ ρ ∨ (∀ o, H b = some o → isOwn o = true ∨ ¬ Mut (some o))
theorem Ext.refl (H : Hp) (ρ : List Addr) : Ext H ρ H ρ := ⟨⟨[], by simp⟩, fun _ _ h _ _ => h, fun _ h => .inl h⟩
theorem Ext.get {H H' : Hp} {ρ ρ' : List Addr} (e : Ext H ρ H' ρ') {n : Nat} {a : Addr} (h : ρ[n]? = some a) : ρ'[n]? = some a := by
  obtain ⟨m, rfl⟩ := e.more
  obtain ⟨hl, _⟩ := List.getElem?_eq_some_iff.mp h
  rw [List.getElem?_append_left hl]; exact h
theorem Ext.mem {H H' : Hp} {ρ ρ' : List Addr} (e : Ext H ρ H' ρ') {a : Addr} (h : a ∈ ρ) : a ∈ ρ' := by
  obtain ⟨m, rfl⟩ := e.more
  exact List.mem_append_left _ h
theorem Ext.trans {H H1 H2 : Hp} {ρ ρ1 ρ2 : List Addr} (a : Ext H ρ H1 ρ1) (b : Ext H1 ρ1 H2 ρ2) : Ext H ρ H2 ρ2 := by
  refine ⟨?_, ?_, ?_⟩
  · obtain ⟨m, rfl⟩ := a.more
    obtain ⟨m', rfl⟩ := b.more
    exact ⟨m ++ m', by simp⟩
  · intro c o h ho hm
    have h1 := a.fr c o h ho hm
    refine b.fr c o h1 ho ?_
    by_cases hmu : Mut (some o)
    · left
      intro hc
      rcases a.nw c hc with h2 | h2
      · rcases hm with hm | hm
        · exact hm h2
        · exact hm hmu
      · rcases h2 o h with h3 | h3
        · rw [ho] at h3; cases h3
        · exact h3 hmu
    · exact .inr hmu
  · intro c hc
    rcases b.nw c hc with h | h
    · exact a.nw c h
    · by_cases hr : c ∈ ρ
      · exact .inl hr
      · right
        intro o ho
        by_cases hown : isOwn o = true
        · exact .inl hown
        · have h1 := a.fr c o ho (by simpa using hown) (.inl hr)
          exact h o h1
theorem Ext.keepN {H H' : Hp} {ρ ρ' : List Addr} (e : Ext H ρ H' ρ') {b : Addr} {o : HO} (h : H b = some o) (ho : isOwn o = false := by rfl) (hm : ¬ Mut (some o) := by exact id) : H' b = some o := e.fr b o h ho (.inr hm)
structure Wx (H : Hp) (ρ : List Addr) (H' : Hp) (ρ' : List Addr) : Prop where
  get : ∀ (n : Nat) (a : Addr), ρ[n]? = some a → ρ'[n]? = some a
  nm : ∀ (b : Addr) (o : HO), H b = some o → isOwn o = false → ¬ Mut (some o) → H' b = some o
theorem Ext.wx {H H' : Hp} {ρ ρ' : List Addr} (e : Ext H ρ H' ρ') : Wx H ρ H' ρ' := ⟨fun _ _ h => e.get h, fun b o h ho hm => e.fr b o h ho (.inr hm)⟩
theorem Wx.sqT {H H' : Hp} {ρ ρ' : List Addr} (e : Wx H ρ H' ρ') {K : PySem.W.Frag} {a : Addr} {xs : List V} (h : SqT K H a xs) : SqT K H' a xs := by
  rcases h with (h | ⟨o, h⟩) | h
  · exact .inl (.inl (e.nm _ _ h rfl id))
  · exact .inl (.inr ⟨o, e.nm _ _ h rfl id⟩)
  · exact .inr h
theorem Wx.rl {H H' : Hp} {ρ ρ' : List Addr} (e : Wx H ρ H' ρ') {K : PySem.W.Frag} {a : Addr} {xs : List V} (h : RL K H a xs) : RL K H' a xs := by
  rcases h with ⟨o, h⟩ | h
  · exact .inl ⟨o, e.nm _ _ h rfl id⟩
  · exact .inr h
theorem Ext.sqT {H H' : Hp} {ρ ρ' : List Addr} (e : Ext H ρ H' ρ') {K : PySem.W.Frag} {a : Addr} {xs : List V} (h : SqT K H a xs) : SqT K H' a xs := by
  rcases h with (h | ⟨o, h⟩) | h
  · exact .inl (.inl (e.keepN h))
  · exact .inl (.inr ⟨o, e.keepN h⟩)
  · exact .inr h
theorem Ext.rl {H H' : Hp} {ρ ρ' : List Addr} (e : Ext H ρ H' ρ') {K : PySem.W.Frag} {a : Addr} {xs : List V} (h : RL K H a xs) : RL K H' a xs := e.wx.rl h
mutual
theorem RelD.wx {K : PySem.W.Frag} {H H' : Hp} {ρ ρ' : List Addr} (e : Wx H ρ H' ρ') : ∀ (d : D) {v : V}, RelD K H ρ d v → RelD K H' ρ' d v
  | .non, _, h => h
  | .bl _, _, h => h
  | .int _, _, h => h
  | .str _, _, h => h
  | .ty _, _, h => h
  | .fn _, _, h => h
  | .fz _, _, ⟨a, h1, h2⟩ => ⟨a, h1, e.rl h2⟩
  | .tup ds, _, ⟨a, vs, h1, h2, h3⟩ => ⟨a, vs, h1, e.sqT h2, RelDs.wx e ds h3⟩
  | .loc _, _, ⟨a, h1, h2⟩ => ⟨a, h1, e.get _ _ h2⟩
theorem RelDs.wx {K : PySem.W.Frag} {H H' : Hp} {ρ ρ' : List Addr} (e : Wx H ρ H' ρ') : ∀ (ds : List D) {vs : List V}, RelDs K H ρ ds vs → RelDs K H' ρ' ds vs
  | [], _, h => h
  | d :: ds, _, ⟨v, r, h1, h2, h3⟩ => ⟨v, r, h1, RelD.wx e d h2, RelDs.wx e ds h3⟩
end
theorem RelFs.wx {K : PySem.W.Frag} {H H' : Hp} {ρ ρ' : List Addr} (e : Wx H ρ H' ρ') : ∀ (ds : List (Str × D)) {vs : List (Str × V)}, RelFs K H ρ ds vs → RelFs K H' ρ' ds vs
  | [], _, h => h
  | d :: ds, _, ⟨v, r, h1, h2, h3⟩ => ⟨v, r, h1, h2.wx e _, RelFs.wx e ds h3⟩
theorem RelKs.wx {K : PySem.W.Frag} {H H' : Hp} {ρ ρ' : List Addr} (e : Wx H ρ H' ρ') : ∀ (ds : List (Key × D)) {vs : List (Key × V)}, RelKs K H ρ ds vs → RelKs K H' ρ' ds vs
  | [], _, h => h
  | d :: ds, _, ⟨v, r, h1, h2, h3⟩ => ⟨v, r, h1, h2.wx e _, RelKs.wx e ds h3⟩
theorem RelD.ext {K : PySem.W.Frag} {H H' : Hp} {ρ ρ' : List Addr} (e : Ext H ρ H' ρ') (d : D) {v : V} (h : RelD K H ρ d v) : RelD K H' ρ' d v := h.wx e.wx _
theorem RelDs.ext {K : PySem.W.Frag} {H H' : Hp} {ρ ρ' : List Addr} (e : Ext H ρ H' ρ') (d : List D) {v : List V} (h : RelDs K H ρ d v) : RelDs K H' ρ' d v := h.wx e.wx _
theorem RelFs.ext {K : PySem.W.Frag} {H H' : Hp} {ρ ρ' : List Addr} (e : Ext H ρ H' ρ') (d : List (Str × D)) {v : List (Str × V)} (h : RelFs K H ρ d v) : RelFs K H' ρ' d v := h.wx e.wx _
theorem RelKs.ext {K : PySem.W.Frag} {H H' : Hp} {ρ ρ' : List Addr} (e : Ext H ρ H' ρ') (d : List (Key × D)) {v : List (Key × V)} (h : RelKs K H ρ d v) : RelKs K H' ρ' d v := h.wx e.wx _
theorem LoOk.wx {O : Wo} {H H' : Hp} {ρ ρ' : List Addr} (e : Wx H ρ H' ρ') {lo : Lo} {σ : L2.St} (h : LoOk O H ρ lo σ) : LoOk O H' ρ' lo σ :=
  ⟨h.1, fun i d q => let ⟨v, h1, h2⟩ := h.2 i d q; ⟨v, h1, h2.wx e _⟩⟩
theorem LoOk.ext {O : Wo} {H H' : Hp} {ρ ρ' : List Addr} (e : Ext H ρ H' ρ') {lo : Lo} {σ : L2.St} (h : LoOk O H ρ lo σ) : LoOk O H' ρ' lo σ :=
  ⟨h.1, fun i d q => let ⟨v, h1, h2⟩ := h.2 i d q; ⟨v, h1, h2.ext e _⟩⟩
section rels
variable {K : PySem.W.Frag} {H : Hp} {ρ : List Addr}
theorem RelDs.length : ∀ {ds : List D} {vs : List V}, RelDs K H ρ ds vs → ds.length = vs.length
  | [], _, h => by cases h; rfl
  | _ :: ds, _, ⟨v, r, h1, _, h3⟩ => by subst h1; simp [RelDs.length h3]
theorem RelDs.get : ∀ {ds : List D} {vs : List V} {i : Nat} {d : D}, RelDs K H ρ ds vs → ds[i]? = some d → ∃ v, vs[i]? = some v ∧ RelD K H ρ d v
  | [], _, _, _, _, h => by simp at h
  | d :: ds, _, 0, _, ⟨v, r, h1, h2, h3⟩, h => by simp at h; subst h h1; exact ⟨v, rfl, h2⟩
  | d :: ds, _, i + 1, dd, ⟨v, r, h1, h2, h3⟩, h => by
    subst h1
    have h' : ds[i]? = some dd := by simpa using h
    obtain ⟨w, q1, q2⟩ := RelDs.get (i := i) h3 h'
    exact ⟨w, by simpa using q1, q2⟩
theorem RelDs.none {ds : List D} {vs : List V} {i : Nat} (r : RelDs K H ρ ds vs) (h : ds[i]? = none) : vs[i]? = none := by
  rw [List.getElem?_eq_none_iff] at h ⊢
  rw [← r.length]; exact h
theorem RelDs.app : ∀ {ds es : List D} {vs ws : List V}, RelDs K H ρ ds vs → RelDs K H ρ es ws → RelDs K H ρ (ds ++ es) (vs ++ ws)
  | [], _, _, _, h, q => by cases h; exact q
  | d :: ds, _, _, _, ⟨v, r, h1, h2, h3⟩, q => by subst h1; exact ⟨v, _, rfl, h2, RelDs.app h3 q⟩
theorem RelDs.one {d : D} {v : V} (h : RelD K H ρ d v) : RelDs K H ρ [d] [v] := ⟨v, [], rfl, h, rfl⟩
theorem RelDs.two {d e : D} {v w : V} (h : RelD K H ρ d v) (h' : RelD K H ρ e w) : RelDs K H ρ [d, e] [v, w] := ⟨v, [w], rfl, h, RelDs.one h'⟩
theorem RelDs.take : ∀ (n : Nat) {ds : List D} {vs : List V}, RelDs K H ρ ds vs → RelDs K H ρ (ds.take n) (vs.take n)
  | 0, _, _, _ => by simp [RelDs]
  | n + 1, [], _, h => by cases h; simp [RelDs]
  | n + 1, d :: ds, _, ⟨v, r, h1, h2, h3⟩ => by subst h1; exact ⟨v, _, rfl, h2, RelDs.take n h3⟩
theorem RelDs.drop : ∀ (n : Nat) {ds : List D} {vs : List V}, RelDs K H ρ ds vs → RelDs K H ρ (ds.drop n) (vs.drop n)
  | 0, _, _, h => by simpa using h
  | n + 1, [], _, h => by cases h; simp [RelDs]
  | n + 1, d :: ds, _, ⟨v, r, h1, h2, h3⟩ => by subst h1; simpa using RelDs.drop n h3
theorem RelDs.set : ∀ (n : Nat) {ds : List D} {vs : List V} {d : D} {v : V}, RelDs K H ρ ds vs → RelD K H ρ d v → RelDs K H ρ (ds.set n d) (vs.set n v)
  | _, [], _, _, _, h, _ => by cases h; simp [RelDs]
  | 0, d :: ds, _, _, _, ⟨v, r, h1, h2, h3⟩, q => by subst h1; exact ⟨_, _, rfl, q, h3⟩
  | n + 1, d :: ds, _, _, _, ⟨v, r, h1, h2, h3⟩, q => by subst h1; exact ⟨_, _, rfl, h2, RelDs.set n h3 q⟩
end rels
theorem CellOk.wx {O : Wo} {H H' : Hp} {ρ ρ' : List Addr} {a : Addr} {c : Cell} (e : Wx H ρ H' ρ') (h : CellOk O H ρ a c) (k : mutC c = true → ∀ o, H a = some o → H' a = some o) : CellOk O H' ρ' a c := by
  cases c with
  | lst ds => obtain ⟨vs, h1, h2⟩ := h; exact ⟨vs, k rfl _ h1, h2.wx e _⟩
  | dic ds => obtain ⟨vs, h1, h2⟩ := h; exact ⟨vs, k rfl _ h1, h2.wx e _⟩
  | ins C fs =>
    obtain ⟨Ca, ci, h1, h2, h3⟩ := h
    refine ⟨Ca, ci, h1, h2, ?_⟩
    cases hs : ci.slots with
    | none => simp only [hs] at h3 ⊢; obtain ⟨dx, ws, q1, q2⟩ := h3; exact ⟨dx, ws, k rfl _ q1, q2.wx e _⟩
    | some sl =>
      simp only [hs] at h3 ⊢
      obtain ⟨dx, vs, q0, q1, q2, q3⟩ := h3
      refine ⟨dx, vs, q0, ?_, q2, ?_⟩
      · rcases q1 with ⟨q1, q4⟩ | ⟨q1, q4⟩
        · exact .inl ⟨k rfl _ q1, q4⟩
        · exact .inr ⟨k rfl _ q1, e.nm _ _ q4 rfl id⟩
      · intro f d hf
        obtain ⟨i, v, r1, r2, r3⟩ := q3 f d hf
        exact ⟨i, v, r1, r2, r3.wx e _⟩
theorem CellOk.keep {O : Wo} {H H' : Hp} {ρ ρ' : List Addr} {a : Addr} {c : Cell} (e : Ext H ρ H' ρ') (h : CellOk O H ρ a c) (k : mutC c = true → ∀ o, H a = some o → H' a = some o) : CellOk O H' ρ' a c := h.wx e.wx k
theorem CellOk.there {O : Wo} {H : Hp} {ρ : List Addr} {a : Addr} {c : Cell} (h : CellOk O H ρ a c) (m : mutC c = true) : ∃ o, H a = some o ∧ Mut (some o) ∧ isOwn o = false := by
  cases c with
  | lst ds => obtain ⟨vs, h1, h2⟩ := h; exact ⟨_, h1, trivial, rfl⟩
  | dic ds => obtain ⟨vs, h1, h2⟩ := h; exact ⟨_, h1, trivial, rfl⟩
  | ins C fs =>
    obtain ⟨Ca, ci, h1, h2, h3⟩ := h
    cases hs : ci.slots with
    | none => simp only [hs] at h3; obtain ⟨dx, ws, q1, q2⟩ := h3; exact ⟨_, q1, trivial, rfl⟩
    | some sl =>
      simp only [hs] at h3
      obtain ⟨dx, vs, q0, q1, q2, q3⟩ := h3
      rcases q1 with ⟨q1, q4⟩ | ⟨q1, q4⟩
      · exact ⟨_, q1, trivial, rfl⟩
      · exact ⟨_, q1, trivial, rfl⟩
theorem Sim.notin {O : Wo} {H : Hp} {ρ : List Addr} {st : Sto} (s : Sim O H ρ st) {p : Addr} (hp : H p = none) : p ∉ ρ := by
  intro hm
  obtain ⟨n, hn, rfl⟩ := List.mem_iff_getElem.mp hm
  have h1 : ρ[n]? = some ρ[n] := by simp [hn]
  have hl : n < st.length := s.len ▸ hn
  have h2 : st[n]? = some st[n] := by simp [hl]
  have ok := s.ok n _ _ h1 h2
  cases hc : st[n] with
  | lst ds => obtain ⟨o, q, _⟩ := ok.there (by rw [hc]; rfl); rw [hp] at q; cases q
  | dic ds => obtain ⟨o, q, _⟩ := ok.there (by rw [hc]; rfl); rw [hp] at q; cases q
  | ins C fs => obtain ⟨o, q, _⟩ := ok.there (by rw [hc]; rfl); rw [hp] at q; cases q
theorem Ext.grow {H H' : Hp} {ρ m : List Addr} (h : ∀ b o, H b = some o → H' b = some o) (hm : ∀ b, b ∈ m → H b = none) : Ext H ρ H' (ρ ++ m) := by
  refine ⟨⟨m, rfl⟩, fun b o q _ _ => h b o q, ?_⟩
  intro b hb
  rcases List.mem_append.mp hb with hb | hb
  · exact .inl hb
  · right; intro o ho; rw [hm b hb] at ho; cases ho
theorem Ext.fresh {H : Hp} {ρ : List Addr} {p : Addr} {o : HO} (hp : H p = none) : Ext H ρ (upd H p o) ρ := by
  have := Ext.grow (H := H) (H' := upd H p o) (ρ := ρ) (m := []) (fun b o' q => by rw [upd_ne (ne_of_none q hp)]; exact q) (by simp)
  simpa using this
theorem Ext.alloc {H : Hp} {ρ : List Addr} {p : Addr} {o : HO} (hp : H p = none) : Ext H ρ (upd H p o) (ρ ++ [p]) :=
  Ext.grow (fun b o' q => by rw [upd_ne (ne_of_none q hp)]; exact q) (by simpa using hp)
theorem Sim.kept {O : Wo} {H H' : Hp} {ρ : List Addr} {st : Sto} (s : Sim O H ρ st) (h : ∀ b o, H b = some o → H' b = some o) : Sim O H' ρ st := by
  have e : Ext H ρ H' ρ := by simpa using Ext.grow (ρ := ρ) (m := []) h (by simp)
  exact ⟨s.len, s.nd, fun n a c h1 h2 => (s.ok n a c h1 h2).keep e fun _ o q => h a o q⟩
theorem Sim.fresh {O : Wo} {H : Hp} {ρ : List Addr} {st : Sto} {p : Addr} {o : HO} (s : Sim O H ρ st) (hp : H p = none) : Sim O (upd H p o) ρ st :=
  s.kept fun b o' q => by rw [upd_ne (ne_of_none q hp)]; exact q
theorem Sim.grow {O : Wo} {H H' : Hp} {ρ : List Addr} {st : Sto} {p : Addr} {c : Cell} (s : Sim O H ρ st) (h : ∀ b o, H b = some o → H' b = some o) (hp : H p = none) (hc : CellOk O H' (ρ ++ [p]) p c) : Sim O H' (ρ ++ [p]) (st ++ [c]) := by
  have e : Ext H ρ H' (ρ ++ [p]) := Ext.grow h (by simpa using hp)
  refine ⟨by simp [s.len], ?_, ?_⟩
  · intro m n a c1 c2 h1 h2 h3 h4 m1 m2
    have key : ∀ (n : Nat) (a : Addr) (c' : Cell), (ρ ++ [p])[n]? = some a → (st ++ [c])[n]? = some c' → mutC c' = true → (n < ρ.length ∧ ρ[n]? = some a ∧ st[n]? = some c' ∧ a ≠ p) ∨ (n = ρ.length ∧ a = p) := by
      intro n a c' h1 h3 m1
      by_cases hn : n < ρ.length
      · left
        rw [List.getElem?_append_left hn] at h1
        rw [List.getElem?_append_left (s.len ▸ hn)] at h3
        refine ⟨hn, h1, h3, ?_⟩
        obtain ⟨o, q, _⟩ := (s.ok n a c' h1 h3).there m1
        exact ne_of_none q hp
      · right
        rw [List.getElem?_append_right (by omega)] at h1
        have : n - ρ.length = 0 := by
          obtain ⟨hl, _⟩ := List.getElem?_eq_some_iff.mp h1
          simpa using hl
        rw [this] at h1
        simp at h1
        exact ⟨by omega, h1.symm⟩
    rcases key m a c1 h1 h3 m1 with ⟨a1, a2, a3, a4⟩ | ⟨a1, a2⟩
    · rcases key n a c2 h2 h4 m2 with ⟨b1, b2, b3, b4⟩ | ⟨b1, b2⟩
      · exact s.nd m n a c1 c2 a2 b2 a3 b3 m1 m2
      · exact absurd b2 a4
    · rcases key n a c2 h2 h4 m2 with ⟨b1, b2, b3, b4⟩ | ⟨b1, b2⟩
      · exact absurd a2 b4
      · omega
  · intro n a c' h1 h2
    by_cases hn : n < ρ.length
    · rw [List.getElem?_append_left hn] at h1
      rw [List.getElem?_append_left (s.len ▸ hn)] at h2
      exact (s.ok n a c' h1 h2).keep e fun _ o q => h a o q
    · rw [List.getElem?_append_right (by omega)] at h1
      have : n - ρ.length = 0 := by
        obtain ⟨hl, _⟩ := List.getElem?_eq_some_iff.mp h1
        simpa using hl
      rw [this] at h1
      rw [List.getElem?_append_right (by have := s.len; omega), ← s.len, this] at h2
      simp at h1 h2
      subst h1 h2
      exact hc
theorem Sim.alloc {O : Wo} {H : Hp} {ρ : List Addr} {st : Sto} {p : Addr} {o : HO} {c : Cell} (s : Sim O H ρ st) (hp : H p = none) (hc : CellOk O (upd H p o) (ρ ++ [p]) p c) : Sim O (upd H p o) (ρ ++ [p]) (st ++ [c]) :=
  s.grow (fun b o' q => by rw [upd_ne (ne_of_none q hp)]; exact q) hp hc
theorem Ext.change {H H' : Hp} {ρ : List Addr} {a : Addr} (ha : a ∈ ρ) (hm : ∀ o, H a = some o → Mut (some o)) (h : ∀ b o, b ≠ a → H b = some o → isOwn o = false → H' b = some o) : Ext H ρ H' ρ := by
  refine ⟨⟨[], by simp⟩, ?_, fun b hb => .inl hb⟩
  intro b o hb ho hmo
  by_cases hba : b = a
  · subst hba
    rcases hmo with hmo | hmo
    · exact absurd ha hmo
    · exact absurd (hm o hb) hmo
  · exact h b o hba hb ho
theorem Sim.change {O : Wo} {H H' : Hp} {ρ : List Addr} {st : Sto} {n : Nat} {a : Addr} {c c' : Cell} (s : Sim O H ρ st) (hn : ρ[n]? = some a) (hc : st[n]? = some c) (mc : mutC c = true)
    (h : ∀ b o, b ≠ a → H b = some o → isOwn o = false → H' b = some o) (hc' : Ext H ρ H' ρ → CellOk O H' ρ a c') : Ext H ρ H' ρ ∧ Sim O H' ρ (st.set n c') := by
  have e : Ext H ρ H' ρ := by
    refine Ext.change (List.mem_of_getElem? hn) ?_ h
    intro o ho
    obtain ⟨o', q, q', _⟩ := (s.ok n a c hn hc).there mc
    rw [ho] at q; cases q; exact q'
  have hl : n < st.length := (List.getElem?_eq_some_iff.mp hc).1
  have get : ∀ (m : Nat) (x : Cell), (st.set n c')[m]? = some x → (m = n ∧ x = c') ∨ (m ≠ n ∧ st[m]? = some x) := by
    intro m x hx
    by_cases hmn : m = n
    · subst hmn
      rw [List.getElem?_set_self hl] at hx
      exact .inl ⟨rfl, by simpa using hx.symm⟩
    · rw [List.getElem?_set_ne (Ne.symm hmn)] at hx
      exact .inr ⟨hmn, hx⟩
  refine ⟨e, by simp [s.len], ?_, ?_⟩
  · intro m k b c1 c2 h1 h2 h3 h4 m1 m2
    rcases get m c1 h3 with ⟨rfl, _⟩ | ⟨g1, g2⟩
    · rcases get k c2 h4 with ⟨rfl, _⟩ | ⟨k1, k2⟩
      · rfl
      · exact s.nd _ _ b c c2 h1 h2 hc k2 mc m2
    · rcases get k c2 h4 with ⟨rfl, _⟩ | ⟨k1, k2⟩
      · exact s.nd _ _ b c1 c h1 h2 g2 hc m1 mc
      · exact s.nd _ _ b c1 c2 h1 h2 g2 k2 m1 m2
  · intro m b x h1 h2
    rcases get m x h2 with ⟨rfl, rfl⟩ | ⟨g1, g2⟩
    · rw [hn] at h1; cases h1; exact hc' e
    · refine (s.ok m b x h1 g2).keep e ?_
      intro mx o ho
      obtain ⟨o', q, _, q'⟩ := (s.ok m b x h1 g2).there mx
      rw [ho] at q; cases q
      refine h b o ?_ ho q'
      intro hba
      subst hba
      exact g1 (s.nd m n b x c h1 hn g2 hc mx mc)
theorem Sim.write {O : Wo} {H : Hp} {ρ : List Addr} {st : Sto} {n : Nat} {a : Addr} {c c' : Cell} {o : HO} (s : Sim O H ρ st) (hn : ρ[n]? = some a) (hc : st[n]? = some c) (mc : mutC c = true)
    (hc' : Ext H ρ (upd H a o) ρ → CellOk O (upd H a o) ρ a c') : Ext H ρ (upd H a o) ρ ∧ Sim O (upd H a o) ρ (st.set n c') :=
  s.change hn hc mc (fun b o' hb q _ => by rw [upd_ne hb]; exact q) hc'
theorem Wx.updL {H : Hp} {ρ : List Addr} {p : Addr} {xs : List V} {o : HO} (h : H p = some (.lst xs)) : Wx H ρ (upd H p o) ρ := by
  refine ⟨fun _ _ h => h, fun b o' hb _ hm => ?_⟩
  rw [upd_ne]
  · exact hb
  · rintro rfl; rw [h] at hb; cases hb; exact hm trivial
theorem Sim.updL {O : Wo} {H : Hp} {ρ : List Addr} {st : Sto} {p : Addr} {xs : List V} {o : HO} (s : Sim O H ρ st) (h : H p = some (.lst xs)) (hp : p ∉ ρ) : Sim O (upd H p o) ρ st :=
  ⟨s.len, s.nd, fun n a c h1 h2 => (s.ok n a c h1 h2).wx (Wx.updL h) fun _ o q => by
    rw [upd_ne]
    · exact q
    · rintro rfl; exact hp (List.mem_of_getElem? h1)⟩
theorem Ext.updFree {H1 H : Hp} {ρ1 ρ : List Addr} {p : Addr} {o : HO} (e : Ext H1 ρ1 H ρ) (h : H1 p = none) : Ext H1 ρ1 (upd H p o) ρ :=
  ⟨e.more, fun b o' hb ho hm => by rw [upd_ne (ne_of_none hb h)]; exact e.fr b o' hb ho hm, e.nw⟩
theorem Ext.adopt {H1 H : Hp} {ρ1 ρ : List Addr} {p : Addr} (e : Ext H1 ρ1 H ρ) (h : H1 p = none) : Ext H1 ρ1 H (ρ ++ [p]) := by
  refine ⟨?_, e.fr, ?_⟩
  · obtain ⟨m, rfl⟩ := e.more; exact ⟨m ++ [p], by simp⟩
  · intro b hb
    rcases List.mem_append.mp hb with hb | hb
    · exact e.nw b hb
    · simp at hb; subst hb; right; intro o ho; rw [h] at ho; cases ho
theorem Sim.adopt {O : Wo} {H : Hp} {ρ : List Addr} {st : Sto} {p : Addr} {c : Cell} (s : Sim O H ρ st) (hp : p ∉ ρ) (hc : CellOk O H (ρ ++ [p]) p c) : Sim O H (ρ ++ [p]) (st ++ [c]) := by
  have e : Wx H ρ H (ρ ++ [p]) := ⟨fun n a h => by rw [List.getElem?_append_left (List.getElem?_eq_some_iff.mp h).1]; exact h, fun _ _ h _ _ => h⟩
  refine ⟨by simp [s.len], ?_, ?_⟩
  · intro m n a c1 c2 h1 h2 h3 h4 m1 m2
    have key : ∀ (n : Nat) (a : Addr) (c' : Cell), (ρ ++ [p])[n]? = some a → (st ++ [c])[n]? = some c' → (n < ρ.length ∧ ρ[n]? = some a ∧ st[n]? = some c' ∧ a ≠ p) ∨ (n = ρ.length ∧ a = p) := by
      intro n a c' h1 h3
      by_cases hn : n < ρ.length
      · left
        rw [List.getElem?_append_left hn] at h1
        rw [List.getElem?_append_left (s.len ▸ hn)] at h3
        refine ⟨hn, h1, h3, ?_⟩
        intro hap
        exact hp (hap ▸ List.mem_of_getElem? h1)
      · right
        rw [List.getElem?_append_right (by omega)] at h1
        have : n - ρ.length = 0 := by
          obtain ⟨hl, _⟩ := List.getElem?_eq_some_iff.mp h1
          simpa using hl
        rw [this] at h1
        simp at h1
        exact ⟨by omega, h1.symm⟩
    rcases key m a c1 h1 h3 with ⟨a1, a2, a3, a4⟩ | ⟨a1, a2⟩
    · rcases key n a c2 h2 h4 with ⟨b1, b2, b3, b4⟩ | ⟨b1, b2⟩
      · exact s.nd m n a c1 c2 a2 b2 a3 b3 m1 m2
      · exact absurd b2 a4
    · rcases key n a c2 h2 h4 with ⟨b1, b2, b3, b4⟩ | ⟨b1, b2⟩
      · exact absurd a2 b4
      · omega
  · intro n a c' h1 h2
    by_cases hn : n < ρ.length
    · rw [List.getElem?_append_left hn] at h1
      rw [List.getElem?_append_left (s.len ▸ hn)] at h2
      exact (s.ok n a c' h1 h2).wx e fun _ o q => q
    · rw [List.getElem?_append_right (by omega)] at h1
      have : n - ρ.length = 0 := by
        obtain ⟨hl, _⟩ := List.getElem?_eq_some_iff.mp h1
        simpa using hl
      rw [this] at h1
      rw [List.getElem?_append_right (by have := s.len; omega), ← s.len, this] at h2
      simp at h1 h2
      subst h1 h2
      exact hc
theorem Ext.out {H H' : Hp} {ρ ρ' : List Addr} (e : Ext H ρ H' ρ') {p : Addr} {o : HO} (h : H p = some o) (ho : isOwn o = false) (hm : Mut (some o)) (hp : p ∉ ρ) : p ∉ ρ' ∧ H' p = some o := by
  refine ⟨?_, e.fr p o h ho (.inl hp)⟩
  intro hc
  rcases e.nw p hc with h1 | h1
  · exact hp h1
  · rcases h1 o h with h2 | h2
    · rw [ho] at h2; cases h2
    · exact h2 hm
end Mi
set_option autoImplicit false
namespace Mi
open PySem PySem.Spec PyProof.Rows L2 SlX
abbrev XW := Value → Option Addr → L2.St → Hp → Prop
def RelX (O : Wo) (H : Hp) (ρ : List Addr) (x : Xc) (c : Value) (d : Option Addr) : Prop := O.mg x.cls = some c ∧ match x.fs with
  | none => d = none
  | some fs => ∃ a ws, d = some a ∧ H a = some (.xd ws) ∧ RelFs O.K H ρ fs ws
def Pst {α β : Type} (O : Wo) (W : XW) (σ : L2.St) (rel : Hp → List Addr → α → β → Prop) (Q : β → Hp → Prop) (H : Hp) (ρ : List Addr) : R α → Prop
  | .ok a st => ∀ (ρ' : List Addr) (b : β) (H' : Hp), Ext H ρ H' ρ' → Sim O H' ρ' st → rel H' ρ' a b → Q b H'
  | .ex x st => ∀ (ρ' : List Addr) (c : Value) (d : Option Addr) (H' : Hp), Ext H ρ H' ρ' → Sim O H' ρ' st → RelX O H' ρ' x c d → W c d σ H'
  | .bad => False
abbrev rD (O : Wo) : Hp → List Addr → D → V → Prop := fun H ρ d v => RelD O.K H ρ d v
abbrev rDs (O : Wo) : Hp → List Addr → List D → List V → Prop := fun H ρ d v => RelDs O.K H ρ d v
abbrev rId {α : Type} : Hp → List Addr → α → α → Prop := fun _ _ a b => b = a
def tOf {α β : Type} (O : Wo) (W : XW) (rel : Hp → List Addr → α → β → Prop) (ev : Lo → Sto → R α) : L2.St → Hp → (β → Hp → Prop) → Prop :=
  fun σ H Q => ∃ ρ lo st, Sim O H ρ st ∧ LoOk O H ρ lo σ ∧ Pst O W σ rel Q H ρ (ev lo st)
section pst
variable {α β γ δ : Type} {O : Wo} {W : XW} {σ : L2.St} {rel : Hp → List Addr → α → β → Prop} {rel' : Hp → List Addr → γ → δ → Prop} {H H' : Hp} {ρ ρ' : List Addr}
theorem Pst.later {Q : β → Hp → Prop} {r : R α} (e : Ext H ρ H' ρ') (h : Pst O W σ rel Q H ρ r) : Pst O W σ rel Q H' ρ' r := by
  cases r with
  | ok a st => exact fun ρ2 b H2 e2 s q => h ρ2 b H2 (e.trans e2) s q
  | ex x st => exact fun ρ2 c d H2 e2 s q => h ρ2 c d H2 (e.trans e2) s q
  | bad => exact h
theorem Pst.bind {Q : δ → Hp → Prop} {Q' : β → Hp → Prop} {r : R α} {f : α → Sto → R γ} (h : Pst O W σ rel' Q H ρ (r.bind f))
    (k : ∀ (a : α) (st : Sto) (ρ1 : List Addr) (b : β) (H1 : Hp), Ext H ρ H1 ρ1 → Sim O H1 ρ1 st → rel H1 ρ1 a b → Pst O W σ rel' Q H1 ρ1 (f a st) → Q' b H1) : Pst O W σ rel Q' H ρ r := by
  cases r with
  | ok a st => exact fun ρ2 b H2 e2 s q => k a st ρ2 b H2 e2 s q (Pst.later e2 h)
  | ex x st => exact h
  | bad => exact h
theorem Pst.mono {Q Q' : β → Hp → Prop} {r : R α} (h : Pst O W σ rel Q H ρ r) (k : ∀ b H1, Q b H1 → Q' b H1) : Pst O W σ rel Q' H ρ r := by
  cases r with
  | ok a st => exact fun ρ2 b H2 e2 s q => k _ _ (h ρ2 b H2 e2 s q)
  | ex x st => exact h
  | bad => exact h
theorem Pst.lift {Q : β → Hp → Prop} {o : Option (α × Sto)} (h : Pst O W σ rel Q H ρ (lift o)) : ∃ a st, o = some (a, st) ∧ ∀ (ρ' : List Addr) (b : β) (H' : Hp), Ext H ρ H' ρ' → Sim O H' ρ' st → rel H' ρ' a b → Q b H' := by
  rcases o with _ | ⟨a, st⟩
  · exact absurd h id
  · exact ⟨a, st, rfl, h⟩
theorem Pst.now {Q : β → Hp → Prop} {a : α} {b : β} {st : Sto} (h : Pst O W σ rel Q H ρ (.ok a st)) (s : Sim O H ρ st) (r : rel H ρ a b) : Q b H := h ρ b H (Ext.refl _ _) s r
end pst
section mono
variable {X : Cx}
theorem PE.mono {e : Expr} {t t' : TE} (h : PE X e t) (k : ∀ σ H Q, t' σ H Q → t σ H Q) : PE X e t' := ⟨fun pins s σ H Q I q => h.run pins s σ H Q I (k σ H Q q)⟩
theorem PT.mono {e : Expr} {t t' : TT} (h : PT X e t) (k : ∀ σ H Q, t' σ H Q → t σ H Q) : PT X e t' := ⟨fun pins s σ H Q I q => h.run pins s σ H Q I (k σ H Q q)⟩
theorem PW.mono {e : Expr} {t t' : TT} (h : PW X e t) (k : ∀ σ H Q, t' σ H Q → t σ H Q) : PW X e t' := ⟨fun wh pins s σ H Q I q => h.run wh pins s σ H Q I (k σ H Q q)⟩
theorem PA.mono {e : List Expr} {t t' : TA} (h : PA X e t) (k : ∀ σ H Q, t' σ H Q → t σ H Q) : PA X e t' := ⟨fun pos pins s σ H Q I q => h.run pos pins s σ H Q I (k σ H Q q)⟩
theorem PS.mono {e : Stmt} {t t' : TS} (h : PS X e t) (k : ∀ D σ H, t' D σ H → t D σ H) : PS X e t' := ⟨fun pins s σ H D I q => h.run pins s σ H D I (k D σ H q)⟩
theorem PSs.mono {e : List Stmt} {t t' : TS} (h : PSs X e t) (k : ∀ D σ H, t' D σ H → t D σ H) : PSs X e t' := ⟨fun pins s σ H D I q => h.run pins s σ H D I (k D σ H q)⟩
theorem PG.mono {e : Expr} {t t' : TG} (h : PG X e t) (k : ∀ v σ H Q, t' v σ H Q → t v σ H Q) : PG X e t' := ⟨fun pins s σ H v u Q I r q => h.run pins s σ H v u Q I r (k v σ H Q q)⟩
theorem PGs.mono {e : List Expr} {t t' : TGs} (h : PGs X e t) (k : ∀ v σ H Q, t' v σ H Q → t v σ H Q) : PGs X e t' := ⟨fun pins s σ H v u Q I r q => h.run pins s σ H v u Q I r (k v σ H Q q)⟩
theorem PI.mono {tg e : Expr} {t t' : TI} (h : PI X tg e t) (k : ∀ σ H Q, t' σ H Q → t σ H Q) : PI X tg e t' := ⟨fun pins s σ H R I q => h.run pins s σ H R I (k σ H R q)⟩
theorem PO.mono {e : Option Expr} {t t' : TO} (h : PO X e t) (k : ∀ σ H Q, t' σ H Q → t σ H Q) : PO X e t' := ⟨fun pins s σ H Q I q => h.run pins s σ H Q I (k σ H Q q)⟩
theorem OpR.mono {f : Value → Value → Sem Value} {r r' : R2} (h : OpR X f r) (k : ∀ x y H Q, r' x y H Q → r x y H Q) : OpR X f r' := fun pins s σ H x y v u Q I rx ry q => h pins s σ H x y v u Q I rx ry (k x y H Q q)
theorem IxR.mono {r r' : R2} (h : IxR X r) (k : ∀ x y H Q, r' x y H Q → r x y H Q) : IxR X r' := fun va sl pins s σ H x y v u Q I rx ry q => h va sl pins s σ H x y v u Q I rx ry (k x y H Q q)
theorem CallR.mono {f : Value} {r r' : List V → Hp → VK → Prop} (h : CallR X f r) (k : ∀ x H Q, r' x H Q → r x H Q) : CallR X f r' := fun pins s σ H x u Q I rx q => h pins s σ H x u Q I rx (k x H Q q)
theorem MtM.mono {f : String} {r r' : V → List V → Hp → VK → Prop} (h : MtM X f r) (k : ∀ y x H Q, r' y x H Q → r y x H Q) : MtM X f r' := fun pins s σ H y x v u Q I ry rx q => h pins s σ H y x v u Q I ry rx (k y x H Q q)
theorem SlR.mono {r r' : V → Option Int → Option Int → Hp → VK → Prop} (h : SlR X r) (k : ∀ y a b H Q, r' y a b H Q → r y a b H Q) : SlR X r' := fun pins s σ H y v vl vu lo hi sl Q I ry hs p1 p2 q => h pins s σ H y v vl vu lo hi sl Q I ry hs p1 p2 (k y lo hi H Q q)
theorem PSet.mono {t t' : TSet} (h : PSet X t) (k : ∀ o i v H Q, t' o i v H Q → t o i v H Q) : PSet X t' := fun pins s σ H o i v ov iv u Q I r1 r2 r3 q => h pins s σ H o i v ov iv u Q I r1 r2 r3 (k o i v H Q q)
theorem PIp.mono {op : Operator} {t t' : TIp} (h : PIp X op t) (k : ∀ x y H Q, t' x y H Q → t x y H Q) : PIp X op t' := fun pins s σ H x y v u Q I r1 r2 q => h pins s σ H x y v u Q I r1 r2 (k x y H Q q)
end mono
def rPrim (O : Wo) (f : D → D → Sto → Option (D × Sto)) : R2 := fun x y H Q => ∃ ρ st a b d st', Sim O H ρ st ∧ RelD O.K H ρ a x ∧ RelD O.K H ρ b y ∧ f a b st = some (d, st') ∧ ∀ ρ' v H', Ext H ρ H' ρ' → Sim O H' ρ' st' → RelD O.K H' ρ' d v → Q v H'
theorem szOk_line {n : Nat} (h : szOk n = true) : n ≤ sizeLine := by
  have h1 : n ≤ 1000000 := of_decide_eq_true h
  have h2 : sizeLine = 16777216 := by decide
  omega
theorem szOk_line' {n : Nat} (h : szOk n = true) : n < sizeLine := by
  have h1 : n ≤ 1000000 := of_decide_eq_true h
  have h2 : sizeLine = 16777216 := by decide
  omega
theorem asM_eq {st : Sto} {n : Nat} {xs : List D} (h : asM st n = some xs) : st[n]? = some (.lst xs) := by
  unfold asM at h
  split at h
  · next e => cases h; exact e
  · cases h
section seqs
variable {O : Wo} {H : Hp} {ρ : List Addr} {st : Sto}
theorem Sim.lst (s : Sim O H ρ st) {n : Nat} {xs : List D} {v : V} (h : asM st n = some xs) (r : RelD O.K H ρ (.loc n) v) : ∃ a vs, v = .ref a ∧ ρ[n]? = some a ∧ H a = some (.lst vs) ∧ RelDs O.K H ρ xs vs := by
  obtain ⟨a, rfl, ha⟩ := r
  obtain ⟨vs, h1, h2⟩ := s.ok n a _ ha (asM_eq h)
  exact ⟨a, vs, rfl, ha, h1, h2⟩
theorem Sim.seq (s : Sim O H ρ st) {n : Nat} {xs : List D} {v : V} (h : asL st n = some xs) (r : RelD O.K H ρ (.loc n) v) : ∃ a vs, v = .ref a ∧ ρ[n]? = some a ∧ SqL O.K H a vs ∧ RelDs O.K H ρ xs vs := by
  obtain ⟨a, rfl, ha⟩ := r
  unfold asL at h
  split at h
  · next e => cases h; obtain ⟨vs, h1, h2⟩ := s.ok n a _ ha e; exact ⟨a, vs, rfl, ha, SqL.of h1, h2⟩
  · cases h
theorem rel_ints (K : PySem.W.Frag) (H : Hp) (ρ : List Addr) : ∀ ns : List Int, RelDs K H ρ (ns.map .int) (ns.map V.int)
  | [] => rfl
  | n :: ns => ⟨.int n, _, rfl, rfl, rel_ints K H ρ ns⟩
theorem Sim.seqOf (s : Sim O H ρ st) {d : D} {xs : List D} {v : V} (h : seqOf st d = some xs) (r : RelD O.K H ρ d v) : ∃ a vs, v = .ref a ∧ (SqL O.K H a vs ∨ SqT O.K H a vs) ∧ RelDs O.K H ρ xs vs := by
  unfold Mi.seqOf at h
  split at h
  · cases h; obtain ⟨a, vs, h1, h2, h3⟩ := r; exact ⟨a, vs, h1, .inr h2, h3⟩
  · obtain ⟨a, vs, h1, _, h3, h4⟩ := s.seq h r; exact ⟨a, vs, h1, .inl h3, h4⟩
  · next ns => cases h; obtain ⟨a, h1, h2⟩ := r; exact ⟨a, _, h1, .inl h2.sq, rel_ints _ _ _ ns⟩
  · cases h
theorem lay_lst (s : Sim O H ρ st) {ds : List D} {vs : List V} (r : RelDs O.K H ρ ds vs) {p : Addr} (hp : H p = none) :
    Ext H ρ (upd H p (.lst vs)) (ρ ++ [p]) ∧ Sim O (upd H p (.lst vs)) (ρ ++ [p]) (st ++ [.lst ds]) ∧ RelD O.K (upd H p (.lst vs)) (ρ ++ [p]) (.loc st.length) (.ref p) := by
  have e : Ext H ρ (upd H p (.lst vs)) (ρ ++ [p]) := Ext.alloc hp
  refine ⟨e, s.alloc hp ⟨vs, upd_same, r.ext e _⟩, p, rfl, ?_⟩
  rw [← s.len]; simp
theorem lay_tup (s : Sim O H ρ st) {ds : List D} {vs : List V} (r : RelDs O.K H ρ ds vs) {p : Addr} (hp : H p = none) :
    Ext H ρ (upd H p (.tup vs)) ρ ∧ Sim O (upd H p (.tup vs)) ρ st ∧ RelD O.K (upd H p (.tup vs)) ρ (.tup ds) (.ref p) := by
  have e : Ext H ρ (upd H p (.tup vs)) ρ := Ext.fresh hp
  exact ⟨e, s.fresh hp, p, vs, rfl, SqT.of upd_same, r.ext e _⟩
end seqs
theorem flat_rep {K : PySem.W.Frag} {H : Hp} {ρ : List Addr} {ds : List D} {vs : List V} (r : RelDs K H ρ ds vs) : ∀ k : Nat, RelDs K H ρ (List.replicate k ds).flatten (List.replicate k vs).flatten
  | 0 => rfl
  | k + 1 => by simp only [List.replicate_succ, List.flatten_cons]; exact r.app (flat_rep r k)
section ops
variable {X : Cx} {O : Wo} (hK : X.K = O.K)
include hK
theorem s_add : OpR X (binaryOp .Add) (rPrim O (binD .Add)) := by
  refine OpR.mono (OpR.or op_add (OpR.or op_add_str (OpR.or op_catA op_cat))) ?_
  rintro x y H Q ⟨ρ, st, a, b, d, st', sim, ra, rb, e, q⟩
  unfold binD at e
  split at e <;> try contradiction
  · next i j _ => cases e; exact .inl ⟨i, j, ra, rb, q ρ _ H (Ext.refl _ _) sim rfl⟩
  · next i j _ => split at e <;> try contradiction
                  next hz => cases e; exact .inr (.inl ⟨i, j, ra, rb, szOk_line hz, q ρ _ H (Ext.refl _ _) sim rfl⟩)
  · next xs ys _ =>
    split at e <;> try contradiction
    next hz =>
      cases e
      obtain ⟨a1, vs, rfl, h1, r1⟩ := ra
      obtain ⟨a2, ws, rfl, h2, r2⟩ := rb
      refine .inr (.inr (.inl ⟨a1, a2, vs, ws, rfl, rfl, hK ▸ h1, hK ▸ h2, ?_, ?_, ?_, ?_⟩))
      · rw [← r1.length, ← r2.length]; exact szOk_line hz
      · rintro rfl
        have := r1.length
        have hx : xs = [] := List.length_eq_zero_iff.mp (by simpa using this)
        subst hx
        exact q ρ _ H (Ext.refl _ _) sim ⟨a2, ws, rfl, h2, by simpa using r2⟩
      · rintro _ rfl
        have := r2.length
        have hx : ys = [] := List.length_eq_zero_iff.mp (by simpa using this)
        subst hx
        exact q ρ _ H (Ext.refl _ _) sim ⟨a1, vs, rfl, h1, by simpa using r1⟩
      · intro _ _ p hp
        obtain ⟨e1, s1, q1⟩ := lay_tup sim (r1.app r2) hp
        exact q ρ _ _ e1 s1 q1
  · next m n _ =>
    split at e <;> try contradiction
    next xs ys hm hn =>
    split at e <;> try contradiction
    next hz =>
      cases e
      obtain ⟨a1, vs, rfl, _, h1, r1⟩ := sim.lst hm ra
      obtain ⟨a2, ws, rfl, _, h2, r2⟩ := sim.lst hn rb
      refine .inr (.inr (.inr ⟨a1, a2, vs, ws, rfl, rfl, h1, h2, ?_, ?_⟩))
      · rw [← r1.length, ← r2.length]; exact szOk_line hz
      · intro p hp
        obtain ⟨e1, s1, q1⟩ := lay_lst sim (r1.app r2) hp
        exact q _ _ _ e1 s1 q1
omit hK in
theorem s_sub : OpR X (binaryOp .Sub) (rPrim O (binD .Sub)) := by
  refine OpR.mono op_sub ?_
  rintro x y H Q ⟨ρ, st, a, b, d, st', sim, ra, rb, e, q⟩
  unfold binD at e
  split at e <;> try contradiction
  next i j _ => cases e; exact ⟨i, j, ra, rb, q ρ _ H (Ext.refl _ _) sim rfl⟩
omit hK in
theorem s_mul : OpR X (binaryOp .Mult) (rPrim O (binD .Mult)) := by
  refine OpR.mono (OpR.or op_mulW op_rep) ?_
  rintro x y H Q ⟨ρ, st, a, b, d, st', sim, ra, rb, e, q⟩
  unfold binD at e
  split at e <;> try contradiction
  · next i j _ => split at e <;> try contradiction
                  next hz => cases e; exact .inl ⟨i, j, ra, rb, (of_decide_eq_true (p := i.natAbs.log2 + j.natAbs.log2 < 1000000) hz : CMulW i j), q ρ _ H (Ext.refl _ _) sim rfl⟩
  · next m k _ =>
    split at e <;> try contradiction
    next xs hm =>
    split at e <;> try contradiction
    next hz =>
      cases e
      simp only [Bool.and_eq_true] at hz
      obtain ⟨⟨hz, hk⟩, hk'⟩ := hz
      have hk := of_decide_eq_true hk
      have hk' := of_decide_eq_true hk'
      obtain ⟨a1, vs, rfl, _, h1, r1⟩ := sim.lst hm ra
      refine .inr ⟨a1, k, vs, rfl, rb, h1, by omega, by omega, ?_, ?_⟩
      · rw [← r1.length]; exact szOk_line hz
      · intro p hp
        obtain ⟨e1, s1, q1⟩ := lay_lst sim (flat_rep r1 k.toNat) hp
        exact q _ _ _ e1 s1 q1
omit hK in
theorem s_fdiv : OpR X (binaryOp .FloorDiv) (rPrim O (binD .FloorDiv)) := by
  refine OpR.mono (opI (C := fun _ j => j ≠ 0 ∧ j.natAbs.log2 < 9000) (g := fun i j => i.fdiv j) fun i j _ _ _ _ _ hc q => floordiv_int hc.1 q (.inl (PyProof.noPylong_of_log2 hc.2))) ?_
  rintro x y H Q ⟨ρ, st, a, b, d, st', sim, ra, rb, e, q⟩
  unfold binD at e
  split at e <;> try contradiction
  next i j _ =>
    split at e <;> try contradiction
    next hz =>
      cases e
      simp only [divOk, Bool.and_eq_true] at hz
      exact ⟨i, j, ra, rb, ⟨of_decide_eq_true hz.1, of_decide_eq_true hz.2⟩, q ρ _ H (Ext.refl _ _) sim rfl⟩
omit hK in
theorem s_mod : OpR X (binaryOp .Mod) (rPrim O (binD .Mod)) := by
  refine OpR.mono op_modN ?_
  rintro x y H Q ⟨ρ, st, a, b, d, st', sim, ra, rb, e, q⟩
  unfold binD at e
  split at e <;> try contradiction
  next i j _ =>
    split at e <;> try contradiction
    next hz => cases e; exact ⟨i, j, ra, rb, of_decide_eq_true hz, q ρ _ H (Ext.refl _ _) sim rfl⟩
omit hK in
theorem s_pow : OpR X (binaryOp .Pow) (rPrim O (binD .Pow)) := by
  refine OpR.mono op_pow ?_
  rintro x y H Q ⟨ρ, st, a, b, d, st', sim, ra, rb, e, q⟩
  unfold binD at e
  split at e <;> try contradiction
  next i j _ =>
    split at e <;> try contradiction
    next hz =>
      cases e
      simp only [powOk, Bool.and_eq_true] at hz
      exact ⟨i, j, ra, rb, ⟨of_decide_eq_true hz.1.1, of_decide_eq_true hz.1.2, of_decide_eq_true hz.2⟩, q ρ _ H (Ext.refl _ _) sim rfl⟩
omit hK in
theorem none_prim {f : Value → Value → Sem Value} {g : D → D → Sto → Option (D × Sto)} (h : ∀ a b st, g a b st = none) : OpR X f (rPrim O g) := by
  rintro pins s σ H x y v u Q I rx ry ⟨ρ, st, a, b, d, st', sim, ra, rb, e, q⟩
  rw [h] at e; cases e
theorem s_bin (op : Operator) : OpR X (binaryOp op) (rPrim O (binD op)) := by
  cases op
  case Add => exact s_add hK
  case Sub => exact s_sub
  case Mult => exact s_mul
  case FloorDiv => exact s_fdiv
  case Mod => exact s_mod
  case Pow => exact s_pow
  all_goals exact none_prim fun a b st => by unfold binD; rfl
end ops
end Mi
set_option autoImplicit false
namespace Mi
open PySem PySem.Spec PyProof.Rows L2 SlX
/-- the context's ties to the world -/
structure Gd (O : Wo) (X : Cx) : Prop where
  K : X.K = O.K
  mg : X.mg = O.mg
  calm : X.calm = true
  units : X.A.units + 65 < cLine
  nd : X.N.Nodup
section data
variable {O : Wo} {H : Hp} {ρ : List Addr} {st : Sto}
mutual
theorem toPw_ok {f : Nat → Option PyData} (hf : ∀ n p, f n = some p → ∀ v, RelD O.K H ρ (.loc n) v → Dp O.K H v p) : ∀ (d : D) (p : PyData) (v : V), toPw f d = some p → RelD O.K H ρ d v → Dp O.K H v p
  | .non, p, v, h, r => by simp only [toPw, Option.some.injEq] at h; subst h; cases r; exact .non
  | .bl b, p, v, h, r => by simp only [toPw, Option.some.injEq] at h; subst h; cases r; exact .bl b
  | .int i, p, v, h, r => by simp only [toPw, Option.some.injEq] at h; subst h; cases r; exact .int i
  | .str x, p, v, h, r => by simp only [toPw, Option.some.injEq] at h; subst h; cases r; exact .str x
  | .tup xs, p, v, h, r => by
    simp only [toPw, Option.map_eq_some_iff] at h
    obtain ⟨ps, h1, rfl⟩ := h
    obtain ⟨a, vs, rfl, h2, h3⟩ := r
    exact .tup h2 (toPws_ok hf xs ps vs h1 h3)
  | .loc n, p, v, h, r => hf n p h v r
  | .ty _, p, v, h, r => by simp [toPw] at h
  | .fn _, p, v, h, r => by simp [toPw] at h
  | .fz _, p, v, h, r => by simp [toPw] at h
theorem toPws_ok {f : Nat → Option PyData} (hf : ∀ n p, f n = some p → ∀ v, RelD O.K H ρ (.loc n) v → Dp O.K H v p) : ∀ (ds : List D) (ps : List PyData) (vs : List V), toPws f ds = some ps → RelDs O.K H ρ ds vs → DpAll O.K H vs ps
  | [], ps, vs, h, r => by simp only [toPws, Option.some.injEq] at h; subst h; cases r; exact .nil
  | d :: ds, ps, vs, h, r => by
    obtain ⟨v, r', rfl, r1, r2⟩ := r
    simp only [toPws] at h
    split at h
    · next y ys h1 h2 => cases h; exact .cons (toPw_ok hf d y v h1 r1) (toPws_ok hf ds ys r' h2 r2)
    · cases h
end
theorem locP_ok (s : Sim O H ρ st) : ∀ (k n : Nat) (p : PyData), locP st k n = some p → ∀ v, RelD O.K H ρ (.loc n) v → Dp O.K H v p
  | 0, n, p, h, v, r => by simp [locP] at h
  | k + 1, n, p, h, v, r => by
    simp only [locP] at h
    split at h
    · next xs hx =>
      simp only [Option.map_eq_some_iff] at h
      obtain ⟨ps, h1, rfl⟩ := h
      obtain ⟨a, vs, rfl, _, h2, h3⟩ := s.seq hx r
      exact .lst h2 (toPws_ok (locP_ok s k) xs ps vs h1 h3)
    · cases h
theorem toP_ok (s : Sim O H ρ st) {d : D} {p : PyData} {v : V} (h : toP st d = some p) (r : RelD O.K H ρ d v) : Dp O.K H v p := toPw_ok (locP_ok s 4) d p v h r
end data
def isNon : D → Bool
  | .non => true
  | _ => false
theorem is_non (a : D) (st : Sto) : cmpD .Is a .non st = some (isNon a) := by cases a <;> rfl
theorem isnot_non (a : D) (st : Sto) : cmpD .IsNot a .non st = some (!isNon a) := by cases a <;> rfl
def cmpP (op : CmpOp) : D → D → Sto → Option (D × Sto) := fun a b st => (cmpD op a b st).map fun c => (.bl c, st)
theorem RelD.non_iff {K : PySem.W.Frag} {H : Hp} {ρ : List Addr} {a : D} {v : V} (r : RelD K H ρ a v) : decide (v = .non) = isNon a := by
  cases a with
  | non => cases r; rfl
  | bl b => cases r; rfl
  | int b => cases r; rfl
  | str b => cases r; rfl
  | ty b => cases r; rfl
  | fn b => exact absurd r id
  | tup ds => obtain ⟨x, vs, rfl, _⟩ := r; rfl
  | loc n => obtain ⟨x, rfl, _⟩ := r; rfl
  | fz n => obtain ⟨x, rfl, _⟩ := r; rfl
section cmp
variable {X : Cx} {O : Wo} (g : Gd O X)
include g
theorem s_eq : OpR X (compareOp .Eq) (rPrim O (cmpP .Eq)) := by
  refine OpR.mono (op_eqD (by have := g.units; omega)) ?_
  rintro x y H Q ⟨ρ, st, a, b, d, st', sim, ra, rb, e, q⟩
  simp only [cmpP, cmpD, eqD] at e
  split at e
  · next p1 p2 h1 h2 =>
    split at e
    · next hs =>
      simp only [Option.map_some, Option.some.injEq, Prod.mk.injEq] at e
      obtain ⟨rfl, rfl⟩ := e
      simp only [Bool.and_eq_true] at hs
      exact ⟨p1, p2, g.K ▸ toP_ok sim h1 ra, g.K ▸ toP_ok sim h2 rb, hs.1, hs.2, q ρ _ H (Ext.refl _ _) sim rfl⟩
    · cases e
  · cases e
theorem s_ne : OpR X (compareOp .NotEq) (rPrim O (cmpP .NotEq)) := by
  refine OpR.mono (op_neD (by have := g.units; omega)) ?_
  rintro x y H Q ⟨ρ, st, a, b, d, st', sim, ra, rb, e, q⟩
  simp only [cmpP, cmpD, eqD] at e
  split at e
  · next p1 p2 h1 h2 =>
    split at e
    · next hs =>
      simp only [Option.map_some, Option.some.injEq, Prod.mk.injEq] at e
      obtain ⟨rfl, rfl⟩ := e
      simp only [Bool.and_eq_true] at hs
      exact ⟨p1, p2, g.K ▸ toP_ok sim h1 ra, g.K ▸ toP_ok sim h2 rb, hs.1, hs.2, q ρ _ H (Ext.refl _ _) sim rfl⟩
    · cases e
  · cases e
theorem s_in : OpR X (compareOp .In) (rPrim O (cmpP .In)) := by
  refine OpR.mono (op_inD (by have := g.units; omega)) ?_
  rintro x y H Q ⟨ρ, st, a, b, d, st', sim, ra, rb, e, q⟩
  unfold cmpP cmpD at e
  split at e <;> try contradiction
  next n _ =>
  split at e
  · next p1 qs h1 h2 =>
    split at e
    · next hs =>
      simp only [Option.map_some, Option.some.injEq, Prod.mk.injEq] at e
      obtain ⟨rfl, rfl⟩ := e
      simp only [Bool.and_eq_true] at hs
      exact ⟨p1, qs, g.K ▸ toP_ok sim h1 ra, g.K ▸ locP_ok sim 4 _ _ h2 _ rb, hs.1, hs.2, q ρ _ H (Ext.refl _ _) sim rfl⟩
    · cases e
  · cases e
theorem s_notin : OpR X (compareOp .NotIn) (rPrim O (cmpP .NotIn)) := by
  refine OpR.mono (op_notInD (by have := g.units; omega)) ?_
  rintro x y H Q ⟨ρ, st, a, b, d, st', sim, ra, rb, e, q⟩
  unfold cmpP cmpD at e
  split at e <;> try contradiction
  next n _ =>
  split at e
  · next p1 qs h1 h2 =>
    split at e
    · next hs =>
      simp only [Option.map_some, Option.some.injEq, Prod.mk.injEq] at e
      obtain ⟨rfl, rfl⟩ := e
      simp only [Bool.and_eq_true] at hs
      exact ⟨p1, qs, g.K ▸ toP_ok sim h1 ra, g.K ▸ locP_ok sim 4 _ _ h2 _ rb, hs.1, hs.2, q ρ _ H (Ext.refl _ _) sim rfl⟩
    · cases e
  · cases e
omit g in
theorem s_cmpI {op : CmpOp} {f : Int → Int → Bool} (h : OpR X (compareOp op) (rI0 fun i j => .bl (f i j))) (hd : ∀ a b st c, cmpD op a b st = some c → ∃ i j, a = .int i ∧ b = .int j ∧ c = f i j) : OpR X (compareOp op) (rPrim O (cmpP op)) := by
  refine OpR.mono h ?_
  rintro x y H Q ⟨ρ, st, a, b, d, st', sim, ra, rb, e, q⟩
  unfold cmpP at e
  simp only [Option.map_eq_some_iff, Prod.mk.injEq] at e
  obtain ⟨c, e1, rfl, rfl⟩ := e
  obtain ⟨i, j, rfl, rfl, rfl⟩ := hd a b st c e1
  exact ⟨i, j, ra, rb, q ρ _ H (Ext.refl _ _) sim rfl⟩
theorem s_is : OpR X (compareOp .Is) (rPrim O (cmpP .Is)) := by
  refine OpR.mono op_isN ?_
  rintro x y H Q ⟨ρ, st, a, b, d, st', sim, ra, rb, e, q⟩
  have hb : b = .non := by
    unfold cmpP cmpD at e
    split at e <;> first | rfl | contradiction
  subst hb
  simp only [cmpP, is_non, Option.map_some, Option.some.injEq, Prod.mk.injEq] at e
  obtain ⟨rfl, rfl⟩ := e
  refine ⟨rb, ?_⟩
  rw [ra.non_iff]
  exact q ρ _ H (Ext.refl _ _) sim rfl
theorem s_isnot : OpR X (compareOp .IsNot) (rPrim O (cmpP .IsNot)) := by
  refine OpR.mono op_notN ?_
  rintro x y H Q ⟨ρ, st, a, b, d, st', sim, ra, rb, e, q⟩
  have hb : b = .non := by
    unfold cmpP cmpD at e
    split at e <;> first | rfl | contradiction
  subst hb
  simp only [cmpP, isnot_non, Option.map_some, Option.some.injEq, Prod.mk.injEq] at e
  obtain ⟨rfl, rfl⟩ := e
  refine ⟨rb, ?_⟩
  rw [ra.non_iff]
  exact q ρ _ H (Ext.refl _ _) sim rfl
theorem s_cmp (op : CmpOp) : OpR X (compareOp op) (rPrim O (cmpP op)) := by
  cases op
  case Eq => exact s_eq g
  case NotEq => exact s_ne g
  case In => exact s_in g
  case NotIn => exact s_notin g
  case Is => exact s_is g
  case IsNot => exact s_isnot g
  case Lt =>
    refine s_cmpI op_lt ?_
    intro a b st c h
    unfold cmpD at h
    split at h <;> try contradiction
    next i j _ => cases h; exact ⟨i, j, rfl, rfl, rfl⟩
  case LtE =>
    refine s_cmpI op_le ?_
    intro a b st c h
    unfold cmpD at h
    split at h <;> try contradiction
    next i j _ => cases h; exact ⟨i, j, rfl, rfl, rfl⟩
  case Gt =>
    refine s_cmpI op_gt ?_
    intro a b st c h
    unfold cmpD at h
    split at h <;> try contradiction
    next i j _ => cases h; exact ⟨i, j, rfl, rfl, rfl⟩
  case GtE =>
    refine s_cmpI op_ge ?_
    intro a b st c h
    unfold cmpD at h
    split at h <;> try contradiction
    next i j _ => cases h; exact ⟨i, j, rfl, rfl, rfl⟩
end cmp
/-! index, slice, built-ins, methods, stores -/
theorem RelDs.atI {K : PySem.W.Frag} {H : Hp} {ρ : List Addr} {ds : List D} {vs : List V} {i : Int} {d : D} (r : RelDs K H ρ ds vs) (h : L2.atI ds i = some d) : ∃ v, L2.atI vs i = some v ∧ RelD K H ρ d v := by
  unfold L2.atI at h ⊢
  rw [← r.length]
  cases hj : ixN ds.length i with
  | none => rw [hj] at h; cases h
  | some j => rw [hj] at h; exact r.get h
theorem RelDs.cut {K : PySem.W.Frag} {H : Hp} {ρ : List Addr} {ds : List D} {vs : List V} (r : RelDs K H ρ ds vs) (lo hi : Option Int) : RelDs K H ρ (cutD ds lo hi) (cutV vs lo hi) := by
  unfold cutD cutV
  rw [r.length]
  exact (r.drop _).take _
def idxP : D → D → Sto → Option (D × Sto) := fun a b st => (idxD a b st).map fun d => (d, st)
section ixs
variable {X : Cx} {O : Wo} (g : Gd O X)
include g
theorem s_idx : IxR X (rPrim O idxP) := by
  refine IxR.mono (IxR.or ix_list ix_tup) ?_
  rintro x y H Q ⟨ρ, st, a, b, d, st', sim, ra, rb, e, q⟩
  unfold idxP idxD at e
  split at e <;> try contradiction
  next i =>
  split at e <;> try contradiction
  next xs hx =>
  simp only [Option.map_eq_some_iff, Prod.mk.injEq] at e
  obtain ⟨c, e1, rfl, rfl⟩ := e
  obtain ⟨p, vs, rfl, hs, r⟩ := sim.seqOf hx ra
  obtain ⟨v, hv, rv⟩ := r.atI e1
  rcases hs with hs | hs
  · exact .inl ⟨p, vs, i, v, rfl, rb, g.K ▸ hs, hv, q ρ _ H (Ext.refl _ _) sim rv⟩
  · exact .inr ⟨p, vs, i, v, rfl, rb, g.K ▸ hs, hv, q ρ _ H (Ext.refl _ _) sim rv⟩
theorem s_slc : SlR X (fun x lo hi H Q => ∃ ρ st a d st', Sim O H ρ st ∧ RelD O.K H ρ a x ∧ slcD a lo hi st = some (d, st') ∧ ∀ ρ' v H', Ext H ρ H' ρ' → Sim O H' ρ' st' → RelD O.K H' ρ' d v → Q v H') := by
  refine SlR.mono (SlR.or sl_list sl_tupA) ?_
  rintro x lo hi H Q ⟨ρ, st, a, d, st', sim, ra, e, q⟩
  unfold slcD at e
  split at e <;> try contradiction
  · next xs =>
    cases e
    obtain ⟨p, vs, rfl, hs, r⟩ := ra
    refine .inr ⟨p, vs, rfl, g.K ▸ hs, ?_, ?_⟩
    · rintro ⟨h1, h2⟩
      refine q ρ _ H (Ext.refl _ _) sim ⟨p, vs, rfl, hs, ?_⟩
      have := r.cut lo hi
      have hc : cutV vs lo hi = vs := by
        unfold cutV; rw [h1, h2]; simp
      rwa [hc] at this
    · intro _ p' hp
      obtain ⟨e1, s1, q1⟩ := lay_tup sim (r.cut lo hi) hp
      exact q ρ _ _ e1 s1 q1
  · next n =>
    split at e <;> try contradiction
    next xs hx =>
    cases e
    obtain ⟨p, vs, rfl, _, hs, r⟩ := sim.seq hx ra
    refine .inl ⟨p, vs, rfl, g.K ▸ hs, ?_⟩
    intro p' hp
    obtain ⟨e1, s1, q1⟩ := lay_lst sim (r.cut lo hi) hp
    exact q _ _ _ e1 s1 q1
end ixs
/-- a call of a built-in, by data -/
def cPrim (O : Wo) (f : List D → Sto → Option (D × Sto)) : List V → Hp → VK → Prop := fun vs H Q => ∃ ρ st ds d st', Sim O H ρ st ∧ RelDs O.K H ρ ds vs ∧ f ds st = some (d, st') ∧ ∀ ρ' v H', Ext H ρ H' ρ' → Sim O H' ρ' st' → RelD O.K H' ρ' d v → Q v H'
theorem ints_of {K : PySem.W.Frag} {H : Hp} {ρ : List Addr} : ∀ {ds : List D} {ns : List Int} {vs : List V}, intsOf ds = some ns → RelDs K H ρ ds vs → vs = ns.map V.int
  | [], ns, vs, h, r => by simp only [intsOf, Option.some.injEq] at h; subst h; exact r
  | .int i :: ds, ns, vs, h, r => by
    simp only [intsOf, Option.map_eq_some_iff] at h
    obtain ⟨ms, h1, rfl⟩ := h
    obtain ⟨v, r', rfl, r1, r2⟩ := r
    cases r1
    simp [ints_of h1 r2]
  | .non :: _, _, _, h, _ => by simp [intsOf] at h
  | .bl _ :: _, _, _, h, _ => by simp [intsOf] at h
  | .str _ :: _, _, _, h, _ => by simp [intsOf] at h
  | .tup _ :: _, _, _, h, _ => by simp [intsOf] at h
  | .loc _ :: _, _, _, h, _ => by simp [intsOf] at h
  | .ty _ :: _, _, _, h, _ => by simp [intsOf] at h
  | .fn _ :: _, _, _, h, _ => by simp [intsOf] at h
  | .fz _ :: _, _, _, h, _ => by simp [intsOf] at h
theorem bls_of {K : PySem.W.Frag} {H : Hp} {ρ : List Addr} : ∀ {ds : List D} {ns : List Bool} {vs : List V}, blsOf ds = some ns → RelDs K H ρ ds vs → vs = ns.map V.bl
  | [], ns, vs, h, r => by simp only [blsOf, Option.some.injEq] at h; subst h; exact r
  | .bl i :: ds, ns, vs, h, r => by
    simp only [blsOf, Option.map_eq_some_iff] at h
    obtain ⟨ms, h1, rfl⟩ := h
    obtain ⟨v, r', rfl, r1, r2⟩ := r
    cases r1
    simp [bls_of h1 r2]
  | .non :: _, _, _, h, _ => by simp [blsOf] at h
  | .int _ :: _, _, _, h, _ => by simp [blsOf] at h
  | .str _ :: _, _, _, h, _ => by simp [blsOf] at h
  | .tup _ :: _, _, _, h, _ => by simp [blsOf] at h
  | .loc _ :: _, _, _, h, _ => by simp [blsOf] at h
  | .ty _ :: _, _, _, h, _ => by simp [blsOf] at h
  | .fn _ :: _, _, _, h, _ => by simp [blsOf] at h
  | .fz _ :: _, _, _, h, _ => by simp [blsOf] at h
theorem tyX_of {K : PySem.W.Frag} {H : Hp} {ρ : List Addr} {a : D} {v : V} {t : String} (r : RelD K H ρ a v) (h : tyOf a = some t) : TyX K H v (.type t) := by
  cases a with
  | non => cases r; cases h; exact .base .non
  | bl b => cases r; cases h; exact .base (.bl b)
  | int b => cases r; cases h; exact .base (.int b)
  | str b => cases r; cases h; exact .base (.str b)
  | ty b => cases h
  | fn b => cases h
  | tup ds =>
    cases h
    obtain ⟨x, vs, rfl, hs, _⟩ := r
    rcases hs with (hs | ⟨o, hs⟩) | ⟨o, its, n, h1, h2, _⟩
    · exact .base (.tup hs)
    · exact .fTuple hs
    · exact .kTuple h1 h2
  | loc n => cases h
  | fz n => cases h
def biV : Bi → Value
  | .len => .builtin "len" | .abs => .builtin "abs" | .int => .type "int" | .max => .builtin "max" | .min => .builtin "min"
  | .list => .type "list" | .tuple => .type "tuple" | .sum => .builtin "sum" | .all => .builtin "all" | .isi => .builtin "isinstance"
section bis
variable {X : Cx} {O : Wo} (g : Gd O X)
include g
theorem s_bi (f : Bi) : CallR X (biV f) (cPrim O (biD f)) := by
  cases f
  case len =>
    refine CallR.mono call_len_seq ?_
    rintro vs H Q ⟨ρ, st, ds, d, st', sim, rs, e, q⟩
    unfold biD at e
    split at e <;> try contradiction
    · next ys _ =>
      cases e
      obtain ⟨v, r, rfl, ⟨p, ws, rfl, hs, r1⟩, rfl⟩ := rs
      exact ⟨p, ws, rfl, .inr (g.K ▸ hs), q ρ _ H (Ext.refl _ _) sim (by rw [← r1.length]; rfl)⟩
    · next n _ =>
      simp only [Option.map_eq_some_iff, Prod.mk.injEq] at e
      obtain ⟨ys, e1, rfl, rfl⟩ := e
      obtain ⟨v, r, rfl, r0, rfl⟩ := rs
      obtain ⟨p, ws, rfl, _, hs, r1⟩ := sim.seq e1 r0
      exact ⟨p, ws, rfl, .inl (g.K ▸ hs), q ρ _ H (Ext.refl _ _) sim (by rw [← r1.length]; rfl)⟩
    · next ns _ =>
      cases e
      obtain ⟨v, r, rfl, ⟨p, rfl, hs⟩, rfl⟩ := rs
      exact ⟨p, ns.map V.int, rfl, .inl (g.K ▸ hs.sq), q ρ _ H (Ext.refl _ _) sim (by show V.int _ = V.int _; simp)⟩
  case abs =>
    refine CallR.mono call_abs ?_
    rintro vs H Q ⟨ρ, st, ds, d, st', sim, rs, e, q⟩
    unfold biD at e
    split at e <;> try contradiction
    next i _ =>
      cases e
      obtain ⟨v, r, rfl, r0, rfl⟩ := rs
      cases r0
      exact ⟨i, rfl, q ρ _ H (Ext.refl _ _) sim rfl⟩
  case int =>
    refine CallR.mono call_int1 ?_
    rintro vs H Q ⟨ρ, st, ds, d, st', sim, rs, e, q⟩
    unfold biD at e
    split at e <;> try contradiction
    · next i _ =>
      cases e
      obtain ⟨v, r, rfl, r0, rfl⟩ := rs
      cases r0
      exact .inl ⟨i, rfl, q ρ _ H (Ext.refl _ _) sim rfl⟩
    · next b _ =>
      cases e
      obtain ⟨v, r, rfl, r0, rfl⟩ := rs
      cases r0
      exact .inr ⟨b, rfl, q ρ _ H (Ext.refl _ _) sim rfl⟩
  case max =>
    refine CallR.mono (call_max2 g.calm) ?_
    rintro vs H Q ⟨ρ, st, ds, d, st', sim, rs, e, q⟩
    unfold biD at e
    split at e <;> try contradiction
    next i j _ =>
      cases e
      obtain ⟨v, r, rfl, r0, ⟨v', r', rfl, r1, rfl⟩⟩ := rs
      cases r0; cases r1
      exact ⟨i, j, rfl, q ρ _ H (Ext.refl _ _) sim rfl⟩
  case min =>
    refine CallR.mono (call_min2 g.calm) ?_
    rintro vs H Q ⟨ρ, st, ds, d, st', sim, rs, e, q⟩
    unfold biD at e
    split at e <;> try contradiction
    next i j _ =>
      cases e
      obtain ⟨v, r, rfl, r0, ⟨v', r', rfl, r1, rfl⟩⟩ := rs
      cases r0; cases r1
      exact ⟨i, j, rfl, q ρ _ H (Ext.refl _ _) sim rfl⟩
  case list =>
    refine CallR.mono call_list_of ?_
    rintro vs H Q ⟨ρ, st, ds, d, st', sim, rs, e, q⟩
    unfold biD at e
    split at e <;> try contradiction
    next a _ =>
      simp only [Option.map_eq_some_iff, Prod.mk.injEq] at e
      obtain ⟨ys, e1, rfl, rfl⟩ := e
      obtain ⟨v, r, rfl, r0, rfl⟩ := rs
      obtain ⟨p, ws, rfl, hs, r1⟩ := sim.seqOf e1 r0
      refine ⟨p, ws, rfl, g.K ▸ hs, ?_⟩
      intro l hl
      obtain ⟨e1, s1, q1⟩ := lay_lst sim r1 hl
      exact q _ _ _ e1 s1 q1
  case tuple =>
    refine CallR.mono call_tuple_of ?_
    rintro vs H Q ⟨ρ, st, ds, d, st', sim, rs, e, q⟩
    unfold biD at e
    split at e <;> try contradiction
    next a _ =>
      simp only [Option.map_eq_some_iff, Prod.mk.injEq] at e
      obtain ⟨ys, e1, rfl, rfl⟩ := e
      obtain ⟨v, r, rfl, r0, rfl⟩ := rs
      obtain ⟨p, ws, rfl, hs, r1⟩ := sim.seqOf e1 r0
      refine ⟨p, ws, rfl, ?_⟩
      rcases hs with hs | hs
      · refine .inl ⟨g.K ▸ hs, ?_⟩
        intro l hl
        obtain ⟨e1, s1, q1⟩ := lay_tup sim r1 hl
        exact q _ _ _ e1 s1 q1
      · exact .inr ⟨g.K ▸ hs, q ρ _ H (Ext.refl _ _) sim ⟨p, ws, rfl, hs, r1⟩⟩
  case sum =>
    refine CallR.mono (cr_sum g.calm) ?_
    rintro vs H Q ⟨ρ, st, ds, d, st', sim, rs, e, q⟩
    unfold biD at e
    split at e <;> try contradiction
    next n _ =>
      simp only [Option.map_eq_some_iff, Prod.mk.injEq, Option.bind_eq_some_iff] at e
      obtain ⟨ns, ⟨ys, e1, e2⟩, rfl, rfl⟩ := e
      obtain ⟨v, r, rfl, r0, rfl⟩ := rs
      obtain ⟨p, ws, rfl, _, hs, r1⟩ := sim.seq e1 r0
      have hw := ints_of e2 r1
      subst hw
      exact ⟨p, ns, rfl, g.K ▸ hs, q ρ _ H (Ext.refl _ _) sim rfl⟩
  case all =>
    refine CallR.mono (cr_all g.calm) ?_
    rintro vs H Q ⟨ρ, st, ds, d, st', sim, rs, e, q⟩
    unfold biD at e
    split at e <;> try contradiction
    next n _ =>
      simp only [Option.map_eq_some_iff, Prod.mk.injEq, Option.bind_eq_some_iff] at e
      obtain ⟨ns, ⟨ys, e1, e2⟩, rfl, rfl⟩ := e
      obtain ⟨v, r, rfl, r0, rfl⟩ := rs
      obtain ⟨p, ws, rfl, _, hs, r1⟩ := sim.seq e1 r0
      have hw := bls_of e2 r1
      subst hw
      exact ⟨p, ns, rfl, g.K ▸ hs, q ρ _ H (Ext.refl _ _) sim rfl⟩
  case isi =>
    refine CallR.mono call_isi ?_
    rintro vs H Q ⟨ρ, st, ds, d, st', sim, rs, e, q⟩
    unfold biD at e
    split at e <;> try contradiction
    next a T _ =>
      simp only [Option.map_eq_some_iff, Prod.mk.injEq, Option.bind_eq_some_iff] at e
      obtain ⟨b, ⟨t, e1, e2⟩, rfl, rfl⟩ := e
      obtain ⟨v, r, rfl, r0, ⟨v', r', rfl, r1, rfl⟩⟩ := rs
      cases r1
      exact ⟨v, _, _, _, b, rfl, .ty T, g.K ▸ tyX_of r0 e1, kit_ty e2, q ρ _ H (Ext.refl _ _) sim rfl⟩
omit g in
theorem s_append : MtM X "list.append" (fun x vs H Q => ∃ ρ st n ds d st', Sim O H ρ st ∧ RelD O.K H ρ (.loc n) x ∧ RelDs O.K H ρ ds vs ∧ mtD .append n ds st = some (d, st') ∧ ∀ ρ' v H', Ext H ρ H' ρ' → Sim O H' ρ' st' → RelD O.K H' ρ' d v → Q v H') := by
  refine MtM.mono mt_append ?_
  rintro x vs H Q ⟨ρ, st, n, ds, d, st', sim, rx, rs, e, q⟩
  unfold mtD at e
  split at e <;> try contradiction
  next ys hy =>
  split at e <;> try contradiction
  next x0 _ =>
  split at e <;> try contradiction
  next hz =>
  cases e
  obtain ⟨p, ws, rfl, hp, hl, r1⟩ := sim.lst hy rx
  obtain ⟨v, r, rfl, r0, rfl⟩ := rs
  obtain ⟨e1, s1⟩ := sim.write (o := .lst (ws ++ [v])) (c' := .lst (ys ++ [x0])) hp (asM_eq hy) rfl (fun e1 => ⟨_, upd_same, (r1.ext e1 _).app (RelDs.one (r0.ext e1 _))⟩)
  exact ⟨p, ws, v, rfl, rfl, hl, by rw [← r1.length]; exact szOk_line' hz, q _ _ _ e1 s1 rfl⟩
omit g in
theorem dropLast_rel {K : PySem.W.Frag} {H : Hp} {ρ : List Addr} {ds : List D} {vs : List V} (r : RelDs K H ρ ds vs) : RelDs K H ρ ds.dropLast vs.dropLast := by
  rw [List.dropLast_eq_take, List.dropLast_eq_take, r.length]; exact r.take _
omit g in
theorem s_pop : MtM X "list.pop" (fun x vs H Q => ∃ ρ st n ds d st', Sim O H ρ st ∧ RelD O.K H ρ (.loc n) x ∧ RelDs O.K H ρ ds vs ∧ mtD .pop n ds st = some (d, st') ∧ ∀ ρ' v H', Ext H ρ H' ρ' → Sim O H' ρ' st' → RelD O.K H' ρ' d v → Q v H') := by
  refine MtM.mono mt_pop ?_
  rintro x vs H Q ⟨ρ, st, n, ds, d, st', sim, rx, rs, e, q⟩
  unfold mtD at e
  split at e <;> try contradiction
  next ys hy =>
  split at e <;> try contradiction
  split at e <;> try contradiction
  next y hz =>
  cases e
  obtain ⟨p, ws, rfl, hp, hl, r1⟩ := sim.lst hy rx
  cases rs
  rw [List.getLast?_eq_getElem?] at hz
  obtain ⟨v, hv, rv⟩ := r1.get hz
  obtain ⟨e1, s1⟩ := sim.write (o := .lst ws.dropLast) (c' := .lst ys.dropLast) hp (asM_eq hy) rfl (fun e1 => ⟨_, upd_same, dropLast_rel (r1.ext e1 _)⟩)
  exact ⟨p, ws, v, rfl, rfl, hl, by rw [← r1.length]; exact hv, q _ _ _ e1 s1 (rv.ext e1 _)⟩
omit g in
theorem s_set : PSet X (fun o i v H Q => ∃ ρ st a b d st', Sim O H ρ st ∧ RelD O.K H ρ a o ∧ RelD O.K H ρ b i ∧ RelD O.K H ρ d v ∧ setI a b d st = some st' ∧ ∀ ρ' H', Ext H ρ H' ρ' → Sim O H' ρ' st' → Q H') := by
  refine PSet.mono set_list ?_
  rintro o i v H Q ⟨ρ, st, a, b, d, st', sim, ra, rb, rd, e, q⟩
  unfold setI at e
  split at e <;> try contradiction
  next n k =>
  split at e <;> try contradiction
  next ys hy =>
  split at e <;> try contradiction
  next j hj =>
  cases e
  obtain ⟨p, ws, rfl, hp, hl, r1⟩ := sim.lst hy ra
  obtain ⟨e1, s1⟩ := sim.write (o := .lst (ws.set j v)) (c' := .lst (ys.set j d)) hp (asM_eq hy) rfl (fun e1 => ⟨_, upd_same, (r1.ext e1 _).set j (rd.ext e1 _)⟩)
  exact ⟨p, ws, k, j, rfl, rb, hl, by rw [← r1.length]; exact hj, q _ _ e1 s1⟩
omit g in
theorem s_aug (op : Operator) : PIp X op (fun x y H Q => ∃ ρ st a b d, Sim O H ρ st ∧ RelD O.K H ρ a x ∧ RelD O.K H ρ b y ∧ augD op a b = some d ∧ ∀ v, RelD O.K H ρ d v → Q v H) := by
  have aug : ∀ {r : R2}, OpR X (inplaceOp op) r → PIp X op r := fun ho pins s σ H x y v u Q I rx ry q => augR ho I rx ry q
  cases op
  case Add =>
    refine PIp.mono (aug iop_add) ?_
    rintro x y H Q ⟨ρ, st, a, b, d, sim, ra, rb, e, q⟩
    unfold augD at e
    split at e <;> try contradiction
    next i j _ => cases e; exact ⟨i, j, ra, rb, q _ rfl⟩
  case Sub =>
    refine PIp.mono (aug iop_sub) ?_
    rintro x y H Q ⟨ρ, st, a, b, d, sim, ra, rb, e, q⟩
    unfold augD at e
    split at e <;> try contradiction
    next i j _ => cases e; exact ⟨i, j, ra, rb, q _ rfl⟩
  case Mult =>
    refine PIp.mono (aug iop_mul) ?_
    rintro x y H Q ⟨ρ, st, a, b, d, sim, ra, rb, e, q⟩
    unfold augD at e
    split at e <;> try contradiction
    next i j _ =>
      split at e <;> try contradiction
      next hz =>
      cases e
      simp only [Bool.and_eq_true] at hz
      exact ⟨i, j, ra, rb, .inr ⟨of_decide_eq_true hz.1, of_decide_eq_true hz.2⟩, q _ rfl⟩
  all_goals
    rintro pins s σ H x y v u Q I rx ry ⟨ρ, st, a, b, d, sim, ra, rb, e, q⟩
    exfalso
    unfold augD at e
    cases e
theorem s_tru {H : Hp} {ρ : List Addr} {st : Sto} (sim : Sim O H ρ st) {a : D} {x : V} {k : Bool} (r : RelD O.K H ρ a x) (h : truD a st = some k) : TruV X.K x H k := by
  unfold truD at h
  split at h <;> try contradiction
  · cases r; cases h; rfl
  · cases r; cases h; rfl
  · cases r; cases h; rfl
  · obtain ⟨p, vs, rfl, hs, r1⟩ := r
    cases h
    refine .inr (.inl ⟨vs, g.K ▸ hs, ?_⟩)
    have := r1.length
    cases vs with
    | nil => have : ‹List D› = [] := List.length_eq_zero_iff.mp (by simpa using this); simp [this]
    | cons v vs => rename_i ys; cases ys <;> simp_all
  · simp only [Option.map_eq_some_iff] at h
    obtain ⟨xs, h1, rfl⟩ := h
    obtain ⟨p, vs, rfl, _, hs, r1⟩ := sim.seq h1 r
    refine .inl ⟨vs, g.K ▸ hs, ?_⟩
    have := r1.length
    cases vs <;> cases xs <;> simp_all
end bis
end Mi
set_option autoImplicit false
/-! enumerate over a tuple -/
namespace PySem
theorem mi_enum_newT {v : Value} {o : Obj} {H : Heap → Prop} (B : Begins v o H) :
    Meets (Builtin.«enumerate.__new__» ⟨[.type "enumerate", v], []⟩) (fun _ R s => H s.heap ∧
      R (.ok (.ret (.ref (s.heap.push o).objs.size))) { s with heap := (s.heap.push o).push { cls := .type "enumerate", data := .fields #[.none, .bool false, .ref s.heap.objs.size, rawInt 0, .none, .none] } }) :=
  .of_wp fun prog w A R s h => by
    obtain ⟨hp, g, d, tk, os⟩ := s; obtain ⟨h1, h⟩ := h
    have hsub := sub_enumerate
    have q1 : ∀ {A' : Around} {E : Value → Shared → Prop} {Q : Value → Shared → Prop}, Q (.ref hp.objs.size) ⟨hp.push o, g, d, tk, os⟩ → wpAny (model prog w) A' (pyIter v) Q E ⟨hp, g, d, tk, os⟩ :=
      fun q => B.iter prog w _ _ ⟨hp, g, d, tk, os⟩ _ h1 q
    wp_walk using q1
    refine wpAny_stack_any fun st => wpAny_pure ?_
    split
    · rename_i c _ _ _ _ _
      cases (c == Value.type "enumerate")
      · wp_walk using q1
        exact ⟨_, rfl, h⟩
      · wp_walk using q1
        exact ⟨_, rfl, h⟩
    · wp_walk using q1
      exact ⟨_, rfl, h⟩
section
variable {prog : Program} {w : World} {A : Around} {E : Value → Shared → Prop} {s : Shared}
theorem mi_enum_begins {v : Value} {o : Obj} {H : Heap → Prop} {Q : Value → Shared → Prop} (B : Begins v o H) (h1 : H s.heap)
    (h : ∀ h', IsEnum h' (s.heap.objs.size + 1) s.heap.objs.size 0 .none → h'.get? s.heap.objs.size = some o → h'.objs.size = s.heap.objs.size + 2 →
      (∀ b o, s.heap.get? b = some o → h'.get? b = some o) → Q (.ref (s.heap.objs.size + 1)) { s with heap := h' }) :
    wpAny (model prog w) A (call (.type "enumerate") [v]) Q E s := by
  refine callType_new F.called_enumerate (by decide) (F.typeCall_enumerate_1 _) (F.newCall_enumerate_1 _) (fun obj => F.args_object_init_2 obj _) F.entry_enumerate_new
    (mi_enum_newT B) ⟨h1, ?_⟩
  have hz : (s.heap.push o).objs.size = s.heap.objs.size + 1 := Heap.size_push ..
  show _ ∧ _
  rw [hz]
  have he : IsEnum ((s.heap.push o).push { cls := .type "enumerate", data := .fields #[.none, .bool false, .ref s.heap.objs.size, rawInt 0, .none, .none] }) (s.heap.objs.size + 1) s.heap.objs.size 0 .none := by
    have := Heap.get?_push_size (s.heap.push o) (o := { cls := .type "enumerate", data := .fields #[.none, .bool false, .ref s.heap.objs.size, rawInt 0, .none, .none] }) rfl
    rw [hz] at this; exact this
  refine ⟨⟨_, he, rfl⟩, h _ he (Heap.get?_push_of_some _ (Heap.get?_push_size _ B.free)) (by rw [Heap.size_push, hz]) fun b o x => Heap.get?_push_of_some _ (Heap.get?_push_of_some _ x)⟩
theorem mi_enum_endT {e it l : Addr} {i : Nat} {items : Array Value} {old : Value} {Q : Option Value → Shared → Prop} (hh : A.handled = none)
    (he : IsEnum s.heap e it i old) (hit : s.heap.IsTupleIter it l i) (hl : s.heap.IsTuple l items) (hx : items[i]? = none)
    (hQ : ∀ h', Heap.ExtBut it s.heap h' → Q none { s with heap := h' }) : wpAny (model prog w) A (pyNext (.ref e)) Q E s := by
  have hT : s.TypeIs (.ref e) "enumerate" := ⟨_, he, rfl⟩
  unfold pyNext
  refine wpAny_bind (wpAny_attempt (wpAny_callSpecial?_slot (name := Str.ofString "__next__") hT F.slot_enumerate_next
    (wpAny_call_entry F.slot_enumerate_next hT F.entry_enumerate_next ?_ (F.args_enumerate_next_1 _))))
  show wpAny _ _ (field (.ref e) 2 >>= _) _ _ _
  refine wpAny_bind (wpAny_field he rfl (x := .ref it) rfl ?_)
  refine wpAny_bind (wpAny_nextOf_tuple_end hh hit hl hx fun h' x he' hx' => ?_)
  obtain ⟨o, ho, hc⟩ := hx'
  refine wpAny_bind (wpAny_isInstance (T := "StopIteration") (b := true) ⟨o, ho, hc⟩ isSubtype_stop ?_)
  exact wpAny_pure (hQ _ he')
end
end PySem
namespace Mi
open PySem PySem.Spec PyProof.Rows L2 SlX
def IteT (K : PySem.W.Frag) (a : Addr) : It :=
  ⟨fun i H => ∃ (xs : List V) (x : V), SqT K H a xs ∧ xs[i]? = some x, fun i H v H' => ∃ T x, v = .ref T ∧ H T = none ∧ H' = upd H T (.tup [.int (i : Nat), x]) ∧ ∀ xs, SqT K H a xs → xs[i]? = some x, fun i H => ∃ xs : List V, SqT K H a xs ∧ xs.length ≤ i⟩
theorem tup_ne {h : Heap} {a it : Addr} {items : Array Value} {i : Nat} (p : IsTup h a items) (q : h.IsTupleIter it a i) : a ≠ it := by
  rintro rfl
  obtain ⟨o, h1, h2, _⟩ := p
  obtain ⟨o', h3, h4, _⟩ := q
  rw [h1] at h3; cases h3
  rw [h2] at h4
  exact absurd h4 (by decide)
theorem turn_enumT {P : Program} {w : World} {K : PySem.W.Frag} {elts : List Expr} {kk : Nat} {tpos : Pos} (a e it : Addr) :
    Turn P w K (.Tuple elts kk tpos) (IteT K a) [e, it] e (fun i h => (∃ old, IsEnum h e it ((i : Nat) : Int) old) ∧ h.IsTupleIter it a i ∧ e ≠ it) where
  mem := by simp
  obj := fun i h st b hb => by
    obtain ⟨⟨old, he⟩, ⟨o, ho, hc, hd⟩, _⟩ := st
    have e' : b = e ∨ b = it := by simpa using hb
    rcases e' with z | z
    · rw [z]; exact ⟨_, he, fun v q => nomatch q⟩
    · rw [z]; exact ⟨o, ho, fun v q => by rw [hd] at q; cases q⟩
  keep := fun i h h' st k => let ⟨⟨old, he⟩, hi, hne⟩ := st; ⟨⟨old, k e (by simp) _ he⟩, hi.at fun o q => k it (by simp) o q, hne⟩
  item := by
    intro X hP hw hK hc i pins s σ H E I hf st hg
    subst hP hw hK
    obtain ⟨⟨old, he⟩, hit, hne⟩ := st
    obtain ⟨xs, x, hq, hx⟩ := hg
    obtain ⟨its, rv, p, hz⟩ := I.tuple hq
    obtain ⟨u, hu, ru⟩ := rv.get hx
    have hel : e < s.heap.objs.size := Heap.lt_size he
    have hil : it < s.heap.objs.size := by obtain ⟨_, q, _⟩ := hit; exact Heap.lt_size q
    have hai : a ≠ it := tup_ne p hit
    have hae : e ≠ a := by
      rintro rfl
      obtain ⟨o, h1, h2, _⟩ := p
      rw [he] at h1; cases h1
      have h3 : Value.type "enumerate" = Value.type "tuple" := h2
      exact absurd h3 (by decide)
    have hlt : i < its.toArray.size := by
      have := (List.getElem?_eq_some_iff.mp hu).1
      simpa using this
    refine wpAny_pyNext_enum_itemD (Draws.tuple (A := X.A.in1) (I.ok.hd hc) it a hai its.toArray) he ⟨hit, p⟩ hlt hne (by simp [hne, hae]) fun x' h' tk hP ho hst hT hsz hk => ?_
    have hu' : x' = u := by
      have : its[i]? = some x' := by simpa using hP
      rw [hu] at this; exact (Option.some.inj this).symm
    subst hu'
    refine ⟨_, rfl, wpAny_letOwnedTupleGo_enum (s := { s with heap := h', toks := tk + 1 }) ho fun h'' he' sb => ?_⟩
    have hT2 : h''.get? s.heap.objs.size = some { cls := .type "tuple", data := .seq #[.int i tk, x'] } := (sb.2 _ (Nat.ne_of_gt hel)).trans hT
    have new : ObjOk X.prog X.w (upd H s.heap.objs.size (.tup [.int (i : Nat), x])) h'' s.heap.objs.size (.tup [.int (i : Nat), x]) :=
      ⟨by show 2 ≤ sizeLine; decide, [.int i tk, x'], .cons ⟨_, rfl⟩ (.cons ru .nil), ⟨_, hT2, rfl, _, rfl⟩⟩
    have I1 : Inv X pins σ (upd H s.heap.objs.size (.tup [.int (i : Nat), x])) { s with heap := h'', toks := tk + 1 } :=
      I.turnedNew (ch := [e, it]) (fun b ob hb q => (sb.2 b (fun z => hb (by simp [z]))).trans (hk b ob (fun z => hb (by simp [z])) (fun z => hb (by simp [z])) q)) hf (Nat.le_refl _) new
    refine ⟨.ref s.heap.objs.size, _, I1, rfl, ⟨_, x, rfl, I.hok.fresh (Nat.le_refl _), rfl, fun ys hy => by rw [I.tuple_inj hy hq]; exact hx⟩, ⟨⟨x', ?_⟩, hst.1.at fun o q => (sb.2 it (Ne.symm hne)).trans q, hne⟩, fun b hb => ?_⟩
    · have e1 : ((i + 1 : Nat) : Int) = (i : Int) + 1 := by omega
      rw [e1]; exact he'
    · have hb' : b < s.heap.objs.size := by
        have e' : b = e ∨ b = it := by simpa using hb
        rcases e' with z | z
        · rw [z]; exact hel
        · rw [z]; exact hil
      rw [upd_ne (Nat.ne_of_lt hb')]
      exact (hf b hb).1
  done := by
    intro X hP hw hK hc i pins s σ H E I hf st hg
    subst hP hw hK
    obtain ⟨⟨old, he⟩, hit, hne⟩ := st
    obtain ⟨xs, hq, hx⟩ := hg
    obtain ⟨its, rv, p, hz⟩ := I.tuple hq
    obtain ⟨f0, f1, f2, f3, f4, f5⟩ := hf it (by simp)
    have hl := rv.length
    exact mi_enum_endT (I.ok.hd hc) he hit p (by simp; omega) fun h' eb => ⟨rfl, I.turned (t' := s.toks) (fun b o hb q => eb b o hb q) f0 f1 f3 f4 f5⟩
  self := fun A i s Q E st h => let ⟨⟨_, he⟩, _⟩ := st; wpAny_pyIter_enum he h
def iEnumA (K : PySem.W.Frag) (ta : TA) : TI := fun σ H R => ta σ H fun vs H1 => ∃ a xs, vs = [.ref a] ∧ ((SqL K H1 a xs ∧ R (Ite K a) H1) ∨ (SqT K H1 a xs ∧ R (IteT K a) H1))
theorem pi_enumA {X : Cx} {e : Expr} {ta : TA} {p pos tpos : Pos} {elts : List Expr} {kk : Nat} (hg : Gl X "enumerate") (hm : X.mg "enumerate" = none) (ha : PA X [e] ta) (hs : starEach [e] X.env = [(false, eval e X.env)] := by rfl) :
    PI X (.Tuple elts kk tpos) (.Call (.Name "enumerate" p) [e] [] pos) (iEnumA X.K ta) := by
  refine ⟨fun pins s σ H R I h => ?_⟩
  refine Call_ (ld_blt I hg hm boot_enumerate (PyProof.Rows.callWith_type1 (thn (ha.run pos pins s σ H _ I h) fun us s1 ⟨vs, H1, I1, r1, q1⟩ => ?_) hs rfl))
  obtain ⟨a, xs, ex, q⟩ := q1
  subst ex
  cases r1 with
  | cons r rr =>
    cases rr
    cases r
    rcases q with ⟨hq, q⟩ | ⟨hq, q⟩
    · obtain ⟨its, rv, p', hz⟩ := I1.list hq
      refine call_enumerate_list p'.isList fun h' he hit hsz hk => wpAny_pyIter_enum he ?_
      have I2 : Inv X pins σ H1 { s1 with heap := h' } := I1.kept (t' := s1.toks) hk
      refine ⟨s1.heap.objs.size + 1, [s1.heap.objs.size + 1, s1.heap.objs.size], _, _, H1, rfl, I2, turn_enum a (s1.heap.objs.size + 1) s1.heap.objs.size, ⟨⟨.none, he⟩, hit, Nat.succ_ne_self _⟩, fun b hb => ?_, q⟩
      have e' : b = s1.heap.objs.size + 1 ∨ b = s1.heap.objs.size := by simpa using hb
      have hle : s1.heap.objs.size ≤ b := by
        rcases e' with z | z
        · rw [z]; exact Nat.le_add_right _ _
        · rw [z]; exact Nat.le_refl _
      exact I1.fpOk hle (I1.hok.fresh hle)
    · obtain ⟨its, rv, p', hz⟩ := I1.tuple hq
      refine mi_enum_begins (begins_tuple a its.toArray) p' fun h' he hit hsz hk => wpAny_pyIter_enum he ?_
      have I2 : Inv X pins σ H1 { s1 with heap := h' } := I1.kept (t' := s1.toks) hk
      refine ⟨s1.heap.objs.size + 1, [s1.heap.objs.size + 1, s1.heap.objs.size], _, _, H1, rfl, I2, turn_enumT a (s1.heap.objs.size + 1) s1.heap.objs.size, ⟨⟨.none, he⟩, ⟨_, hit, rfl, rfl⟩, Nat.succ_ne_self _⟩, fun b hb => ?_, q⟩
      have e' : b = s1.heap.objs.size + 1 ∨ b = s1.heap.objs.size := by simpa using hb
      have hle : s1.heap.objs.size ≤ b := by
        rcases e' with z | z
        · rw [z]; exact Nat.le_add_right _ _
        · rw [z]; exact Nat.le_refl _
      exact I1.fpOk hle (I1.hok.fresh hle)
def iSeqA (K : PySem.W.Frag) (tl : TE) : TI := fun σ H R => tl σ H fun x H1 => ∃ a, x = .ref a ∧ (((∃ xs, SqL K H1 a xs) ∧ R (Itl K a) H1) ∨ ((∃ xs, SqT K H1 a xs) ∧ R (Itt K a) H1))
theorem pi_seqA {X : Cx} {tg l : Expr} {tl : TE} (hl : PE X l tl) : PI X tg l (iSeqA X.K tl) := by
  refine ⟨fun pins s σ H R I h => ?_⟩
  refine thn (hl.run pins s σ H _ I h) ?_
  rintro v s1 ⟨x, H1, I1, r1, a, rfl, q⟩
  have hv : v = .ref a := r1
  subst hv
  rcases q with ⟨⟨xs, hq⟩, q⟩ | ⟨⟨xs, hq⟩, q⟩
  · have P := (pi_list (tg := tg) (X := X) (l := l) (tl := fun _ _ _ => False) ⟨fun _ _ _ _ _ _ f => f.elim⟩)
    obtain ⟨its, rv, p', hz⟩ := I1.list hq
    refine wpAny_pyIter_list p'.isList ?_
    have I2 : Inv X pins σ H1 { s1 with heap := s1.heap.push { cls := .type "list_iterator", data := .fields #[.ref a, .int 0 0] } } := I1.kept (t' := s1.toks) fun b u e => Heap.get?_push_of_some _ e
    refine ⟨s1.heap.objs.size, [s1.heap.objs.size], _, _, H1, rfl, I2, turn_list a s1.heap.objs.size, ⟨_, Heap.get?_push_size _ rfl, rfl, rfl⟩, fun b hb => ?_, q⟩
    have e' : b = s1.heap.objs.size := by simpa using hb
    have hle : s1.heap.objs.size ≤ b := by rw [e']; exact Nat.le_refl _
    exact I1.fpOk hle (I1.hok.fresh hle)
  · obtain ⟨its, rv, p', hz⟩ := I1.tuple hq
    refine wpAny_pyIter_tuple p' ?_
    have I2 : Inv X pins σ H1 { s1 with heap := s1.heap.push { cls := .type "tuple_iterator", data := .fields #[.ref a, .int 0 0] } } := I1.kept (t' := s1.toks) fun b u e => Heap.get?_push_of_some _ e
    refine ⟨s1.heap.objs.size, [s1.heap.objs.size], _, _, H1, rfl, I2, turn_tuple a s1.heap.objs.size, ⟨_, Heap.get?_push_size _ rfl, rfl, rfl⟩, fun b hb => ?_, q⟩
    have e' : b = s1.heap.objs.size := by simpa using hb
    have hle : s1.heap.objs.size ≤ b := by rw [e']; exact Nat.le_refl _
    exact I1.fpOk hle (I1.hok.fresh hle)
end Mi
set_option autoImplicit false
namespace Mi
open PySem PySem.Spec PyProof.Rows L2 SlX
def biNames : List Str := ["len", "abs", "int", "max", "min", "list", "tuple", "sum", "all", "isinstance", "range", "enumerate", "zip", "bool", "sorted", "set", "str", "any", "map", "reversed"]
def spI (O : Wo) (cl : Cl) (f : Str) : Sp := fun vs H Q XKE => ∃ ρ st ds, Sim O H ρ st ∧ RelDs O.K H ρ ds vs ∧ Pst O (fun c d _ H => XKE c d H) [] (rD O) Q H ρ (cl f ds st)
def Callee (P : Program) (w : World) (base : Heap) (O : Wo) (cl : Cl) (A : Around) (f : Str) : Prop :=
  ∃ (fa : Addr) (fd : FuncData) (ps : List Str) (k : Nat), O.mg f = some (.ref fa) ∧ PySem.W.keepIn O.K (.ref fa) = true ∧ Binds O.K fd ps [] ∧ FnOk P w O.K O.mg base (L2.CX P w) k fa fd ps (spI O cl f) ∧ Room k A
structure Good (O : Wo) (W : XW) (E : Ev) (X : Cx) : Prop where
  gd : Gd O X
  bl : ∀ x, x ∈ biNames → O.mg x = none
  tk : Takes X W
  own : PassesOwn (model X.prog X.w) X.A X.env X.xe
  fn : ∀ f, (O.t.T f).isSome = true → Callee X.prog X.w X.base O E.cl X.A f
  G : ∀ x d, E.G x = some d → ∃ u v, O.mg x = some u ∧ RelV v u ∧ ∀ H ρ, RelD O.K H ρ d v
abbrev WN : XW := fun _ _ _ _ => False
structure XE (O : Wo) (W : XW) (E : Ev) (X : Cx) (e : Expr) (i : Ex) : Prop where
  pe : PE X e (tOf O W (rD O) (evE E i))
structure XT (O : Wo) (W : XW) (E : Ev) (X : Cx) (e : Expr) (i : Te) : Prop where
  pt : PT X e (tOf O W rId (evT E i))
structure XWt (O : Wo) (W : XW) (E : Ev) (X : Cx) (e : Expr) (i : Te) : Prop where
  pw : PW X e (tOf O W rId (evT E i))
structure XC (O : Wo) (W : XW) (E : Ev) (X : Cx) (e : List Expr) (i : Ote) : Prop where
  pts : PTs X e (tOf O W rId (evC E i))
structure XA (O : Wo) (W : XW) (E : Ev) (X : Cx) (e : List Expr) (i : Exs) : Prop where
  pa : PA X e (tOf O W (rDs O) (evA E i))
structure XO (O : Wo) (W : XW) (E : Ev) (X : Cx) (e : Option Expr) (i : Oe) : Prop where
  po : PO X e (tOf O W rId (evO E i))
section exprs
variable {O : Wo} {W : XW} {E : Ev} {X : Cx} {a b c e : Expr} {es : List Expr} {ia ib ic ie : Ex} {is : Exs} {pos : Pos}
theorem Pst.bad_elim {α β : Type} {σ : L2.St} {rel : Hp → List Addr → α → β → Prop} {Q : β → Hp → Prop} {H : Hp} {ρ : List Addr} {C : Prop} (h : Pst O W σ rel Q H ρ (.bad : R α)) : C := absurd h id
theorem xe_var (i : Nat) {x : Str} (hN : X.N[i]? = some x := by rfl) (hv : Vis X.env.scope x := by first | exact Or.inl rfl | exact Or.inr (Or.inl rfl) | exact Or.inr (Or.inr rfl)) (hd : (x == ("__debug__" : Str)) = false := by decide)
    (hcd : (x == ("__classdict__" : Str)) = false := by decide) : XE O W E X (.Name x pos) (.var i) := by
  refine ⟨PE.mono (pe_var hN hv hd hcd) ?_⟩
  rintro σ H Q ⟨ρ, lo, st, sim, lok, h⟩
  simp only [evE] at h
  split at h
  · next d hd => obtain ⟨v, h1, h2⟩ := lok.2 i d hd; exact ⟨v, h1, h.now sim h2⟩
  · exact h.bad_elim
theorem xe_int {i : Int} {j} : XE O W E X (.Constant (.int i) j pos) (.con (.int i)) :=
  ⟨PE.mono pe_int fun σ H Q ⟨ρ, lo, st, sim, lok, h⟩ => by simp only [evE, conD] at h; exact h.now sim rfl⟩
theorem xe_bl {i : Bool} {j} : XE O W E X (.Constant (.bool i) j pos) (.con (.bool i)) :=
  ⟨PE.mono pe_bl fun σ H Q ⟨ρ, lo, st, sim, lok, h⟩ => by simp only [evE, conD] at h; exact h.now sim rfl⟩
theorem xe_non {j} : XE O W E X (.Constant .none j pos) (.con .none) :=
  ⟨PE.mono pe_non fun σ H Q ⟨ρ, lo, st, sim, lok, h⟩ => by simp only [evE, conD] at h; exact h.now sim rfl⟩
theorem xe_str {x : Str} {j} : XE O W E X (.Constant (.str x) j pos) (.con (.str x)) :=
  ⟨PE.mono pe_str fun σ H Q ⟨ρ, lo, st, sim, lok, h⟩ => by simp only [evE, conD] at h; exact h.now sim rfl⟩
theorem xe_glob (g : Good O W E X) {x : Str} (hx : (E.G x).isSome = true := by rfl) (hg : Gl X x := by rfl) (hd : (x == ("__debug__" : Str)) = false := by decide) : XE O W E X (.Name x pos) (.glob x) := by
  obtain ⟨d, hd'⟩ := Option.isSome_iff_exists.mp hx
  obtain ⟨u, v, h1, h2, h3⟩ := g.G x d hd'
  refine ⟨PE.mono (pe_glob hg (by rw [g.gd.mg]; exact h1) h2 hd) ?_⟩
  rintro σ H Q ⟨ρ, lo, st, sim, lok, h⟩
  simp only [evE, hd'] at h
  exact h.now sim (h3 H ρ)
theorem xe_ty (g : Good O W E X) {x : Str} {T : String} (hb : x ∈ biNames := by decide) (hv : bootBuiltins x = some (.type T) := by decide +kernel) (hg : Gl X x := by rfl) (hn : x ≠ "__name__" := by decide) (hd : (x == ("__debug__" : Str)) = false := by decide) : XE O W E X (.Name x pos) (.ty T) := by
  refine ⟨PE.mono (pe_bltn (v := .ty T) hg (by rw [g.gd.mg]; exact g.bl x hb) hv rfl hn hd) ?_⟩
  rintro σ H Q ⟨ρ, lo, st, sim, lok, h⟩
  simp only [evE] at h
  exact h.now sim rfl
theorem prim_of {f : D → D → Sto → Option (D × Sto)} {x y : D} {v w : V} {σ : L2.St} {H : Hp} {ρ : List Addr} {st : Sto} {Q : VK} (sim : Sim O H ρ st) (rx : RelD O.K H ρ x v) (ry : RelD O.K H ρ y w) (h : Pst O W σ (rD O) Q H ρ (lift (f x y st))) : rPrim O f v w H Q := by
  obtain ⟨d, st', e, q⟩ := h.lift
  exact ⟨ρ, st, x, y, d, st', sim, rx, ry, e, q⟩
theorem xe_bin {op : Operator} (g : Good O W E X) (ha : XE O W E X a ia) (hb : XE O W E X b ib) : XE O W E X (.BinOp a op b pos) (.bin op ia ib) := by
  refine ⟨PE.mono (pe_op (s_bin g.gd.K op) ha.pe hb.pe) ?_⟩
  rintro σ H Q ⟨ρ, lo, st, sim, lok, h⟩
  simp only [evE] at h
  refine ⟨ρ, lo, st, sim, lok, h.bind fun x st1 ρ1 v1 H1 e1 s1 q1 h1 => ⟨ρ1, lo, st1, s1, lok.ext e1, h1.bind fun y st2 ρ2 v2 H2 e2 s2 q2 h2 => ?_⟩⟩
  exact prim_of s2 (q1.ext e2 _) q2 h2
theorem xe_neg (ha : XE O W E X a ia) : XE O W E X (.UnaryOp .USub a pos) (.neg ia) := by
  refine ⟨PE.mono (pe_un un_neg ha.pe) ?_⟩
  rintro σ H Q ⟨ρ, lo, st, sim, lok, h⟩
  simp only [evE] at h
  refine ⟨ρ, lo, st, sim, lok, h.bind fun x st1 ρ1 v1 H1 e1 s1 q1 h1 => ?_⟩
  split at h1
  · next i => exact ⟨i, q1, h1.now s1 rfl⟩
  · exact h1.bad_elim
theorem xe_not (ha : XE O W E X a ia) : XE O W E X (.UnaryOp .Not a pos) (.not ia) := by
  refine ⟨PE.mono (pe_not ha.pe) ?_⟩
  rintro σ H Q ⟨ρ, lo, st, sim, lok, h⟩
  simp only [evE] at h
  refine ⟨ρ, lo, st, sim, lok, h.bind fun x st1 ρ1 v1 H1 e1 s1 q1 h1 => ?_⟩
  split at h1
  · next i => exact ⟨i, q1, h1.now s1 rfl⟩
  · exact h1.bad_elim
theorem xe_one {op} (ha : XE O W E X a ia) : XE O W E X (.BoolOp op [a] pos) ia := ⟨pe_one ha.pe⟩
theorem xe_and (ha : XE O W E X a ia) (hb : XE O W E X (.BoolOp .And (b :: es) pos) ib) : XE O W E X (.BoolOp .And (a :: b :: es) pos) (.and ia ib) := by
  refine ⟨PE.mono (pe_and ha.pe hb.pe) ?_⟩
  rintro σ H Q ⟨ρ, lo, st, sim, lok, h⟩
  simp only [evE] at h
  refine ⟨ρ, lo, st, sim, lok, h.bind fun x st1 ρ1 v1 H1 e1 s1 q1 h1 => ?_⟩
  split at h1
  · exact ⟨true, q1, iteT ⟨ρ1, lo, st1, s1, lok.ext e1, h1⟩⟩
  · exact ⟨false, q1, iteF (h1.now s1 rfl)⟩
  · exact h1.bad_elim
theorem xe_or (ha : XE O W E X a ia) (hb : XE O W E X (.BoolOp .Or (b :: es) pos) ib) : XE O W E X (.BoolOp .Or (a :: b :: es) pos) (.or ia ib) := by
  refine ⟨PE.mono (pe_or ha.pe hb.pe) ?_⟩
  rintro σ H Q ⟨ρ, lo, st, sim, lok, h⟩
  simp only [evE] at h
  refine ⟨ρ, lo, st, sim, lok, h.bind fun x st1 ρ1 v1 H1 e1 s1 q1 h1 => ?_⟩
  split at h1
  · exact ⟨true, q1, iteT (h1.now s1 rfl)⟩
  · exact ⟨false, q1, iteF ⟨ρ1, lo, st1, s1, lok.ext e1, h1⟩⟩
  · exact h1.bad_elim
theorem xe_cmp {op : CmpOp} (g : Good O W E X) (ha : XE O W E X a ia) (hb : XE O W E X b ib) (hm : behindInMarks op b = false := by first | exact nobehind _ (by decide) (by decide) | rfl) : XE O W E X (.Compare a [op] [b] pos) (.cmp op ia ib) := by
  refine ⟨PE.mono (pe_cmpR (s_cmp g.gd op) ha.pe hb.pe hm) ?_⟩
  rintro σ H Q ⟨ρ, lo, st, sim, lok, h⟩
  simp only [evE] at h
  refine ⟨ρ, lo, st, sim, lok, h.bind fun x st1 ρ1 v1 H1 e1 s1 q1 h1 => ⟨ρ1, lo, st1, s1, lok.ext e1, h1.bind fun y st2 ρ2 v2 H2 e2 s2 q2 h2 => ?_⟩⟩
  exact prim_of (f := cmpP op) s2 (q1.ext e2 _) q2 h2
theorem xe_chain {op op' : CmpOp} (g : Good O W E X) (ha : XE O W E X a ia) (hb : XE O W E X b ib) (hc : XE O W E X c ic) (hm : lastMarks [op, op'] [b, c] = false := by with_unfolding_all rfl) : XE O W E X (.Compare a [op, op'] [b, c] pos) (.chain op op' ia ib ic) := by
  refine ⟨PE.mono (pe_chain (s_cmp g.gd op) (s_cmp g.gd op') ha.pe hb.pe hc.pe hm) ?_⟩
  rintro σ H Q ⟨ρ, lo, st, sim, lok, h⟩
  simp only [evE] at h
  refine ⟨ρ, lo, st, sim, lok, h.bind fun x st1 ρ1 v1 H1 e1 s1 q1 h1 => ⟨ρ1, lo, st1, s1, lok.ext e1, h1.bind fun y st2 ρ2 v2 H2 e2 s2 q2 h2 => ?_⟩⟩
  split at h2
  · next hc' =>
    refine ⟨ρ2, st2, x, y, .bl true, st2, s2, q1.ext e2 _, q2, by simp [cmpP, hc'], ?_⟩
    intro ρ3 v3 H3 e3 s3 q3
    cases q3
    refine ⟨true, rfl, iteT ⟨ρ3, lo, st2, s3, ((lok.ext e1).ext e2).ext e3, (h2.later e3).bind fun z st4 ρ4 v4 H4 e4 s4 q4 h4 => ?_⟩⟩
    exact prim_of (f := cmpP op') s4 ((q2.ext e3 _).ext e4 _) q4 h4
  · next hc' =>
    refine ⟨ρ2, st2, x, y, .bl false, st2, s2, q1.ext e2 _, q2, by simp [cmpP, hc'], ?_⟩
    intro ρ3 v3 H3 e3 s3 q3
    cases q3
    exact ⟨false, rfl, iteF ((h2.later e3).now s3 rfl)⟩
  · exact h2.bad_elim
theorem xe_ife {it : Te} (hc : XT O W E X c it) (ha : XE O W E X a ia) (hb : XE O W E X b ib) : XE O W E X (.IfExp c a b pos) (.ife it ia ib) := by
  refine ⟨PE.mono (pe_ifExp hc.pt ha.pe hb.pe) ?_⟩
  rintro σ H Q ⟨ρ, lo, st, sim, lok, h⟩
  simp only [evE] at h
  refine ⟨ρ, lo, st, sim, lok, h.bind fun t st1 ρ1 t' H1 e1 s1 q1 h1 => ?_⟩
  cases q1
  cases t with
  | true => exact iteT ⟨ρ1, lo, st1, s1, lok.ext e1, h1⟩
  | false => exact iteF ⟨ρ1, lo, st1, s1, lok.ext e1, h1⟩
theorem xe_tup {k : Nat} (ha : XA O W E X es is) : XE O W E X (.Tuple es k pos) (.tup is) := by
  refine ⟨PE.mono (pe_tup ha.pa) ?_⟩
  rintro σ H Q ⟨ρ, lo, st, sim, lok, h⟩
  simp only [evE] at h
  refine ⟨ρ, lo, st, sim, lok, h.bind fun ds st1 ρ1 vs H1 e1 s1 q1 h1 => ?_⟩
  split at h1
  · next hz =>
    refine ⟨by rw [← q1.length]; exact szOk_line hz, fun p hp => ?_⟩
    obtain ⟨e2, s2, q2⟩ := lay_tup s1 q1 hp
    exact h1 _ _ _ e2 s2 q2
  · exact h1.bad_elim
theorem xe_lst (ha : XA O W E X es is) : XE O W E X (.List es pos) (.lst is) := by
  refine ⟨PE.mono (pe_lst ha.pa) ?_⟩
  rintro σ H Q ⟨ρ, lo, st, sim, lok, h⟩
  simp only [evE] at h
  refine ⟨ρ, lo, st, sim, lok, h.bind fun ds st1 ρ1 vs H1 e1 s1 q1 h1 => ?_⟩
  split at h1
  · next hz =>
    refine ⟨by rw [← q1.length]; exact szOk_line hz, fun p hp => ?_⟩
    obtain ⟨e2, s2, q2⟩ := lay_lst s1 q1 hp
    exact h1 _ _ _ e2 s2 q2
  · exact h1.bad_elim
theorem xe_idx (g : Good O W E X) (ha : XE O W E X a ia) (hb : XE O W E X b ib) (hs : PlainIx b := by exact fun _ _ => rfl) : XE O W E X (.Subscript a b pos) (.idx ia ib) := by
  refine ⟨PE.mono (pe_ix (s_idx g.gd) ha.pe hb.pe hs) ?_⟩
  rintro σ H Q ⟨ρ, lo, st, sim, lok, h⟩
  simp only [evE] at h
  refine ⟨ρ, lo, st, sim, lok, h.bind fun x st1 ρ1 v1 H1 e1 s1 q1 h1 => ⟨ρ1, lo, st1, s1, lok.ext e1, h1.bind fun y st2 ρ2 v2 H2 e2 s2 q2 h2 => ?_⟩⟩
  exact prim_of (f := idxP) s2 (q1.ext e2 _) q2 h2
theorem xo_none : XO O W E X none .none :=
  ⟨PO.mono po_none fun σ H Q ⟨ρ, lo, st, sim, lok, h⟩ => by simp only [evO] at h; exact h.now sim rfl⟩
theorem xo_some (ha : XE O W E X a ia) : XO O W E X (some a) (.some ia) := by
  refine ⟨PO.mono (po_some ha.pe) ?_⟩
  rintro σ H Q ⟨ρ, lo, st, sim, lok, h⟩
  simp only [evO] at h
  refine ⟨ρ, lo, st, sim, lok, h.bind fun x st1 ρ1 v1 H1 e1 s1 q1 h1 => ?_⟩
  split at h1
  · next i => exact ⟨i, q1, h1.now s1 rfl⟩
  · exact h1.bad_elim
theorem xe_slice {l h : Option Expr} {il ih : Oe} {p2 : Pos} (g : Good O W E X) (ha : XE O W E X a ia) (hl : XO O W E X l il) (hh : XO O W E X h ih) : XE O W E X (.Subscript a (.Slice l h none p2) pos) (.slice ia il ih) := by
  refine ⟨PE.mono (pe_slice (s_slc g.gd) ha.pe hl.po hh.po) ?_⟩
  rintro σ H Q ⟨ρ, lo, st, sim, lok, h⟩
  simp only [evE] at h
  refine ⟨ρ, lo, st, sim, lok, h.bind fun x st1 ρ1 v1 H1 e1 s1 q1 h1 => ⟨ρ1, lo, st1, s1, lok.ext e1, h1.bind fun i st2 ρ2 i' H2 e2 s2 q2 h2 => ⟨ρ2, lo, st2, s2, (lok.ext e1).ext e2, h2.bind fun j st3 ρ3 j' H3 e3 s3 q3 h3 => ?_⟩⟩⟩
  cases q2; cases q3
  obtain ⟨d, st', e, q⟩ := h3.lift
  exact ⟨ρ3, st3, x, d, st', s3, (q1.ext e2 _).ext e3 _, e, q⟩
theorem xa_nil : XA O W E X [] .nil :=
  ⟨PA.mono pa_nil fun σ H Q ⟨ρ, lo, st, sim, lok, h⟩ => by simp only [evA] at h; exact h.now sim rfl⟩
theorem xa_cons (ha : XE O W E X a ia) (hr : XA O W E X es is) (hs : starEach (a :: es) X.env = (false, eval a X.env) :: starEach es X.env := by rfl) : XA O W E X (a :: es) (.cons false ia is) := by
  refine ⟨PA.mono (pa_cons ha.pe hr.pa hs) ?_⟩
  rintro σ H Q ⟨ρ, lo, st, sim, lok, h⟩
  simp only [evA] at h
  refine ⟨ρ, lo, st, sim, lok, h.bind fun x st1 ρ1 v1 H1 e1 s1 q1 h1 => ⟨ρ1, lo, st1, s1, lok.ext e1, h1.bind fun ds st2 ρ2 vs H2 e2 s2 q2 h2 => ?_⟩⟩
  exact h2.now s2 ⟨v1, vs, rfl, q1.ext e2 _, q2⟩
theorem xa_star {p : Pos} (g : Good O W E X) (ha : XE O W E X a ia) (hr : XA O W E X es is) (hs : starEach (.Starred a p :: es) X.env = (true, eval a X.env) :: starEach es X.env := by rfl) : XA O W E X (.Starred a p :: es) (.cons true ia is) := by
  refine ⟨PA.mono (StX.pa_star ha.pe hr.pa hs) ?_⟩
  rintro σ H Q ⟨ρ, lo, st, sim, lok, h⟩
  simp only [evA] at h
  refine ⟨ρ, lo, st, sim, lok, h.bind fun x st1 ρ1 v1 H1 e1 s1 q1 h1 => ?_⟩
  split at h1
  · next ys hy =>
    obtain ⟨p, ws, rfl, hs, r⟩ := s1.seqOf hy q1
    refine ⟨p, ws, rfl, g.gd.K ▸ hs.symm, ρ1, lo, st1, s1, lok.ext e1, h1.bind fun ds st2 ρ2 vs H2 e2 s2 q2 h2 => ?_⟩
    exact h2.now s2 ((r.ext e2 _).app q2)
  · exact h1.bad_elim
theorem Pst.reW {α β : Type} {σ : L2.St} {rel : Hp → List Addr → α → β → Prop} {Q : β → Hp → Prop} {H : Hp} {ρ : List Addr} {r : R α} (h : Pst O W σ rel Q H ρ r) : Pst O (fun c d _ H => WE W σ c d H) [] rel Q H ρ r := by
  cases r <;> exact h
theorem xe_call {f : Str} {p : Pos} (g : Good O W E X) (ha : XA O W E X (e :: es) is) (hT : (O.t.T f).isSome = true := by rfl) (hg : Gl X f := by rfl) (hdb : (f == ("__debug__" : Str)) = false := by decide)
    (he : starEach (e :: es) X.env = (false, eval e X.env) :: starEach es X.env := by rfl) (hpl : (backTo pos (starEach es X.env)).any (·.1) = false := by rfl) : XE O W E X (.Call (.Name f p) (e :: es) [] pos) (.call f is) := by
  obtain ⟨fa, fd, ps, k, hm, hk, hb, F, hr⟩ := g.fn f hT
  refine ⟨PE.mono (pe_callS (CX := L2.CX X.prog X.w) (E := fun σ => WE W σ) (by rw [g.gd.K, g.gd.mg]; exact F) hr hg (by rw [g.gd.mg]; exact hm) (by rw [g.gd.K]; exact hk) (by rw [g.gd.K]; exact hb) (fun σ => passAt g.tk σ) ha.pa hdb he hpl) ?_⟩
  rintro σ H Q ⟨ρ, lo, st, sim, lok, h⟩
  simp only [evE] at h
  refine ⟨ρ, lo, st, sim, lok, h.bind fun ds st1 ρ1 vs H1 e1 s1 q1 h1 => ?_⟩
  exact ⟨ρ1, st1, ds, s1, q1, h1.reW⟩
theorem xe_bi {f : Bi} {x : Str} {p : Pos} (g : Good O W E X) (ha : XA O W E X (e :: es) is) (hb : x ∈ biNames := by decide) (hv : bootBuiltins x = some (biV f) := by decide +kernel) (hg : Gl X x := by rfl) (hn : x ≠ "__name__" := by decide) (hdb : (x == ("__debug__" : Str)) = false := by decide)
    (he : starEach (e :: es) X.env = (false, eval e X.env) :: starEach es X.env := by rfl) (hpl : (backTo pos (starEach es X.env)).any (·.1) = false := by rfl) : XE O W E X (.Call (.Name x p) (e :: es) [] pos) (.bi f is) := by
  have hm : X.mg x = none := by rw [g.gd.mg]; exact g.bl x hb
  have key : PE X (.Call (.Name x p) (e :: es) [] pos) (tCB (cPrim O (biD f)) (tOf O W (rDs O) (evA E is))) := by
    cases f
    case len => exact pe_callB (s_bi g.gd .len) hg hm hv ha.pa hn hdb he hpl
    case abs => exact pe_callB (s_bi g.gd .abs) hg hm hv ha.pa hn hdb he hpl
    case int => exact pe_callTy (s_bi g.gd .int) hg hm hv ha.pa hn hdb he hpl
    case max => exact pe_callB (s_bi g.gd .max) hg hm hv ha.pa hn hdb he hpl
    case min => exact pe_callB (s_bi g.gd .min) hg hm hv ha.pa hn hdb he hpl
    case list => exact pe_callTy (s_bi g.gd .list) hg hm hv ha.pa hn hdb he hpl
    case tuple => exact pe_callTy (s_bi g.gd .tuple) hg hm hv ha.pa hn hdb he hpl
    case sum => exact pe_callB (s_bi g.gd .sum) hg hm hv ha.pa hn hdb he hpl
    case all => exact pe_callB (s_bi g.gd .all) hg hm hv ha.pa hn hdb he hpl
    case isi => exact pe_callB (s_bi g.gd .isi) hg hm hv ha.pa hn hdb he hpl
  refine ⟨PE.mono key ?_⟩
  rintro σ H Q ⟨ρ, lo, st, sim, lok, h⟩
  simp only [evE] at h
  refine ⟨ρ, lo, st, sim, lok, h.bind fun ds st1 ρ1 vs H1 e1 s1 q1 h1 => ?_⟩
  obtain ⟨d, st', e, q⟩ := h1.lift
  exact ⟨ρ1, st1, ds, d, st', s1, q1, e, q⟩
theorem bm_core {m : Mt} {n : Nat} {σ : L2.St} {H1 : Hp} {ρ1 : List Addr} {st1 : Sto} {lo : Lo} {Q : VK} {v1 : V} (g : Good O W E X) (s1 : Sim O H1 ρ1 st1) (q1 : RelD O.K H1 ρ1 (.loc n) v1) {ys : List D} (hy : asM st1 n = some ys) : tyV X.K "list" v1 H1 := by
  obtain ⟨p, ws, rfl, _, hl, r⟩ := s1.lst hy q1
  exact .inl ⟨rfl, ws, SqL.of hl⟩
theorem xe_append {o : Expr} {io : Ex} {apos cpos : Pos} (g : Good O W E X) (ho : XE O W E X o io) (ha : XA O W E X (e :: es) is)
    (hbase : attributeBase o "append" X.env (eval o X.env) = eval o X.env := by rfl)
    (hfew : ((backTo cpos (starEach (e :: es) X.env)).all (fun x => !x.1) && (backToKw cpos (keywordEach [] X.env)).all (fun x => x.1.isSome)
      && decide ((e :: es).length + ([] : List Keyword).length + (if ([] : List Keyword).isEmpty then 0 else 1) < 30)) = true := by rfl)
    (hline : (apos.endLine == cpos.line) = true := by rfl) (hs : starEach (e :: es) X.env = (false, eval e X.env) :: starEach es X.env := by rfl) (hplain : (backTo cpos (starEach es X.env)).any (·.1) = false := by rfl) :
    XE O W E X (.Call (.Attribute o "append" apos) (e :: es) [] cpos) (.bm .append io is) := by
  refine ⟨PE.mono (pe_bm PySem.F.plainAttrs_list PySem.F.slot_list_append PySem.F.type_list_append (s_append (O := O)) ho.pe ha.pa hbase hfew hline hs hplain) ?_⟩
  rintro σ H Q ⟨ρ, lo, st, sim, lok, h⟩
  simp only [evE] at h
  refine ⟨ρ, lo, st, sim, lok, h.bind fun x st1 ρ1 v1 H1 e1 s1 q1 h1 => ?_⟩
  split at h1 <;> try exact h1.bad_elim
  next n =>
  split at h1 <;> try exact h1.bad_elim
  next ys hy =>
  refine ⟨bm_core (m := .append) (σ := σ) (lo := lo) (Q := Q) g s1 q1 hy, ρ1, lo, st1, s1, lok.ext e1, h1.bind fun ds st2 ρ2 vs H2 e2 s2 q2 h2 => ?_⟩
  obtain ⟨d, st', e', q⟩ := h2.lift
  exact ⟨ρ2, st2, n, ds, d, st', s2, q1.ext e2 _, q2, e', q⟩
theorem xe_pop {o : Expr} {io : Ex} {apos cpos : Pos} (g : Good O W E X) (ho : XE O W E X o io)
    (hbase : attributeBase o "pop" X.env (eval o X.env) = eval o X.env := by rfl) (hline : (apos.endLine == cpos.line) = true := by rfl) :
    XE O W E X (.Call (.Attribute o "pop" apos) [] [] cpos) (.bm .pop io .nil) := by
  refine ⟨PE.mono (pe_bm0 PySem.F.plainAttrs_list PySem.F.slot_list_pop PySem.F.type_list_pop (s_pop (O := O)) ho.pe hbase hline) ?_⟩
  rintro σ H Q ⟨ρ, lo, st, sim, lok, h⟩
  simp only [evE] at h
  refine ⟨ρ, lo, st, sim, lok, h.bind fun x st1 ρ1 v1 H1 e1 s1 q1 h1 => ?_⟩
  split at h1 <;> try exact h1.bad_elim
  next n =>
  split at h1 <;> try exact h1.bad_elim
  next ys hy =>
  simp only [evA, R.bind] at h1
  obtain ⟨d, st', e', q⟩ := h1.lift
  exact ⟨bm_core (m := .pop) (σ := σ) (lo := lo) (Q := Q) g s1 q1 hy, ρ1, st1, n, [], d, st', s1, q1, rfl, e', q⟩
/-! tests -/
theorem xt_val (g : Good O W E X) (ha : XE O W E X a ia) (he : ∀ whole, isTrue a X.env whole = (do let v ← whole; standAt a.pos; holding [v] (truthy v)) := by intro _; rfl) : XT O W E X a (.val ia) := by
  refine ⟨PT.mono (pt_truth ha.pe he) ?_⟩
  rintro σ H Q ⟨ρ, lo, st, sim, lok, h⟩
  simp only [evT] at h
  refine ⟨ρ, lo, st, sim, lok, h.bind fun x st1 ρ1 v1 H1 e1 s1 q1 h1 => ?_⟩
  obtain ⟨t, st', e', q⟩ := h1.lift
  simp only [Option.map_eq_some_iff, Prod.mk.injEq] at e'
  obtain ⟨k, e2, rfl, rfl⟩ := e'
  exact ⟨k, s_tru g.gd s1 q1 e2, q ρ1 _ _ (Ext.refl _ _) s1 rfl⟩
theorem R.bind_assoc {α β γ : Type} (r : R α) (f : α → Sto → R β) (k : β → Sto → R γ) : (r.bind f).bind k = r.bind fun a st => (f a st).bind k := by
  cases r <;> rfl
theorem tru_cmp {op : CmpOp} {x y : D} {st : Sto} : (lift ((cmpD op x y st).map fun c => (D.bl c, st))).bind (fun d st1 => lift ((truD d st1).map fun t => (t, st1))) = lift ((cmpD op x y st).map fun c => (c, st)) := by
  cases cmpD op x y st <;> rfl
theorem xt_cmp {op : CmpOp} (g : Good O W E X) (ha : XE O W E X a ia) (hb : XE O W E X b ib) (hm : behindInMarks op b = false := by first | exact nobehind _ (by decide) (by decide) | rfl) : XT O W E X (.Compare a [op] [b] pos) (.val (.cmp op ia ib)) := by
  refine ⟨PT.mono (pt_cmpR (s_cmp g.gd op) ha.pe hb.pe hm) ?_⟩
  rintro σ H Q ⟨ρ, lo, st, sim, lok, h⟩
  simp only [evT, evE, R.bind_assoc, tru_cmp] at h
  refine ⟨ρ, lo, st, sim, lok, h.bind fun x st1 ρ1 v1 H1 e1 s1 q1 h1 => ⟨ρ1, lo, st1, s1, lok.ext e1, h1.bind fun y st2 ρ2 v2 H2 e2 s2 q2 h2 => ?_⟩⟩
  obtain ⟨k, st', e', q⟩ := h2.lift
  simp only [Option.map_eq_some_iff, Prod.mk.injEq] at e'
  obtain ⟨c, hc, rfl, rfl⟩ := e'
  refine ⟨ρ2, st2, x, y, .bl c, st2, s2, q1.ext e2 _, q2, by simp [cmpP, hc], ?_⟩
  intro ρ3 v3 H3 e3 s3 r3
  exact ⟨c, r3, q ρ3 _ H3 e3 s3 rfl⟩
theorem xt_chain {op op' : CmpOp} (g : Good O W E X) (ha : XE O W E X a ia) (hb : XE O W E X b ib) (hc : XE O W E X c ic) (hm : lastMarks [op, op'] [b, c] = false := by with_unfolding_all rfl) : XT O W E X (.Compare a [op, op'] [b, c] pos) (.val (.chain op op' ia ib ic)) := by
  refine ⟨PT.mono (pt_chain (s_cmp g.gd op) (s_cmp g.gd op') ha.pe hb.pe hc.pe hm) ?_⟩
  rintro σ H Q ⟨ρ, lo, st, sim, lok, h⟩
  simp only [evT, evE, R.bind_assoc] at h
  refine ⟨ρ, lo, st, sim, lok, h.bind fun x st1 ρ1 v1 H1 e1 s1 q1 h1 => ⟨ρ1, lo, st1, s1, lok.ext e1, h1.bind fun y st2 ρ2 v2 H2 e2 s2 q2 h2 => ?_⟩⟩
  cases hc' : cmpD op x y st2 with
  | none => rw [hc'] at h2; exact absurd h2 id
  | some k =>
    refine ⟨ρ2, st2, x, y, .bl k, st2, s2, q1.ext e2 _, q2, by simp [cmpP, hc'], ?_⟩
    intro ρ3 v3 H3 e3 s3 r3
    refine ⟨k, r3, ?_⟩
    rw [hc'] at h2
    cases k with
    | true =>
      simp only [R.bind_assoc, tru_cmp] at h2
      refine iteT ⟨ρ3, lo, st2, s3, ((lok.ext e1).ext e2).ext e3, (h2.later e3).bind fun z st4 ρ4 v4 H4 e4 s4 q4 h4 => ?_⟩
      obtain ⟨k, st', e', q⟩ := h4.lift
      simp only [Option.map_eq_some_iff, Prod.mk.injEq] at e'
      obtain ⟨c', hc2, rfl, rfl⟩ := e'
      refine ⟨ρ4, st4, y, z, .bl c', st4, s4, (q2.ext e3 _).ext e4 _, q4, by simp [cmpP, hc2], ?_⟩
      intro ρ5 v5 H5 e5 s5 r5
      exact ⟨c', r5, q ρ5 _ H5 e5 s5 rfl⟩
    | false =>
      refine iteF ⟨false, rfl, ?_⟩
      exact (Pst.later e3 h2) ρ3 _ H3 (Ext.refl _ _) s3 rfl
theorem xt_not {ta : Te} (ha : XT O W E X a ta) : XT O W E X (.UnaryOp .Not a pos) (.not ta) := by
  refine ⟨PT.mono (pt_not ha.pt) ?_⟩
  rintro σ H Q ⟨ρ, lo, st, sim, lok, h⟩
  simp only [evT] at h
  refine ⟨ρ, lo, st, sim, lok, h.bind fun t st1 ρ1 t' H1 e1 s1 q1 h1 => ?_⟩
  cases q1
  exact h1.now s1 rfl
theorem xt_w {ta : Te} (ha : XWt O W E X a ta) : XT O W E X a ta := ⟨ha.pw.pt⟩
theorem xw_and1 {ta : Te} (ha : XT O W E X a ta) : XWt O W E X (.BoolOp .And [a] pos) ta := ⟨pw_and1 ha.pt⟩
theorem xw_or1 {ta : Te} (ha : XT O W E X a ta) : XWt O W E X (.BoolOp .Or [a] pos) ta := ⟨pw_or1 ha.pt⟩
theorem xw_and {ta tb : Te} (ha : XT O W E X a ta) (hb : XWt O W E X (.BoolOp .And (b :: es) pos) tb) : XWt O W E X (.BoolOp .And (a :: b :: es) pos) (.and ta tb) := by
  refine ⟨PW.mono (pw_and ha.pt hb.pw) ?_⟩
  rintro σ H Q ⟨ρ, lo, st, sim, lok, h⟩
  simp only [evT] at h
  refine ⟨ρ, lo, st, sim, lok, h.bind fun t st1 ρ1 t' H1 e1 s1 q1 h1 => ?_⟩
  cases q1
  cases t with
  | true => exact iteT ⟨ρ1, lo, st1, s1, lok.ext e1, h1⟩
  | false => exact iteF (h1.now s1 rfl)
theorem xw_or {ta tb : Te} (ha : XT O W E X a ta) (hb : XWt O W E X (.BoolOp .Or (b :: es) pos) tb) : XWt O W E X (.BoolOp .Or (a :: b :: es) pos) (.or ta tb) := by
  refine ⟨PW.mono (pw_or ha.pt hb.pw) ?_⟩
  rintro σ H Q ⟨ρ, lo, st, sim, lok, h⟩
  simp only [evT] at h
  refine ⟨ρ, lo, st, sim, lok, h.bind fun t st1 ρ1 t' H1 e1 s1 q1 h1 => ?_⟩
  cases q1
  cases t with
  | true => exact iteT (h1.now s1 rfl)
  | false => exact iteF ⟨ρ1, lo, st1, s1, lok.ext e1, h1⟩
theorem xc_none : XC O W E X [] .none :=
  ⟨⟨fun pins s σ H Q I ⟨ρ, lo, st, sim, lok, h⟩ => pts_nil.run pins s σ H Q I (by simp only [evC] at h; exact h.now sim rfl)⟩⟩
theorem xc_some {ta : Te} (ha : XT O W E X a ta) : XC O W E X [a] (.some ta) :=
  ⟨⟨fun pins s σ H Q I ⟨ρ, lo, st, sim, lok, h⟩ => (pts_one ha.pt).run pins s σ H Q I ⟨ρ, lo, st, sim, lok, by simpa only [evC] using h⟩⟩⟩
end exprs
end Mi
set_option autoImplicit false
namespace Mi
open PySem PySem.Spec PyProof.Rows L2 SlX
/-! what is walked -/
def relW (O : Wo) : Hp → List Addr → Wk → It → Prop := fun H ρ w J => ∀ (i : Nat) (H1 : Hp) (ρ1 : List Addr) (st1 : Sto), Ext H ρ H1 ρ1 → Sim O H1 ρ1 st1 →
  (∀ d, w.get i st1 = some (some d) → J.go i H1 ∧ ∀ x H2, J.yld i H1 x H2 → Ext H1 ρ1 H2 ρ1 ∧ Sim O H2 ρ1 st1 ∧ RelD O.K H2 ρ1 d x) ∧ (w.get i st1 = some none → J.stop i H1)
structure XI (O : Wo) (W : XW) (E : Ev) (X : Cx) (tg e : Expr) (i : Itx) : Prop where
  pi : PI X tg e (tOf O W (relW O) (evI E i))
section iters
variable {O : Wo} {W : XW} {E : Ev} {X : Cx} {a b e tg : Expr} {es : List Expr} {ia ib ie : Ex} {is : Exs} {pos : Pos}
theorem relW_tup {H : Hp} {ρ : List Addr} {p : Addr} {vs : List V} {xs : List D} (hs : SqT O.K H p vs) (r : RelDs O.K H ρ xs vs) : relW O H ρ (wkTup xs) (Itt O.K p) := by
  intro i H1 ρ1 st1 e1 s1
  have hs1 := e1.sqT hs
  have r1 := r.ext e1 _
  refine ⟨fun d hd => ?_, fun hn => ?_⟩
  · simp only [wkTup, Option.some.injEq] at hd
    obtain ⟨v, hv, rv⟩ := r1.get hd
    refine ⟨⟨vs, v, hs1, hv⟩, ?_⟩
    rintro x H2 ⟨rfl, hx⟩
    have := hx vs hs1
    rw [hv] at this; cases this
    exact ⟨Ext.refl _ _, s1, rv⟩
  · simp only [wkTup, Option.some.injEq] at hn
    refine ⟨vs, hs1, ?_⟩
    rw [← r1.length]
    exact List.getElem?_eq_none_iff.mp hn
theorem relW_lst {H : Hp} {ρ : List Addr} {n k : Nat} {v : V} (rv : RelD O.K H ρ (.loc n) v) : ∃ p, v = .ref p ∧ relW O H ρ (wkLst n k) (Itl O.K p) := by
  obtain ⟨p, rfl, hp⟩ := rv
  refine ⟨p, rfl, ?_⟩
  intro i H1 ρ1 st1 e1 s1
  have rv1 : RelD O.K H1 ρ1 (.loc n) (.ref p) := ⟨p, rfl, e1.get hp⟩
  refine ⟨fun d hd => ?_, fun hn => ?_⟩
  · simp only [wkLst, Option.map_eq_some_iff] at hd
    obtain ⟨xs, h1, h2⟩ := hd
    obtain ⟨p', vs, hpp, _, hs, r⟩ := s1.seq h1 rv1
    cases hpp
    obtain ⟨u, hu, ru⟩ := r.get h2
    refine ⟨⟨vs, u, hs, hu⟩, ?_⟩
    rintro x H2 ⟨rfl, hx⟩
    have := hx vs hs
    rw [hu] at this; cases this
    exact ⟨Ext.refl _ _, s1, ru⟩
  · simp only [wkLst, Option.map_eq_some_iff] at hn
    obtain ⟨xs, h1, h2⟩ := hn
    obtain ⟨p', vs, hpp, _, hs, r⟩ := s1.seq h1 rv1
    cases hpp
    refine ⟨vs, hs, ?_⟩
    rw [← r.length]
    exact List.getElem?_eq_none_iff.mp h2
theorem relW_enumT {H : Hp} {ρ : List Addr} {p : Addr} {vs : List V} {xs : List D} (hs : SqT O.K H p vs) (r : RelDs O.K H ρ xs vs) : relW O H ρ (wkEnum (wkTup xs)) (IteT O.K p) := by
  intro i H1 ρ1 st1 e1 s1
  have hs1 := e1.sqT hs
  have r1 := r.ext e1 _
  refine ⟨fun d hd => ?_, fun hn => ?_⟩
  · simp only [wkEnum, wkTup, Option.map_some, Option.some.injEq, Option.map_eq_some_iff] at hd
    obtain ⟨d0, hd0, rfl⟩ := hd
    obtain ⟨v, hv, rv⟩ := r1.get hd0
    refine ⟨⟨vs, v, hs1, hv⟩, ?_⟩
    rintro x H2 ⟨T, y, rfl, hT, rfl, hx⟩
    have := hx vs hs1
    rw [hv] at this; cases this
    exact lay_tup s1 (RelDs.two (d := .int i) rfl rv) hT
  · simp only [wkEnum, wkTup, Option.map_some, Option.some.injEq, Option.map_eq_none_iff] at hn
    refine ⟨vs, hs1, ?_⟩
    rw [← r1.length]
    exact List.getElem?_eq_none_iff.mp hn
theorem relW_enumL {H : Hp} {ρ : List Addr} {n k : Nat} {v : V} (rv : RelD O.K H ρ (.loc n) v) : ∃ p, v = .ref p ∧ relW O H ρ (wkEnum (wkLst n k)) (Ite O.K p) := by
  obtain ⟨p, rfl, hp⟩ := rv
  refine ⟨p, rfl, ?_⟩
  intro i H1 ρ1 st1 e1 s1
  have rv1 : RelD O.K H1 ρ1 (.loc n) (.ref p) := ⟨p, rfl, e1.get hp⟩
  refine ⟨fun d hd => ?_, fun hn => ?_⟩
  · simp only [wkEnum, wkLst, Option.map_map, Option.map_eq_some_iff, Function.comp] at hd
    obtain ⟨xs, h1, d0, h2, rfl⟩ := hd
    obtain ⟨p', vs, hpp, _, hs, r⟩ := s1.seq h1 rv1
    cases hpp
    obtain ⟨u, hu, ru⟩ := r.get h2
    refine ⟨⟨vs, u, hs, hu⟩, ?_⟩
    rintro x H2 ⟨T, y, rfl, hT, rfl, hx⟩
    have := hx vs hs
    rw [hu] at this; cases this
    exact lay_tup s1 (RelDs.two (d := .int i) rfl ru) hT
  · simp only [wkEnum, wkLst, Option.map_map, Option.map_eq_some_iff, Function.comp, Option.map_eq_none_iff] at hn
    obtain ⟨xs, h1, h2⟩ := hn
    obtain ⟨p', vs, hpp, _, hs, r⟩ := s1.seq h1 rv1
    cases hpp
    refine ⟨vs, hs, ?_⟩
    rw [← r.length]
    exact List.getElem?_eq_none_iff.mp h2
theorem zip_get {u v : Wk} {i : Nat} {st : Sto} {o : Option D} (h : (wkZip u v).get i st = some o) : ∃ x y, u.get i st = some x ∧ v.get i st = some y ∧ o = x.bind fun a => y.map fun b => .tup [a, b] := by
  simp only [wkZip] at h
  split at h
  · next x y h1 h2 => exact ⟨x, y, h1, h2, (Option.some.inj h).symm⟩
  · contradiction
theorem relW_zipL {H : Hp} {ρ : List Addr} {n k n' k' : Nat} {p p' : Addr} (rv : RelD O.K H ρ (.loc n) (.ref p)) (rv' : RelD O.K H ρ (.loc n') (.ref p')) : relW O H ρ (wkZip (wkLst n k) (wkLst n' k')) (Itz O.K p p') := by
  obtain ⟨_, hz, hp⟩ := rv
  cases hz
  obtain ⟨_, hz, hp'⟩ := rv'
  cases hz
  intro i H1 ρ1 st1 e1 s1
  have rv1 : RelD O.K H1 ρ1 (.loc n) (.ref p) := ⟨p, rfl, e1.get hp⟩
  have rv2 : RelD O.K H1 ρ1 (.loc n') (.ref p') := ⟨p', rfl, e1.get hp'⟩
  have key : ∀ o, (wkZip (wkLst n k) (wkLst n' k')).get i st1 = some o → ∃ xs ys vs ws, SqL O.K H1 p vs ∧ SqL O.K H1 p' ws ∧ RelDs O.K H1 ρ1 xs vs ∧ RelDs O.K H1 ρ1 ys ws ∧ o = xs[i]?.bind fun a => ys[i]?.map fun b => .tup [a, b] := by
    intro o ho
    obtain ⟨x, y, h1, h2, h3⟩ := zip_get ho
    simp only [wkLst, Option.map_eq_some_iff] at h1 h2
    obtain ⟨xs, h1, rfl⟩ := h1
    obtain ⟨ys, h2, rfl⟩ := h2
    obtain ⟨q, vs, hpp, _, hs, r⟩ := s1.seq h1 rv1
    cases hpp
    obtain ⟨q', ws, hpp, _, hs', r'⟩ := s1.seq h2 rv2
    cases hpp
    exact ⟨xs, ys, vs, ws, hs, hs', r, r', h3⟩
  refine ⟨fun d hd => ?_, fun hn => ?_⟩
  · obtain ⟨xs, ys, vs, ws, hs, hs', r, r', ho⟩ := key _ hd
    cases hx : xs[i]? with
    | none => rw [hx] at ho; simp at ho
    | some x =>
      cases hy : ys[i]? with
      | none => rw [hx, hy] at ho; simp at ho
      | some y =>
        rw [hx, hy] at ho
        simp only [Option.bind_some, Option.map_some, Option.some.injEq] at ho
        subst ho
        obtain ⟨u, hu, ru⟩ := r.get hx
        obtain ⟨u', hu', ru'⟩ := r'.get hy
        refine ⟨⟨vs, ws, u, u', hs, hs', hu, hu'⟩, ?_⟩
        rintro z H2 ⟨T, y1, y2, rfl, hT, rfl, hx1, hx2⟩
        have := hx1 vs hs
        rw [hu] at this; cases this
        have := hx2 ws hs'
        rw [hu'] at this; cases this
        exact lay_tup s1 (RelDs.two ru ru') hT
  · obtain ⟨xs, ys, vs, ws, hs, hs', r, r', ho⟩ := key _ hn
    refine ⟨vs, ws, hs, hs', ?_⟩
    rw [← r.length, ← r'.length]
    cases hx : xs[i]? with
    | none => exact .inl (List.getElem?_eq_none_iff.mp hx)
    | some x =>
      cases hy : ys[i]? with
      | none => exact .inr (List.getElem?_eq_none_iff.mp hy)
      | some y => rw [hx, hy] at ho; simp at ho
theorem relW_zipT {H : Hp} {ρ : List Addr} {p p' : Addr} {vs ws : List V} {xs ys : List D} (hs : SqT O.K H p vs) (r : RelDs O.K H ρ xs vs) (hs' : SqT O.K H p' ws) (r' : RelDs O.K H ρ ys ws) : relW O H ρ (wkZip (wkTup xs) (wkTup ys)) (RZ.ItzT O.K p p') := by
  intro i H1 ρ1 st1 e1 s1
  have hs1 := e1.sqT hs
  have r1 := r.ext e1 _
  have hs2 := e1.sqT hs'
  have r2 := r'.ext e1 _
  have key : ∀ o, (wkZip (wkTup xs) (wkTup ys)).get i st1 = some o → o = xs[i]?.bind fun a => ys[i]?.map fun b => .tup [a, b] := by
    intro o ho
    obtain ⟨x, y, h1, h2, h3⟩ := zip_get ho
    simp only [wkTup, Option.some.injEq] at h1 h2
    subst h1 h2
    exact h3
  refine ⟨fun d hd => ?_, fun hn => ?_⟩
  · have ho := key _ hd
    cases hx : xs[i]? with
    | none => rw [hx] at ho; simp at ho
    | some x =>
      cases hy : ys[i]? with
      | none => rw [hx, hy] at ho; simp at ho
      | some y =>
        rw [hx, hy] at ho
        simp only [Option.bind_some, Option.map_some, Option.some.injEq] at ho
        subst ho
        obtain ⟨u, hu, ru⟩ := r1.get hx
        obtain ⟨u', hu', ru'⟩ := r2.get hy
        refine ⟨⟨vs, ws, u, u', hs1, hs2, hu, hu'⟩, ?_⟩
        rintro z H2 ⟨T, y1, y2, rfl, hT, rfl, hx1, hx2⟩
        have := hx1 vs hs1
        rw [hu] at this; cases this
        have := hx2 ws hs2
        rw [hu'] at this; cases this
        exact lay_tup s1 (RelDs.two ru ru') hT
  · have ho := key _ hn
    refine ⟨vs, ws, hs1, hs2, ?_⟩
    rw [← r1.length, ← r2.length]
    cases hx : xs[i]? with
    | none => exact .inl (List.getElem?_eq_none_iff.mp hx)
    | some x =>
      cases hy : ys[i]? with
      | none => exact .inr (List.getElem?_eq_none_iff.mp hy)
      | some y => rw [hx, hy] at ho; simp at ho
theorem relW_rng {H : Hp} {ρ : List Addr} {lo : Int} {n : Nat} : relW O H ρ (wkRng lo n) (Itr lo n) := by
  intro i H1 ρ1 st1 e1 s1
  refine ⟨fun d hd => ?_, fun hn => ?_⟩
  · simp only [wkRng, Option.some.injEq] at hd
    split at hd
    · next hi =>
      cases hd
      refine ⟨hi, ?_⟩
      rintro x H2 ⟨rfl, rfl⟩
      exact ⟨Ext.refl _ _, s1, rfl⟩
    · contradiction
  · simp only [wkRng, Option.some.injEq] at hn
    split at hn
    · contradiction
    · next hi => exact Nat.le_of_not_lt hi
theorem relW_down {H : Hp} {ρ : List Addr} {lo : Int} {n : Nat} : relW O H ρ (wkDown lo n) (Itc lo (-1) n) := by
  intro i H1 ρ1 st1 e1 s1
  refine ⟨fun d hd => ?_, fun hn => ?_⟩
  · simp only [wkDown, Option.some.injEq] at hd
    split at hd
    · next hi =>
      cases hd
      refine ⟨hi, ?_⟩
      rintro x H2 ⟨rfl, rfl⟩
      exact ⟨Ext.refl _ _, s1, by show V.int _ = V.int _; congr 1; omega⟩
    · contradiction
  · simp only [wkDown, Option.some.injEq] at hn
    split at hn
    · contradiction
    · next hi => exact Nat.le_of_not_lt hi
theorem seq_pick {H : Hp} {ρ : List Addr} {st : Sto} {x : D} {v : V} {w : Wk} (sim : Sim O H ρ st) (r : RelD O.K H ρ x v) (hw : wkSeq st x = some w) :
    ∃ p, v = .ref p ∧ ((∃ n k xs vs, x = .loc n ∧ w = wkLst n k ∧ asL st n = some xs ∧ SqL O.K H p vs) ∨ (∃ xs vs, x = .tup xs ∧ w = wkTup xs ∧ SqT O.K H p vs ∧ RelDs O.K H ρ xs vs)) := by
  unfold wkSeq at hw
  split at hw
  · next xs =>
    cases hw
    obtain ⟨p, vs, rfl, hs, r1⟩ := r
    exact ⟨p, rfl, .inr ⟨xs, vs, rfl, rfl, hs, r1⟩⟩
  · next n =>
    simp only [Option.map_eq_some_iff] at hw
    obtain ⟨xs, h1, rfl⟩ := hw
    obtain ⟨p, vs, rfl, _, hs, r1⟩ := sim.seq h1 r
    exact ⟨p, rfl, .inl ⟨n, xs.length, xs, vs, rfl, rfl, h1, hs⟩⟩
  · contradiction
theorem xi_seq (g : Good O W E X) (ha : XE O W E X a ia) : XI O W E X tg a (.seq ia) := by
  refine ⟨PI.mono (pi_seqA ha.pe) ?_⟩
  rintro σ H Q ⟨ρ, lo, st, sim, lok, h⟩
  simp only [evI] at h
  refine ⟨ρ, lo, st, sim, lok, h.bind fun x st1 ρ1 v1 H1 e1 s1 q1 h1 => ?_⟩
  obtain ⟨w, st', e', q⟩ := h1.lift
  simp only [Option.map_eq_some_iff, Prod.mk.injEq] at e'
  obtain ⟨w', hw, rfl, rfl⟩ := e'
  obtain ⟨p, rfl, hp⟩ := seq_pick s1 q1 hw
  rw [g.gd.K]
  refine ⟨p, rfl, ?_⟩
  rcases hp with ⟨n, k, xs, vs, rfl, rfl, hx, hs⟩ | ⟨xs, vs, rfl, rfl, hs, r⟩
  · obtain ⟨p', hpp, hW⟩ := relW_lst (k := k) q1
    cases hpp
    exact .inl ⟨⟨vs, hs⟩, q _ _ _ (Ext.refl _ _) s1 hW⟩
  · exact .inr ⟨⟨vs, hs⟩, q _ _ _ (Ext.refl _ _) s1 (relW_tup hs r)⟩
theorem xi_enum {elts : List Expr} {kk : Nat} {tpos p : Pos} (g : Good O W E X) (ha : XE O W E X a ia) (hg : Gl X "enumerate" := by rfl) (hs : starEach [a] X.env = [(false, eval a X.env)] := by rfl) : XI O W E X (.Tuple elts kk tpos) (.Call (.Name "enumerate" p) [a] [] pos) (.enum ia) := by
  refine ⟨PI.mono (pi_enumA hg (by rw [g.gd.mg]; exact g.bl _ (by decide)) (pa_cons ha.pe pa_nil hs) hs) ?_⟩
  rintro σ H Q ⟨ρ, lo, st, sim, lok, h⟩
  simp only [evI] at h
  refine ⟨ρ, lo, st, sim, lok, h.bind fun x st1 ρ1 v1 H1 e1 s1 q1 h1 => ?_⟩
  obtain ⟨w, st', e', q⟩ := h1.lift
  simp only [Option.map_eq_some_iff, Prod.mk.injEq] at e'
  obtain ⟨w', hw, rfl, rfl⟩ := e'
  obtain ⟨p, rfl, hp⟩ := seq_pick s1 q1 hw
  rw [g.gd.K]
  rcases hp with ⟨n, k, xs, vs, rfl, rfl, hx, hs⟩ | ⟨xs, vs, rfl, rfl, hs, r⟩
  · obtain ⟨p', hpp, hW⟩ := relW_enumL (k := k) q1
    cases hpp
    exact ⟨p, vs, rfl, .inl ⟨hs, q _ _ _ (Ext.refl _ _) s1 hW⟩⟩
  · exact ⟨p, vs, rfl, .inr ⟨hs, q _ _ _ (Ext.refl _ _) s1 (relW_enumT hs r)⟩⟩
theorem xi_zip {elts : List Expr} {kk : Nat} {tpos p : Pos} (g : Good O W E X) (ha : XE O W E X a ia) (hb : XE O W E X b ib) (hg : Gl X "zip" := by rfl) (hs : starEach [a, b] X.env = (false, eval a X.env) :: starEach [b] X.env := by rfl)
    (hs2 : starEach [b] X.env = [(false, eval b X.env)] := by rfl) (hpl : (backTo pos (starEach [b] X.env)).any (·.1) = false := by rfl) : XI O W E X (.Tuple elts kk tpos) (.Call (.Name "zip" p) [a, b] [] pos) (.zip ia ib) := by
  refine ⟨PI.mono (RZ.pi_zipA hg (by rw [g.gd.mg]; exact g.bl _ (by decide)) (pa_cons ha.pe (pa_cons hb.pe pa_nil hs2) hs) hs hpl) ?_⟩
  rintro σ H Q ⟨ρ, lo, st, sim, lok, h⟩
  simp only [evI] at h
  refine ⟨ρ, lo, st, sim, lok, h.bind fun x st1 ρ1 v1 H1 e1 s1 q1 h1 => ⟨ρ1, lo, st1, s1, lok.ext e1, h1.bind fun y st2 ρ2 v2 H2 e2 s2 q2 h2 => ?_⟩⟩
  have q1 := q1.ext e2 _
  split at h2
  · next u v hu hv =>
    split at h2
    · next hz =>
      obtain ⟨p, rfl, hp⟩ := seq_pick s2 q1 hu
      obtain ⟨p', rfl, hp'⟩ := seq_pick s2 q2 hv
      rw [g.gd.K]
      rcases hp with ⟨n, k, xs, vs, rfl, rfl, hx, hs⟩ | ⟨xs, vs, rfl, rfl, hs, r⟩
      · rcases hp' with ⟨n', k', xs', vs', rfl, rfl, hx', hs'⟩ | ⟨xs', vs', rfl, rfl, hs', r'⟩
        · exact ⟨p, p', vs, vs', rfl, .inl ⟨hs, hs', h2 _ _ _ (Ext.refl _ _) s2 (relW_zipL q1 q2)⟩⟩
        · simp [isLoc] at hz
      · rcases hp' with ⟨n', k', xs', vs', rfl, rfl, hx', hs'⟩ | ⟨xs', vs', rfl, rfl, hs', r'⟩
        · simp [isLoc] at hz
        · exact ⟨p, p', vs, vs', rfl, .inr ⟨hs, hs', h2 _ _ _ (Ext.refl _ _) s2 (relW_zipT hs r hs' r')⟩⟩
    · exact h2.bad_elim
  · exact h2.bad_elim
theorem rng_1 {x : D} {w : Wk} (h : wkRange [x] = some w) : ∃ j, x = .int j ∧ bigOk j = true ∧ w = wkRng 0 j.toNat := by
  cases x <;> simp only [wkRange] at h <;> try contradiction
  next j => split at h <;> try contradiction
            next hz => cases h; exact ⟨j, rfl, hz, rfl⟩
theorem rng_2 {x y : D} {w : Wk} (h : wkRange [x, y] = some w) : ∃ i j, x = .int i ∧ y = .int j ∧ (bigOk i && bigOk j) = true ∧ w = wkRng i (j - i).toNat := by
  cases x <;> cases y <;> simp only [wkRange] at h <;> try contradiction
  next i j => split at h <;> try contradiction
              next hz => cases h; exact ⟨i, j, rfl, rfl, hz, rfl⟩
theorem rng_3 {x y z : D} {w : Wk} (h : wkRange [x, y, z] = some w) : ∃ i j, x = .int i ∧ y = .int j ∧ z = .int (-1) ∧ (bigOk i && bigOk j) = true ∧ w = wkDown i (i - j).toNat := by
  unfold wkRange at h
  split at h <;> try contradiction
  · next hj => simp at hj
  · next hj => simp at hj
  · next i j hj =>
    simp only [List.cons.injEq, and_true] at hj
    obtain ⟨rfl, rfl, rfl⟩ := hj
    split at h <;> try contradiction
    next hz => cases h; exact ⟨i, j, rfl, rfl, rfl, hz, rfl⟩
theorem xi_rng1 {p : Pos} (g : Good O W E X) (ha : XE O W E X a ia) (hg : Gl X "range" := by rfl) (hs : starEach [a] X.env = [(false, eval a X.env)] := by rfl) : XI O W E X tg (.Call (.Name "range" p) [a] [] pos) (.rng (.cons false ia .nil)) := by
  refine ⟨PI.mono (pi_range1 hg (by rw [g.gd.mg]; exact g.bl _ (by decide)) (pa_cons ha.pe pa_nil hs) hs) ?_⟩
  rintro σ H Q ⟨ρ, lo, st, sim, lok, h⟩
  simp only [evI, evA] at h
  refine ⟨ρ, lo, st, sim, lok, ?_⟩
  have h' : Pst O W σ (relW O) Q H ρ ((evE E ia lo st).bind fun x st1 => lift (Option.map (fun w => (w, st1)) (wkRange [x]))) := by
    cases hr : evE E ia lo st <;> rw [hr] at h <;> exact h
  refine h'.bind fun x st1 ρ1 v1 H1 e1 s1 q1 h1 => ?_
  obtain ⟨w, st', e', q⟩ := h1.lift
  simp only [Option.map_eq_some_iff, Prod.mk.injEq] at e'
  obtain ⟨w', hw, rfl, rfl⟩ := e'
  obtain ⟨j, rfl, hz, rfl⟩ := rng_1 hw
  · simp only [bigOk, Bool.and_eq_true, decide_eq_true_eq] at hz
    cases q1
    exact ⟨j, rfl, hz.1, hz.2, q _ _ _ (Ext.refl _ _) s1 relW_rng⟩
theorem xi_rng2 {p : Pos} (g : Good O W E X) (ha : XE O W E X a ia) (hb : XE O W E X b ib) (hg : Gl X "range" := by rfl) (hs : starEach [a, b] X.env = [(false, eval a X.env), (false, eval b X.env)] := by rfl) (hs2 : starEach [b] X.env = [(false, eval b X.env)] := by rfl) :
    XI O W E X tg (.Call (.Name "range" p) [a, b] [] pos) (.rng (.cons false ia (.cons false ib .nil))) := by
  refine ⟨PI.mono (pi_range2 hg (by rw [g.gd.mg]; exact g.bl _ (by decide)) (pa_cons ha.pe (pa_cons hb.pe pa_nil hs2) (by rw [hs, hs2])) hs hs2) ?_⟩
  rintro σ H Q ⟨ρ, lo, st, sim, lok, h⟩
  simp only [evI, evA] at h
  refine ⟨ρ, lo, st, sim, lok, ?_⟩
  have h' : Pst O W σ (relW O) Q H ρ ((evE E ia lo st).bind fun x st1 => (evE E ib lo st1).bind fun y st2 => lift (Option.map (fun w => (w, st2)) (wkRange [x, y]))) := by
    cases hr : evE E ia lo st with
    | bad => rw [hr] at h; exact h
    | ex x st1 => rw [hr] at h; exact h
    | ok x st1 =>
      rw [hr] at h
      simp only [R.bind] at h ⊢
      cases hr2 : evE E ib lo st1 <;> rw [hr2] at h <;> exact h
  refine h'.bind fun x st1 ρ1 v1 H1 e1 s1 q1 h1 => ⟨ρ1, lo, st1, s1, lok.ext e1, h1.bind fun y st2 ρ2 v2 H2 e2 s2 q2 h2 => ?_⟩
  have q1 := q1.ext e2 _
  obtain ⟨w, st', e', q⟩ := h2.lift
  simp only [Option.map_eq_some_iff, Prod.mk.injEq] at e'
  obtain ⟨w', hw, rfl, rfl⟩ := e'
  obtain ⟨i, j, rfl, rfl, hz, rfl⟩ := rng_2 hw
  · simp only [bigOk, Bool.and_eq_true, decide_eq_true_eq] at hz
    cases q1; cases q2
    exact ⟨i, j, rfl, ⟨hz.1.1, hz.1.2, hz.2.1, hz.2.2⟩, q _ _ _ (Ext.refl _ _) s2 relW_rng⟩
theorem xi_rng3 {c : Expr} {ic : Ex} {p : Pos} (g : Good O W E X) (ha : XE O W E X a ia) (hb : XE O W E X b ib) (hc : XE O W E X c ic) (hg : Gl X "range" := by rfl) (hs : starEach [a, b, c] X.env = (false, eval a X.env) :: starEach [b, c] X.env := by rfl)
    (hs2 : starEach [b, c] X.env = (false, eval b X.env) :: starEach [c] X.env := by rfl) (hs3 : starEach [c] X.env = [(false, eval c X.env)] := by rfl) (hpl : (backTo pos (starEach [b, c] X.env)).any (·.1) = false := by rfl) :
    XI O W E X tg (.Call (.Name "range" p) [a, b, c] [] pos) (.rng (.cons false ia (.cons false ib (.cons false ic .nil)))) := by
  refine ⟨PI.mono (pi_range3 hg (by rw [g.gd.mg]; exact g.bl _ (by decide)) (pa_cons ha.pe (pa_cons hb.pe (pa_cons hc.pe pa_nil hs3) hs2) hs) hs hpl) ?_⟩
  rintro σ H Q ⟨ρ, lo, st, sim, lok, h⟩
  simp only [evI, evA] at h
  refine ⟨ρ, lo, st, sim, lok, ?_⟩
  have h' : Pst O W σ (relW O) Q H ρ ((evE E ia lo st).bind fun x st1 => (evE E ib lo st1).bind fun y st2 => (evE E ic lo st2).bind fun z st3 => lift (Option.map (fun w => (w, st3)) (wkRange [x, y, z]))) := by
    cases hr : evE E ia lo st with
    | bad => rw [hr] at h; exact h
    | ex x st1 => rw [hr] at h; exact h
    | ok x st1 =>
      rw [hr] at h
      simp only [R.bind] at h ⊢
      cases hr2 : evE E ib lo st1 with
      | bad => rw [hr2] at h; exact h
      | ex x st1 => rw [hr2] at h; exact h
      | ok y st2 =>
        rw [hr2] at h
        simp only [R.bind] at h ⊢
        cases hr3 : evE E ic lo st2 <;> rw [hr3] at h <;> exact h
  refine h'.bind fun x st1 ρ1 v1 H1 e1 s1 q1 h1 => ⟨ρ1, lo, st1, s1, lok.ext e1, h1.bind fun y st2 ρ2 v2 H2 e2 s2 q2 h2 => ⟨ρ2, lo, st2, s2, (lok.ext e1).ext e2, h2.bind fun z st3 ρ3 v3 H3 e3 s3 q3 h3 => ?_⟩⟩
  have q1 := (q1.ext e2 _).ext e3 _
  have q2 := q2.ext e3 _
  obtain ⟨w, st', e', q⟩ := h3.lift
  simp only [Option.map_eq_some_iff, Prod.mk.injEq] at e'
  obtain ⟨w', hw, rfl, rfl⟩ := e'
  obtain ⟨i, j, rfl, rfl, rfl, hz, rfl⟩ := rng_3 hw
  · simp only [bigOk, Bool.and_eq_true, decide_eq_true_eq] at hz
    cases q1; cases q2; cases q3
    exact ⟨i, j, -1, _, rfl, RgC.neg hz.1.1 hz.1.2 hz.2.1 hz.2.2, q _ _ _ (Ext.refl _ _) s3 relW_down⟩
end iters
end Mi
set_option autoImplicit false
namespace Mi
open PySem PySem.Spec PyProof.Rows L2 SlX
def PstS (O : Wo) (W : XW) (D : Ends) (H : Hp) (ρ : List Addr) : Fl → Prop
  | .nx lo st => ∀ (ρ' : List Addr) (σ' : L2.St) (H' : Hp), Ext H ρ H' ρ' → Sim O H' ρ' st → LoOk O H' ρ' lo σ' → D.nx σ' H'
  | .bk lo st => ∀ (ρ' : List Addr) (σ' : L2.St) (H' : Hp), Ext H ρ H' ρ' → Sim O H' ρ' st → LoOk O H' ρ' lo σ' → D.bk σ' H'
  | .ct lo st => ∀ (ρ' : List Addr) (σ' : L2.St) (H' : Hp), Ext H ρ H' ρ' → Sim O H' ρ' st → LoOk O H' ρ' lo σ' → D.ct σ' H'
  | .rt d st => ∀ (ρ' : List Addr) (v : V) (H' : Hp), Ext H ρ H' ρ' → Sim O H' ρ' st → RelD O.K H' ρ' d v → D.rt v H'
  | .ex x lo st => ∀ (ρ' : List Addr) (c : Value) (d : Option Addr) (σ' : L2.St) (H' : Hp), Ext H ρ H' ρ' → Sim O H' ρ' st → LoOk O H' ρ' lo σ' → RelX O H' ρ' x c d → W c d σ' H'
  | .bad => False
def tOfS (O : Wo) (W : XW) (ex : Lo → Sto → Fl) : TS := fun D σ H => ∃ ρ lo st, Sim O H ρ st ∧ LoOk O H ρ lo σ ∧ PstS O W D H ρ (ex lo st)
def endG (Q : L2.St → Hp → Prop) : Ends := { nx := Q, rt := fun _ _ => True, bk := fun _ _ => True, ct := fun _ _ => True }
def tOfG (O : Wo) (W : XW) (ex : D → Lo → Sto → Fl) : TG := fun v σ H Q => ∃ ρ lo st d, Sim O H ρ st ∧ LoOk O H ρ lo σ ∧ RelD O.K H ρ d v ∧ PstS O W (endG Q) H ρ (ex d lo st)
def tOfGs (O : Wo) (W : XW) (ex : List D → Lo → Sto → Fl) : TGs := fun vs σ H Q => ∃ ρ lo st ds, Sim O H ρ st ∧ LoOk O H ρ lo σ ∧ RelDs O.K H ρ ds vs ∧ PstS O W (endG Q) H ρ (ex ds lo st)
/-- targets that are names of the list vs alone -/
def tOfN (O : Wo) (vs : List Nat) (ex : D → Lo → Sto → Fl) : TG := fun v σ H Q => ∃ ρ lo st d, Sim O H ρ st ∧ LoOk O H ρ lo σ ∧ RelD O.K H ρ d v ∧ PstS O WN (endG fun σ' H' => wipe σ' vs = wipe σ vs → Q σ' H') H ρ (ex d lo st)
def tOfNs (O : Wo) (vs : List Nat) (ex : List D → Lo → Sto → Fl) : TGs := fun us σ H Q => ∃ ρ lo st ds, Sim O H ρ st ∧ LoOk O H ρ lo σ ∧ RelDs O.K H ρ ds us ∧ PstS O WN (endG fun σ' H' => wipe σ' vs = wipe σ vs → Q σ' H') H ρ (ex ds lo st)
structure XG (O : Wo) (W : XW) (E : Ev) (X : Cx) (e : Expr) (t : Tg) : Prop where
  pg : PG X e (tOfG O W (asgT E t))
structure XGs (O : Wo) (W : XW) (E : Ev) (X : Cx) (e : List Expr) (t : Tgs) : Prop where
  pgs : PGs X e (tOfGs O W (asgTs E t))
structure XN (O : Wo) (vs : List Nat) (E : Ev) (X : Cx) (e : Expr) (t : Tg) : Prop where
  pg : PG X e (tOfN O vs (asgT E t))
structure XNs (O : Wo) (vs : List Nat) (E : Ev) (X : Cx) (e : List Expr) (t : Tgs) : Prop where
  pgs : PGs X e (tOfNs O vs (asgTs E t))
structure XS (O : Wo) (W : XW) (E : Ev) (X : Cx) (e : Stmt) (t : Sm) : Prop where
  ps : PS X e (tOfS O W (exS E t))
structure XSs (O : Wo) (W : XW) (E : Ev) (X : Cx) (e : List Stmt) (t : Sms) : Prop where
  pss : PSs X e (tOfS O W (exSs E t))
section stm
variable {O : Wo} {W : XW} {E : Ev} {X : Cx} {a b c e tg : Expr} {es : List Expr} {ia ib ic ie : Ex} {is : Exs} {pos : Pos} {D' : Ends} {H H' : Hp} {ρ ρ' : List Addr}
theorem PstS.later {f : Fl} (e : Ext H ρ H' ρ') (h : PstS O W D' H ρ f) : PstS O W D' H' ρ' f := by
  cases f with
  | nx lo st => exact fun ρ2 σ H2 e2 s q => h ρ2 σ H2 (e.trans e2) s q
  | bk lo st => exact fun ρ2 σ H2 e2 s q => h ρ2 σ H2 (e.trans e2) s q
  | ct lo st => exact fun ρ2 σ H2 e2 s q => h ρ2 σ H2 (e.trans e2) s q
  | rt d st => exact fun ρ2 v H2 e2 s q => h ρ2 v H2 (e.trans e2) s q
  | ex x lo st => exact fun ρ2 c d σ H2 e2 s q r => h ρ2 c d σ H2 (e.trans e2) s q r
  | bad => exact h
theorem PstS.bad_elim {C : Prop} (h : PstS O W D' H ρ .bad) : C := absurd h id
/-- the next statement's ways -/
theorem PstS.seq {f : Fl} {k : Lo → Sto → Fl} {N : L2.St → Hp → Prop} (h : PstS O W D' H ρ (match f with | .nx lo st => k lo st | g => g))
    (hk : ∀ lo st ρ' σ' H', Ext H ρ H' ρ' → Sim O H' ρ' st → LoOk O H' ρ' lo σ' → PstS O W D' H' ρ' (k lo st) → N σ' H') : PstS O W { D' with nx := N } H ρ f := by
  cases f with
  | nx lo st => exact fun ρ2 σ H2 e2 s q => hk lo st ρ2 σ H2 e2 s q (PstS.later e2 h)
  | bk lo st => exact h
  | ct lo st => exact h
  | rt d st => exact h
  | ex x lo st => exact h
  | bad => exact h
theorem Pst.fl {r : R D} {lo : Lo} {k : D → Sto → Fl} {σ : L2.St} {Q : VK} (lok : LoOk O H ρ lo σ) (h : PstS O W D' H ρ (r.toFl lo k))
    (hk : ∀ d st ρ' v H', Ext H ρ H' ρ' → Sim O H' ρ' st → RelD O.K H' ρ' d v → PstS O W D' H' ρ' (k d st) → Q v H') : Pst O W σ (rD O) Q H ρ r := by
  cases r with
  | ok d st => exact fun ρ2 v H2 e2 s q => hk d st ρ2 v H2 e2 s q (PstS.later e2 h)
  | ex x st => exact fun ρ2 c d H2 e2 s q => h ρ2 c d σ H2 e2 s (lok.ext e2) q
  | bad => exact h
theorem LoOk.set {lo : Lo} {σ : L2.St} (h : LoOk O H ρ lo σ) {d : D} {v : V} (r : RelD O.K H ρ d v) (i : Nat) : LoOk O H ρ (lo.set i (some d)) (σ.set i (some v)) := by
  refine ⟨by simp [h.1], ?_⟩
  intro j d' hj
  by_cases hij : j = i
  · subst hij
    have hl : j < lo.length := by
      have := (List.getElem?_eq_some_iff.mp hj).1
      simpa using this
    rw [List.getElem?_set_self hl] at hj
    cases hj
    exact ⟨v, by rw [List.getElem?_set_self (h.1 ▸ hl)], r⟩
  · rw [List.getElem?_set_ne (Ne.symm hij)] at hj
    obtain ⟨w, h1, h2⟩ := h.2 j d' hj
    exact ⟨w, by rw [List.getElem?_set_ne (Ne.symm hij)]; exact h1, h2⟩
theorem LoOk.wipe {lo : Lo} {σ : L2.St} (h : LoOk O H ρ lo σ) : ∀ vs : List Nat, LoOk O H ρ (wipeD lo vs) (L2.wipe σ vs)
  | [] => h
  | v :: vs => by
    have ih := LoOk.wipe h vs
    refine ⟨by simp [wipeD, L2.wipe, ih.1], ?_⟩
    intro j d hj
    simp only [wipeD] at hj
    by_cases hij : j = v
    · subst hij
      have hl : j < (wipeD lo vs).length := by
        have := (List.getElem?_eq_some_iff.mp hj).1
        simpa using this
      rw [List.getElem?_set_self hl] at hj
      cases hj
    · rw [List.getElem?_set_ne (Ne.symm hij)] at hj
      obtain ⟨w, h1, h2⟩ := ih.2 j d hj
      exact ⟨w, by simp only [L2.wipe]; rw [List.getElem?_set_ne (Ne.symm hij)]; exact h1, h2⟩
theorem wipe_get (σ : L2.St) : ∀ (vs : List Nat) (j : Nat), (L2.wipe σ vs)[j]? = if j ∈ vs then (if j < σ.length then some none else none) else σ[j]?
  | [], j => by simp [L2.wipe]
  | v :: vs, j => by
    simp only [L2.wipe]
    by_cases hj : j = v
    · subst hj
      simp only [List.mem_cons, true_or, if_true]
      split
      · rw [List.getElem?_set_self (by rw [wipe_length]; assumption)]
      · next h => rw [List.getElem?_eq_none_iff]; simp [wipe_length]; omega
    · rw [List.getElem?_set_ne (Ne.symm hj), wipe_get σ vs j]
      simp [hj]
theorem wipe_set (σ : L2.St) (vs : List Nat) (i : Nat) (o : Option V) (h : i ∈ vs) : L2.wipe (σ.set i o) vs = L2.wipe σ vs := by
  apply List.ext_getElem?
  intro j
  rw [wipe_get, wipe_get]
  by_cases hj : j ∈ vs
  · simp [hj]
  · simp only [hj, if_false]
    rw [List.getElem?_set_ne]
    rintro rfl
    exact hj h
/-! targets -/
theorem xg_name (g : Good O W E X) (i : Nat) {x : Str} (hi : X.N[i]? = some x := by rfl) (hx : Loc X.env.scope x := by first | exact Or.inl rfl | exact Or.inr rfl) (hf : X.fn x = true ∨ X.env.scope.names.lookup x = some .local := by first | exact .inl rfl | exact .inr rfl | assumption) : XG O W E X (.Name x pos) (.name i) := by
  refine ⟨PG.mono (pg_name g.gd.nd hi hx hf) ?_⟩
  rintro v σ H Q ⟨ρ, lo, st, d, sim, lok, r, h⟩
  simp only [asgT] at h
  exact h ρ _ H (Ext.refl _ _) sim (lok.set r i)
theorem xgs_nil : XGs O W E X [] .nil := by
  refine ⟨PGs.mono pgs_nil ?_⟩
  rintro v σ H Q ⟨ρ, lo, st, ds, sim, lok, r, h⟩
  cases ds with
  | nil => simp only [asgTs] at h; cases r; exact ⟨rfl, h ρ _ H (Ext.refl _ _) sim lok⟩
  | cons d ds => simp only [asgTs] at h; exact h.bad_elim
theorem xgs_cons {t : Tg} {ts : Tgs} (h1 : XG O W E X a t) (h2 : XGs O W E X es ts) (hs : (assignEach (a :: es) X.env).map (·.2) = assign a X.env :: (assignEach es X.env).map (·.2) := by rfl) : XGs O W E X (a :: es) (.cons t ts) := by
  refine ⟨PGs.mono (pgs_cons h1.pg h2.pgs hs) ?_⟩
  rintro v σ H Q ⟨ρ, lo, st, ds, sim, lok, r, h⟩
  cases ds with
  | nil => simp only [asgTs] at h; exact h.bad_elim
  | cons d ds =>
    simp only [asgTs] at h
    obtain ⟨u, us, rfl, ru, rus⟩ := r
    refine ⟨u, us, rfl, ρ, lo, st, d, sim, lok, ru, ?_⟩
    exact PstS.seq (D' := endG Q) h fun lo1 st1 ρ1 σ1 H1 e1 s1 l1 h1 => ⟨ρ1, lo1, st1, ds, s1, l1, rus.ext e1 _, h1⟩
theorem xg_tup {k : Nat} {ts : Tgs} {n : Nat} (g : Good O W E X) (h : XGs O W E X es ts) (hn : (assignEach es X.env).length = n := by rfl) (hst : (assignEach es X.env).findIdx? (·.1) = none := by rfl) (hl : tgLen ts = n := by rfl) : XG O W E X (.Tuple es k pos) (.tup ts) := by
  refine ⟨PG.mono (pg_tup g.gd.calm h.pgs hn hst) ?_⟩
  rintro v σ H Q ⟨ρ, lo, st, d, sim, lok, r, h⟩
  cases d <;> simp only [asgT, tupOf] at h <;> try exact h.bad_elim
  next ds =>
    split at h
    · next hz =>
      obtain ⟨p, vs, rfl, hs, rs⟩ := r
      rw [g.gd.K]
      exact ⟨p, vs, rfl, hs, by rw [← rs.length, ← hl]; exact of_decide_eq_true hz, ρ, lo, st, ds, sim, lok, rs, h⟩
    · exact h.bad_elim
theorem xg_sub {o i : Expr} {io ii : Ex} (ho : XE O W E X o io) (hi : XE O W E X i ii)
    (ha : ∀ v, assign (.Subscript o i pos) X.env v = (do
      let ov ← holding [v] (eval o X.env)
      let iv ← holding [v, ov] (eval i X.env)
      standAt pos
      holding [v, ov, iv] (setItem ov iv v)
      release [v, ov, iv] []) := by intro _; rfl) : XG O W E X (.Subscript o i pos) (.sub io ii) := by
  refine ⟨PG.mono (pg_sub ho.pe hi.pe (s_set (O := O)) ha) ?_⟩
  rintro v σ H Q ⟨ρ, lo, st, d, sim, lok, r, h⟩
  simp only [asgT] at h
  refine ⟨ρ, lo, st, sim, lok, ?_⟩
  have h' : Pst O W σ (fun _ _ (_ : D) (_ : V) => True) (fun _ H' => Q σ H') H ρ ((evE E io lo st).bind fun x st1 => (evE E ii lo st1).bind fun y st2 => lift (Option.map (fun st3 => (D.non, st3)) (setI x y d st2))) := by
    split at h
    · next st3 hr => rw [hr]; exact fun ρ2 _ H2 e2 s2 _ => h ρ2 σ H2 e2 s2 (lok.ext e2)
    · next x st3 hr => rw [hr]; exact fun ρ2 c d H2 e2 s2 q => h ρ2 c d σ H2 e2 s2 (lok.ext e2) q
    · exact h.bad_elim
  refine h'.bind fun x st1 ρ1 v1 H1 e1 s1 q1 h1 => ⟨ρ1, lo, st1, s1, lok.ext e1, h1.bind fun y st2 ρ2 v2 H2 e2 s2 q2 h2 => ?_⟩
  obtain ⟨d', st', e', q⟩ := h2.lift
  simp only [Option.map_eq_some_iff, Prod.mk.injEq] at e'
  obtain ⟨st3, hs, rfl, rfl⟩ := e'
  exact ⟨ρ2, st2, x, y, d, st3, s2, q1.ext e2 _, q2, (r.ext e1 _).ext e2 _, hs, fun ρ3 H3 e3 s3 => q ρ3 .non H3 e3 s3 trivial⟩
theorem xn_name {vs : List Nat} (hN : X.N.Nodup) (i : Nat) {x : Str} (hi : X.N[i]? = some x := by rfl) (hv : i ∈ vs := by decide) (hx : Loc X.env.scope x := by first | exact Or.inl rfl | exact Or.inr rfl) (hf : X.fn x = true ∨ X.env.scope.names.lookup x = some .local := by first | exact .inl rfl | exact .inr rfl | assumption) : XN O vs E X (.Name x pos) (.name i) := by
  refine ⟨PG.mono (pg_name hN hi hx hf) ?_⟩
  rintro v σ H Q ⟨ρ, lo, st, d, sim, lok, r, h⟩
  simp only [asgT] at h
  exact h ρ _ H (Ext.refl _ _) sim (lok.set r i) (wipe_set _ _ _ _ hv)
theorem xns_nil {vs : List Nat} : XNs O vs E X [] .nil := by
  refine ⟨PGs.mono pgs_nil ?_⟩
  rintro v σ H Q ⟨ρ, lo, st, ds, sim, lok, r, h⟩
  cases ds with
  | nil => simp only [asgTs] at h; cases r; exact ⟨rfl, h ρ _ H (Ext.refl _ _) sim lok rfl⟩
  | cons d ds => simp only [asgTs] at h; exact h.bad_elim
theorem xns_cons {vs : List Nat} {t : Tg} {ts : Tgs} (h1 : XN O vs E X a t) (h2 : XNs O vs E X es ts) (hs : (assignEach (a :: es) X.env).map (·.2) = assign a X.env :: (assignEach es X.env).map (·.2) := by rfl) : XNs O vs E X (a :: es) (.cons t ts) := by
  refine ⟨PGs.mono (pgs_cons h1.pg h2.pgs hs) ?_⟩
  rintro v σ H Q ⟨ρ, lo, st, ds, sim, lok, r, h⟩
  cases ds with
  | nil => simp only [asgTs] at h; exact h.bad_elim
  | cons d ds =>
    simp only [asgTs] at h
    obtain ⟨u, us, rfl, ru, rus⟩ := r
    refine ⟨u, us, rfl, ρ, lo, st, d, sim, lok, ru, ?_⟩
    refine PstS.seq (D' := endG _) h fun lo1 st1 ρ1 σ1 H1 e1 s1 l1 h1 hw => ⟨ρ1, lo1, st1, ds, s1, l1, rus.ext e1 _, ?_⟩
    refine (?_ : PstS O WN (endG fun σ' H' => wipe σ' vs = wipe σ1 vs → Q σ' H') H1 ρ1 _)
    rw [hw]
    exact h1
theorem xn_tup {vs : List Nat} {k : Nat} {ts : Tgs} {n : Nat} (g : Gd O X) (h : XNs O vs E X es ts) (hn : (assignEach es X.env).length = n := by rfl) (hst : (assignEach es X.env).findIdx? (·.1) = none := by rfl) (hl : tgLen ts = n := by rfl) : XN O vs E X (.Tuple es k pos) (.tup ts) := by
  refine ⟨PG.mono (pg_tup g.calm h.pgs hn hst) ?_⟩
  rintro v σ H Q ⟨ρ, lo, st, d, sim, lok, r, h⟩
  cases d <;> simp only [asgT, tupOf] at h <;> try exact h.bad_elim
  next ds =>
    split at h
    · next hz =>
      obtain ⟨p, vs, rfl, hs, rs⟩ := r
      rw [g.K]
      exact ⟨p, vs, rfl, hs, by rw [← rs.length, ← hl]; exact of_decide_eq_true hz, ρ, lo, st, ds, sim, lok, rs, h⟩
    · exact h.bad_elim
end stm
end Mi
set_option autoImplicit false
namespace Mi
open PySem PySem.Spec PyProof.Rows L2 SlX
section stm
variable {O : Wo} {W : XW} {E : Ev} {X : Cx} {a b c e tg : Expr} {es : List Expr} {ia ib ic ie : Ex} {is : Exs} {pos : Pos}
theorem wipe_wipe (σ : L2.St) (vs : List Nat) : L2.wipe (L2.wipe σ vs) vs = L2.wipe σ vs := by
  apply List.ext_getElem?
  intro j
  rw [wipe_get, wipe_get]
  by_cases hj : j ∈ vs
  · simp [hj, wipe_length]
  · simp [hj]
theorem PstS.toG {D' : Ends} {H : Hp} {ρ : List Addr} {f : Fl} (h : PstS O W D' H ρ f) : PstS O W (endG D'.nx) H ρ f := by
  cases f with
  | nx lo st => exact h
  | bk lo st => exact fun _ _ _ _ _ _ => trivial
  | ct lo st => exact fun _ _ _ _ _ _ => trivial
  | rt d st => exact fun _ _ _ _ _ _ => trivial
  | ex x lo st => exact h
  | bad => exact h
def fin : R (List D) → R D
  | .ok acc st2 => .ok (.loc st2.length) (st2 ++ [.lst acc])
  | _ => .bad
theorem comp_sem {vs : List Nat} {t : Tg} {it : Itx} {ifs : Ote} {σ : L2.St} {H : Hp} {Q : VK} (h : tOf O W (rD O) (evE E (.comp vs t it ifs ie)) σ H Q) :
    tLc (tOf O W (relW O) (evI E it)) (tOfN O vs (asgT E t)) (tOf O WN rId (evC E ifs)) (tOf O WN (rD O) (evE E ie)) vs σ H Q := by
  obtain ⟨ρ, lo, st, sim, lok, h⟩ := h
  simp only [evE] at h
  refine ⟨ρ, lo, st, sim, lok, h.bind fun w st1 ρ1 J H1 e1 s1 hJ h1 => ?_⟩
  intro Dd hD
  generalize hstep : (fun (d : D) (st2 : Sto) => (match asgT E t d (wipeD lo vs) st2 with
      | .nx lo3 st3 => match evC E ifs lo3 st3 with
        | .ok true st4 => match evE E ie lo3 st4 with
          | .ok y st5 => R.ok (some y) st5
          | _ => .bad
        | .ok false st4 => .ok none st4
        | _ => .bad
      | _ => .bad : R (Option D))) = step at h1
  have h1 : Pst O W σ (rD O) Q H1 ρ1 (fin (compL w.get step w.len 0 [] st1)) := by
    cases hc : compL w.get step w.len 0 [] st1 <;> rw [hc] at h1 <;> exact h1
  refine ⟨fun i m H2 => ∃ ρ2 st2 acc accV, Ext H1 ρ1 H2 ρ2 ∧ Dd ∉ ρ2 ∧ Sim O H2 ρ2 st2 ∧ H2 Dd = some (.lst accV) ∧ RelDs O.K H2 ρ2 acc accV ∧ Pst O W σ (rD O) Q H1 ρ1 (fin (compL w.get step m i acc st2)), ⟨w.len, ρ1, st1, [], [], Ext.fresh hD, s1.notin hD, s1.fresh hD, upd_same, rfl, h1⟩, ?_⟩
  rintro i m H2 ⟨ρ2, st2, acc, accV, e2, hDn, s2, hDl, racc, hp⟩
  have hend : Pst O W σ (rD O) Q H1 ρ1 (fin (.ok acc st2)) → Q (.ref Dd) H2 := by
    intro hp
    refine hp (ρ2 ++ [Dd]) (.ref Dd) H2 (e2.adopt hD) (s2.adopt hDn ⟨accV, hDl, ?_⟩) ⟨Dd, rfl, ?_⟩
    · exact racc.wx ⟨fun n a h => by rw [List.getElem?_append_left (List.getElem?_eq_some_iff.mp h).1]; exact h, fun _ _ h _ _ => h⟩ _
    · rw [← s2.len]; simp
  cases m with
  | zero =>
    simp only [compL] at hp
    split at hp
    · next hget => exact .inl ⟨(hJ i H2 ρ2 st2 e2 s2).2 hget, hend hp⟩
    · exact hp.bad_elim
  | succ k =>
    simp only [compL] at hp
    split at hp
    · exact hp.bad_elim
    · next hget => exact .inl ⟨(hJ i H2 ρ2 st2 e2 s2).2 hget, hend hp⟩
    · next d hget =>
      obtain ⟨hgo, hyl⟩ := (hJ i H2 ρ2 st2 e2 s2).1 d hget
      refine .inr ⟨hgo, fun H' => ∃ ρ3 st3 acc' accV', Ext H1 ρ1 H' ρ3 ∧ Dd ∉ ρ3 ∧ Sim O H' ρ3 st3 ∧ H' Dd = some (.lst accV') ∧ RelDs O.K H' ρ3 acc' accV' ∧ Pst O W σ (rD O) Q H1 ρ1 (fin (compL w.get step k (i + 1) acc' st3)), fun H' hN => ⟨k, Nat.lt_succ_self k, hN⟩, ?_⟩
      intro x H3 hy
      obtain ⟨e3, s3, rx⟩ := hyl x H3 hy
      refine ⟨ρ2, wipeD lo vs, st2, d, s3, ((lok.ext e1).ext (e2.trans e3)).wipe vs, rx, ?_⟩
      subst hstep
      cases hf : asgT E t d (wipeD lo vs) st2 with
      | nx lo3 st3 =>
        intro ρ4 σ4 H4 e4 s4 l4 hw
        refine ⟨hw.trans (wipe_wipe σ vs), ρ4, lo3, st3, s4, l4, ?_⟩
        simp only [hf] at hp
        cases hc : evC E ifs lo3 st3 with
        | ok b st4 =>
          intro ρ5 b' H5 e5 s5 hb
          subst hb
          have e25 := e3.trans (e4.trans e5)
          obtain ⟨hD5n, hD5⟩ := e25.out hDl rfl trivial hDn
          cases b' with
          | false =>
            simp only [hc] at hp
            exact iteF ⟨ρ5, st4, acc, accV, e2.trans e25, hD5n, s5, hD5, racc.ext e25 _, hp⟩
          | true =>
            refine iteT ⟨ρ5, lo3, st4, s5, l4.ext e5, ?_⟩
            simp only [hc] at hp
            cases he : evE E ie lo3 st4 with
            | ok y st5 =>
              intro ρ6 v6 H6 e6 s6 r6
              simp only [he] at hp
              have e26 := e25.trans e6
              obtain ⟨hD6n, hD6⟩ := e26.out hDl rfl trivial hDn
              split at hp
              · next hz =>
                have racc6 := racc.ext e26 _
                refine ⟨accV, hD6, by rw [← racc.length]; exact szOk_line' hz, ρ6, st5, acc ++ [y], accV ++ [v6], (e2.trans e26).updFree hD, hD6n, s6.updL hD6 hD6n, upd_same, ?_, hp⟩
                exact (racc6.app (RelDs.one r6)).wx (Wx.updL hD6) _
              · exact hp.bad_elim
            | ex x st5 => simp only [he] at hp; exact hp.bad_elim
            | bad => simp only [he] at hp; exact hp.bad_elim
        | ex x st4 => simp only [hc] at hp; exact hp.bad_elim
        | bad => simp only [hc] at hp; exact hp.bad_elim
      | bk lo3 st3 => simp only [hf] at hp; exact hp.bad_elim
      | ct lo3 st3 => simp only [hf] at hp; exact hp.bad_elim
      | rt d' st3 => simp only [hf] at hp; exact hp.bad_elim
      | ex x lo3 st3 => simp only [hf] at hp; exact hp.bad_elim
      | bad => simp only [hf] at hp; exact hp.bad_elim
theorem Good.blk (g : Good O W E X) (s : Shared) (H : Hp) (scope : Scope) (cenv : Env) (fp : List Addr) : Good O WN E (X.blk s H scope cenv fp) where
  gd := ⟨g.gd.K, g.gd.mg, g.gd.calm, g.gd.units, g.gd.nd⟩
  bl := g.bl
  tk := takes0
  own := PassesOwn.never
  fn := g.fn
  G := g.G
theorem xe_comp {elt iter : Expr} {ifs : List Expr} {scope : Scope} {own : List (Str × Nat)} {vs : List Nat} {t : Tg} {it : Itx} {ic' : Ote} (g : Good O W E X) (hi : XI O W E X tg iter it) (ok : BlkOk X.N X.env.scope scope own)
    (hg : ∀ (s : Shared) (H : Hp) (C : Addr) (cl : List (Str × Addr)) (fp : List Addr), Good O WN E (X.blk s H scope (compEnvC scope cl C X.env) fp) → XN O vs E (X.blk s H scope (compEnvC scope cl C X.env) fp) tg t)
    (ht : ∀ (s : Shared) (H : Hp) (C : Addr) (cl : List (Str × Addr)) (fp : List Addr), Good O WN E (X.blk s H scope (compEnvC scope cl C X.env) fp) → XC O WN E (X.blk s H scope (compEnvC scope cl C X.env) fp) ifs ic')
    (he : ∀ (s : Shared) (H : Hp) (C : Addr) (cl : List (Str × Addr)) (fp : List Addr), Good O WN E (X.blk s H scope (compEnvC scope cl C X.env) fp) → XE O WN E (X.blk s H scope (compEnvC scope cl C X.env) fp) elt ie)
    (hvs : own.map (·.2) = vs := by rfl) (hs : ∀ x, foldedSetIterable iter X.env x = pure x := by intro _; rfl) : XE O W E X (.ListComp elt [⟨tg, iter, ifs, 0⟩] scope pos) (.comp vs t it ic' ie) := by
  subst hvs
  exact ⟨PE.mono (pe_lc g.gd.calm g.gd.nd hi.pi ok (fun s H C cl fp => (hg s H C cl fp (g.blk ..)).pg) (fun s H C cl fp => (ht s H C cl fp (g.blk ..)).pts) (fun s H C cl fp => (he s H C cl fp (g.blk ..)).pe) hs) fun σ H Q h => comp_sem h⟩
theorem xs_asgLc {i : Nat} {y : Str} {py spos : Pos} {elt iter : Expr} {ifs : List Expr} {scope : Scope} {own : List (Str × Nat)} {vs : List Nat} {t : Tg} {it : Itx} {ic' : Ote} (g : Good O W E X) (hi : XI O W E X tg iter it) (ok : BlkOk X.N X.env.scope scope own)
    (hg : ∀ (s : Shared) (H : Hp) (C : Addr) (cl : List (Str × Addr)) (fp : List Addr), Good O WN E (X.blk s H scope (compEnvC scope cl C X.env) fp) → XN O vs E (X.blk s H scope (compEnvC scope cl C X.env) fp) tg t)
    (ht : ∀ (s : Shared) (H : Hp) (C : Addr) (cl : List (Str × Addr)) (fp : List Addr), Good O WN E (X.blk s H scope (compEnvC scope cl C X.env) fp) → XC O WN E (X.blk s H scope (compEnvC scope cl C X.env) fp) ifs ic')
    (he : ∀ (s : Shared) (H : Hp) (C : Addr) (cl : List (Str × Addr)) (fp : List Addr), Good O WN E (X.blk s H scope (compEnvC scope cl C X.env) fp) → XE O WN E (X.blk s H scope (compEnvC scope cl C X.env) fp) elt ie)
    (hy : X.N[i]? = some y := by rfl) (hyl : X.env.scope.names.lookup y = some .local := by rfl)
    (hsw : swapsWith (.ListComp elt [⟨tg, iter, ifs, 0⟩] scope pos) (some (.Name y py)) spos.line X.env = pure true := by exact sw_true rfl rfl rfl (by decide +kernel))
    (hvs : own.map (·.2) = vs := by rfl) (hs : ∀ x, foldedSetIterable iter X.env x = pure x := by intro _; rfl) : XS O W E X (.Assign [.Name y py] (.ListComp elt [⟨tg, iter, ifs, 0⟩] scope pos) spos) (.asg (.name i) (.comp vs t it ic' ie)) := by
  subst hvs
  refine ⟨PS.mono (ps_setLc g.gd.calm g.gd.nd hy hyl hsw hi.pi ok (fun s H C cl fp => (hg s H C cl fp (g.blk ..)).pg) (fun s H C cl fp => (ht s H C cl fp (g.blk ..)).pts) (fun s H C cl fp => (he s H C cl fp (g.blk ..)).pe) hs) ?_⟩
  rintro D' σ H ⟨ρ, lo, st, sim, lok, h⟩
  simp only [exS] at h
  refine comp_sem ⟨ρ, lo, st, sim, lok, Pst.fl lok h fun d st1 ρ1 v H1 e1 s1 r1 h1 => ?_⟩
  simp only [asgT] at h1
  exact h1 ρ1 _ H1 (Ext.refl _ _) s1 ((lok.ext e1).set r1 i)
/-! statements -/
theorem xs_asg {t : Tg} (he : XE O W E X e ie) (hg : XG O W E X tg t) (hs : swapsWithSole [tg] e pos.line X.env = pure false := by rfl) (hw : swappedStores [tg] e X.env = pure none := by rfl)
    (h1 : (assignEach [tg] X.env).map (·.2) = [assign tg X.env] := by rfl) : XS O W E X (.Assign [tg] e pos) (.asg t ie) := by
  refine ⟨PS.mono (ps_asg he.pe hg.pg hs hw h1) ?_⟩
  rintro D' σ H ⟨ρ, lo, st, sim, lok, h⟩
  simp only [exS] at h
  exact ⟨ρ, lo, st, sim, lok, Pst.fl lok h fun d st1 ρ1 v H1 e1 s1 r1 h1 => ⟨ρ1, lo, st1, d, s1, lok.ext e1, r1, h1.toG⟩⟩
theorem xs_par {i j : Nat} {x y : Str} {px py pt : Pos} {kt k2 pt2} (g : Good O W E X) (ha : XE O W E X a ia) (hb : XE O W E X b ib) (hi : X.N[i]? = some x := by rfl) (hj : X.N[j]? = some y := by rfl) (hij : i ≠ j := by decide)
    (hx : X.env.scope.names.lookup x = some .local := by rfl) (hy : X.env.scope.names.lookup y = some .local := by rfl) (hs1 : starEach [a, b] X.env = (false, eval a X.env) :: starEach [b] X.env := by rfl) (hs2 : starEach [b] X.env = [(false, eval b X.env)] := by rfl)
    (hw : swappedStores [.Tuple [.Name x px, .Name y py] kt pt] (.Tuple [a, b] k2 pt2) X.env = pure (some [x, y]) := by rfl)
    (hs : swapsWithSole [.Tuple [.Name x px, .Name y py] kt pt] (.Tuple [a, b] k2 pt2) pos.line X.env = pure false := by rfl) : XS O W E X (.Assign [.Tuple [.Name x px, .Name y py] kt pt] (.Tuple [a, b] k2 pt2) pos) (.par i j ia ib) := by
  refine ⟨PS.mono (ps_par g.gd.calm g.gd.nd hi hj hij hx hy (pa_cons ha.pe (pa_cons hb.pe pa_nil hs2) hs1) hw hs) ?_⟩
  rintro D' σ H ⟨ρ, lo, st, sim, lok, h⟩
  simp only [exS] at h
  refine ⟨ρ, lo, st, sim, lok, Pst.fl lok h fun d st1 ρ1 v H1 e1 s1 r1 h1 => ⟨ρ1, lo, st1, s1, lok.ext e1, Pst.fl (lok.ext e1) h1 fun d2 st2 ρ2 v2 H2 e2 s2 r2 h2 => ?_⟩⟩
  exact ⟨v, v2, rfl, h2 ρ2 _ H2 (Ext.refl _ _) s2 ((((lok.ext e1).ext e2).set (r1.ext e2 _) i).set r2 j)⟩
theorem xs_par3 {i j l : Nat} {x y z : Str} {px py pz pt : Pos} {kt k2 pt2} (g : Good O W E X) (ha : XE O W E X a ia) (hb : XE O W E X b ib) (hc : XE O W E X c ic) (hi : X.N[i]? = some x := by rfl) (hj : X.N[j]? = some y := by rfl) (hl : X.N[l]? = some z := by rfl) (hij : i ≠ j := by decide) (hil : i ≠ l := by decide) (hjl : j ≠ l := by decide)
    (hx : X.env.scope.names.lookup x = some .local := by rfl) (hy : X.env.scope.names.lookup y = some .local := by rfl) (hz : X.env.scope.names.lookup z = some .local := by rfl)
    (hs1 : starEach [a, b, c] X.env = (false, eval a X.env) :: starEach [b, c] X.env := by rfl) (hs2 : starEach [b, c] X.env = (false, eval b X.env) :: starEach [c] X.env := by rfl) (hs3 : starEach [c] X.env = [(false, eval c X.env)] := by rfl)
    (hw : swappedStores [.Tuple [.Name x px, .Name y py, .Name z pz] kt pt] (.Tuple [a, b, c] k2 pt2) X.env = pure (some [x, y, z]) := by rfl)
    (hs : swapsWithSole [.Tuple [.Name x px, .Name y py, .Name z pz] kt pt] (.Tuple [a, b, c] k2 pt2) pos.line X.env = pure false := by rfl) : XS O W E X (.Assign [.Tuple [.Name x px, .Name y py, .Name z pz] kt pt] (.Tuple [a, b, c] k2 pt2) pos) (.par3 i j l ia ib ic) := by
  refine ⟨PS.mono (ps_par3 g.gd.calm g.gd.nd hi hj hl hij hil hjl hx hy hz (pa_cons ha.pe (pa_cons hb.pe (pa_cons hc.pe pa_nil hs3) hs2) hs1) hw hs) ?_⟩
  rintro D' σ H ⟨ρ, lo, st, sim, lok, h⟩
  simp only [exS] at h
  refine ⟨ρ, lo, st, sim, lok, Pst.fl lok h fun d st1 ρ1 v H1 e1 s1 r1 h1 => ⟨ρ1, lo, st1, s1, lok.ext e1, Pst.fl (lok.ext e1) h1 fun d2 st2 ρ2 v2 H2 e2 s2 r2 h2 => ⟨ρ2, lo, st2, s2, (lok.ext e1).ext e2, Pst.fl ((lok.ext e1).ext e2) h2 fun d3 st3 ρ3 v3 H3 e3 s3 r3 h3 => ?_⟩⟩⟩
  exact ⟨v, v2, v3, rfl, h3 ρ3 _ H3 (Ext.refl _ _) s3 ((((((lok.ext e1).ext e2).ext e3).set ((r1.ext e2 _).ext e3 _) i).set (r2.ext e3 _) j).set r3 l)⟩
theorem xs_aug {i : Nat} {x : Str} {op : Operator} {pos' : Pos} (g : Good O W E X) (he : XE O W E X e ie) (hi : X.N[i]? = some x := by rfl) (hx : Loc X.env.scope x := by first | exact Or.inl rfl | exact Or.inr rfl) (hf : X.fn x = true ∨ X.env.scope.names.lookup x = some .local := by first | exact .inl rfl | exact .inr rfl | assumption) :
    XS O W E X (.AugAssign (.Name x pos') op e pos) (.aug i op ie) := by
  refine ⟨PS.mono (ps_aug g.gd.nd hi hx he.pe (s_aug (O := O) op) hf) ?_⟩
  rintro D' σ H ⟨ρ, lo, st, sim, lok, h⟩
  simp only [exS] at h
  split at h
  · next dx hdx =>
    obtain ⟨vx, hvx, rvx⟩ := lok.2 i dx hdx
    refine ⟨vx, hvx, ρ, lo, st, sim, lok, Pst.fl lok h fun d st1 ρ1 v H1 e1 s1 r1 h1 => ?_⟩
    split at h1
    · next z hz => exact ⟨ρ1, st1, dx, d, z, s1, rvx.ext e1 _, r1, hz, fun u ru => h1 ρ1 _ H1 (Ext.refl _ _) s1 ((lok.ext e1).set ru i)⟩
    · exact h1.bad_elim
  · exact h.bad_elim
theorem xs_expr (he : XE O W E X e ie) (hs : swapsWith e none pos.line X.env = pure false := by rfl) : XS O W E X (.Expr e pos) (.expr ie) := by
  refine ⟨PS.mono (ps_expr he.pe hs) ?_⟩
  rintro D' σ H ⟨ρ, lo, st, sim, lok, h⟩
  simp only [exS] at h
  exact ⟨ρ, lo, st, sim, lok, Pst.fl lok h fun d st1 ρ1 v H1 e1 s1 r1 h1 => h1 ρ1 _ H1 (Ext.refl _ _) s1 (lok.ext e1)⟩
theorem xs_ret (he : XE O W E X e ie) : XS O W E X (.Return (some e) pos) (.ret ie) := by
  refine ⟨PS.mono (ps_ret he.pe) ?_⟩
  rintro D' σ H ⟨ρ, lo, st, sim, lok, h⟩
  simp only [exS] at h
  exact ⟨ρ, lo, st, sim, lok, Pst.fl lok h fun d st1 ρ1 v H1 e1 s1 r1 h1 => h1 ρ1 _ H1 (Ext.refl _ _) s1 r1⟩
theorem xs_retn : XS O W E X (.Return none pos) .retn := by
  refine ⟨PS.mono ps_retN ?_⟩
  rintro D' σ H ⟨ρ, lo, st, sim, lok, h⟩
  simp only [exS] at h
  exact h ρ _ H (Ext.refl _ _) sim rfl
theorem xs_if {t : Te} {sa sb : List Stmt} {ta tb : Sms} (hc : XT O W E X c t) (ha : XSs O W E X sa ta) (hb : XSs O W E X sb tb) : XS O W E X (.If c sa sb pos) (.ifs t ta tb) := by
  refine ⟨PS.mono (ps_if hc.pt ha.pss hb.pss) ?_⟩
  rintro D' σ H ⟨ρ, lo, st, sim, lok, h⟩
  simp only [exS] at h
  refine ⟨ρ, lo, st, sim, lok, ?_⟩
  cases hr : evT E t lo st with
  | ok k st1 =>
    intro ρ1 k' H1 e1 s1 hk
    subst hk
    rw [hr] at h
    cases k' with
    | true => exact iteT ⟨ρ1, lo, st1, s1, lok.ext e1, h.later e1⟩
    | false => exact iteF ⟨ρ1, lo, st1, s1, lok.ext e1, h.later e1⟩
  | ex x st1 => rw [hr] at h; exact fun ρ1 c d H1 e1 s1 q => h ρ1 c d σ H1 e1 s1 (lok.ext e1) q
  | bad => rw [hr] at h; exact h
theorem xs_brk : XS O W E X (.Break pos) .brk := by
  refine ⟨PS.mono ps_break ?_⟩
  rintro D' σ H ⟨ρ, lo, st, sim, lok, h⟩
  simp only [exS] at h
  exact h ρ _ H (Ext.refl _ _) sim lok
theorem xs_cont : XS O W E X (.Continue pos) .cont := by
  refine ⟨PS.mono ps_continue ?_⟩
  rintro D' σ H ⟨ρ, lo, st, sim, lok, h⟩
  simp only [exS] at h
  exact h ρ _ H (Ext.refl _ _) sim lok
theorem xs_pass : XS O W E X (.Pass pos) .pass := by
  refine ⟨PS.mono ps_pass ?_⟩
  rintro D' σ H ⟨ρ, lo, st, sim, lok, h⟩
  simp only [exS] at h
  exact h ρ _ H (Ext.refl _ _) sim lok
theorem xs_never {s : Stmt} {C : Str} {xs : Exs} : XS O W E X s (.raise_ C xs) := by
  refine ⟨PS.mono ps_never ?_⟩
  rintro D' σ H ⟨ρ, lo, st, sim, lok, h⟩
  simp only [exS] at h
  exact h.bad_elim
theorem xss_nil : XSs O W E X [] .nil := by
  refine ⟨PSs.mono pss_nil ?_⟩
  rintro D' σ H ⟨ρ, lo, st, sim, lok, h⟩
  simp only [exSs] at h
  exact h ρ _ H (Ext.refl _ _) sim lok
theorem xss_cons {s : Stmt} {ss : List Stmt} {i : Sm} {r : Sms} (h1 : XS O W E X s i) (h2 : XSs O W E X ss r) : XSs O W E X (s :: ss) (.cons i r) := by
  refine ⟨PSs.mono (pss_cons h1.ps h2.pss) ?_⟩
  rintro D' σ H ⟨ρ, lo, st, sim, lok, h⟩
  simp only [exSs] at h
  exact ⟨ρ, lo, st, sim, lok, PstS.seq h fun lo1 st1 ρ1 σ1 H1 e1 s1 l1 h1 => ⟨ρ1, lo1, st1, s1, l1, h1⟩⟩
theorem xs_for {iter : Expr} {t : Tg} {it : Itx} {body : List Stmt} {ib' : Sms} (g : Good O W E X) (hi : XI O W E X tg iter it) (hg : XG O W E X tg t) (hb : XSs O W E X body ib') (hs : ∀ x, foldedSetIterable iter X.env x = pure x := by intro _; rfl) :
    XS O W E X (.For tg iter body [] pos) (.for_ t it ib') := by
  refine ⟨PS.mono (ps_for g.own g.gd.calm hi.pi hg.pg hb.pss hs) ?_⟩
  rintro D' σ H ⟨ρ, lo, st, sim, lok, h⟩
  simp only [exS] at h
  refine ⟨ρ, lo, st, sim, lok, ?_⟩
  cases hr : evI E it lo st with
  | bad => rw [hr] at h; exact h
  | ex x st1 => rw [hr] at h; exact fun ρ1 c d H1 e1 s1 q => h ρ1 c d σ H1 e1 s1 (lok.ext e1) q
  | ok w st1 =>
    intro ρ1 J H1 e1 s1 hJ
    rw [hr] at h
    simp only at h
    generalize hbd : (fun (d : D) (lo2 : Lo) (st2 : Sto) => (match asgT E t d lo2 st2 with
      | .nx lo3 st3 => exSs E ib' lo3 st3
      | f => f)) = bd at h
    refine ⟨fun i m σ2 H2 => ∃ ρ2 lo2 st2, Ext H1 ρ1 H2 ρ2 ∧ Sim O H2 ρ2 st2 ∧ LoOk O H2 ρ2 lo2 σ2 ∧ PstS O W D' H2 ρ2 (forL w.get bd m i lo2 st2), ⟨w.len, ρ1, lo, st1, Ext.refl _ _, s1, lok.ext e1, h.later e1⟩, ?_⟩
    rintro i m σ2 H2 ⟨ρ2, lo2, st2, e2, s2, l2, h2⟩
    cases m with
    | zero =>
      simp only [forL] at h2
      split at h2
      · next hget => exact .inl ⟨(hJ i H2 ρ2 st2 e2 s2).2 hget, h2 ρ2 σ2 H2 (Ext.refl _ _) s2 l2⟩
      · exact h2.bad_elim
    | succ k =>
      simp only [forL] at h2
      split at h2
      · exact h2.bad_elim
      · next hget => exact .inl ⟨(hJ i H2 ρ2 st2 e2 s2).2 hget, h2 ρ2 σ2 H2 (Ext.refl _ _) s2 l2⟩
      · next d hget =>
        obtain ⟨hgo, hyl⟩ := (hJ i H2 ρ2 st2 e2 s2).1 d hget
        refine .inr ⟨hgo, fun σ' H' => ∃ ρ3 lo3 st3, Ext H1 ρ1 H' ρ3 ∧ Sim O H' ρ3 st3 ∧ LoOk O H' ρ3 lo3 σ' ∧ PstS O W D' H' ρ3 (forL w.get bd k (i + 1) lo3 st3), fun σ' H' hN => ⟨k, Nat.lt_succ_self k, hN⟩, ?_⟩
        intro x H3 hy
        obtain ⟨e3, s3, rx⟩ := hyl x H3 hy
        refine ⟨ρ2, lo2, st2, d, s3, l2.ext e3, rx, ?_⟩
        have h3 := h2.later e3
        subst hbd
        cases hf : asgT E t d lo2 st2 with
        | nx lo4 st4 =>
          intro ρ4 σ4 H4 e4 s4 l4
          refine ⟨ρ4, lo4, st4, s4, l4, ?_⟩
          have h4 := h3.later e4
          simp only [hf] at h4
          cases hb' : exSs E ib' lo4 st4 with
          | nx lo5 st5 =>
            intro ρ5 σ5 H5 e5 s5 l5
            simp only [hb'] at h4
            exact ⟨ρ5, lo5, st5, e2.trans (e3.trans (e4.trans e5)), s5, l5, h4.later e5⟩
          | ct lo5 st5 =>
            intro ρ5 σ5 H5 e5 s5 l5
            simp only [hb'] at h4
            exact ⟨ρ5, lo5, st5, e2.trans (e3.trans (e4.trans e5)), s5, l5, h4.later e5⟩
          | bk lo5 st5 => simp only [hb'] at h4; exact h4
          | rt d5 st5 => simp only [hb'] at h4; exact h4
          | ex x5 lo5 st5 => simp only [hb'] at h4; exact h4
          | bad => simp only [hb'] at h4; exact h4
        | bk lo4 st4 => exact fun _ _ _ _ _ _ => trivial
        | ct lo4 st4 => exact fun _ _ _ _ _ _ => trivial
        | rt d4 st4 => exact fun _ _ _ _ _ _ => trivial
        | ex x4 lo4 st4 => simp only [hf] at h3; exact h3
        | bad => simp only [hf] at h3; exact h3
theorem xs_while {t : Te} {body : List Stmt} {ib' : Sms} (g : Good O W E X) (hc : XT O W E X c t) (hb : XSs O W E X body ib') : XS O W E X (.While c body [] pos) (.while_ t ib') := by
  refine ⟨PS.mono (ps_while g.own hc.pt hb.pss) ?_⟩
  rintro D' σ H ⟨ρ, lo, st, sim, lok, h⟩
  simp only [exS] at h
  refine ⟨fun m σ2 H2 => ∃ ρ2 lo2 st2, Sim O H2 ρ2 st2 ∧ LoOk O H2 ρ2 lo2 σ2 ∧ PstS O W D' H2 ρ2 (whileL (evT E t) (exSs E ib') m lo2 st2), ⟨E.w, ρ, lo, st, sim, lok, h⟩, ?_⟩
  rintro m σ2 H2 ⟨ρ2, lo2, st2, s2, l2, h2⟩
  refine ⟨ρ2, lo2, st2, s2, l2, ?_⟩
  cases m with
  | zero => simp only [whileL] at h2; exact h2.bad_elim
  | succ k =>
    simp only [whileL] at h2
    cases hr : evT E t lo2 st2 with
    | bad => rw [hr] at h2; exact h2
    | ex x st1 => rw [hr] at h2; exact fun ρ1 c d H1 e1 s1 q => h2 ρ1 c d σ2 H1 e1 s1 (l2.ext e1) q
    | ok q st1 =>
      intro ρ3 q' H3 e3 s3 hq
      subst hq
      rw [hr] at h2
      cases q' with
      | false => exact iteF (h2 ρ3 σ2 H3 e3 s3 (l2.ext e3))
      | true =>
        refine iteT ⟨fun σ' H' => ∃ ρ4 lo4 st4, Sim O H' ρ4 st4 ∧ LoOk O H' ρ4 lo4 σ' ∧ PstS O W D' H' ρ4 (whileL (evT E t) (exSs E ib') k lo4 st4), fun σ' H' hN => ⟨k, Nat.lt_succ_self k, hN⟩, ρ3, lo2, st1, s3, l2.ext e3, ?_⟩
        have h4 := h2.later e3
        simp only at h4
        cases hb' : exSs E ib' lo2 st1 with
        | nx lo5 st5 =>
          intro ρ5 σ5 H5 e5 s5 l5
          simp only [hb'] at h4
          exact ⟨ρ5, lo5, st5, s5, l5, h4.later e5⟩
        | ct lo5 st5 =>
          intro ρ5 σ5 H5 e5 s5 l5
          simp only [hb'] at h4
          exact ⟨ρ5, lo5, st5, s5, l5, h4.later e5⟩
        | bk lo5 st5 => simp only [hb'] at h4; exact h4
        | rt d5 st5 => simp only [hb'] at h4; exact h4
        | ex x5 lo5 st5 => simp only [hb'] at h4; exact h4
        | bad => simp only [hb'] at h4; exact h4
end stm
end Mi
set_option autoImplicit false
namespace Mi
open PySem PySem.Spec PyProof.Rows L2 SlX
abbrev evN (tx : Tx) (n : Nat) : Ev := ⟨callN tx n, tx.G, tx.C, tx.w⟩
structure DefOk (tx : Tx) (f qual : Str) (st : Stmt) (N ps : List Str) (df : Df) : Prop where
  S : FnScope N ps (defScope st)
  ns : N.length = df.ns
  np : ps.length = df.np
  bind : ∀ (kV doc pm : Value) (an : Option Addr) (cdv ct : Value) (us : List Value), us.length = ps.length → bindArgs (PySem.W.fnOf f qual (defArgs st) (defBody st) (defScope st) .none kV doc pm an cdv ct) ⟨us, []⟩ = pure (ps.zip us)
  walk : ∀ (P : Program) (w : World) (K : PySem.W.Frag) (mg : Str → Option Value) (base : Heap) (W : XW) (n : Nat) (cdv : Value) (A : Around) (outer : List Env) (s : Shared) (H : Hp) (XKE : XK) (fa : Addr),
    Good ⟨K, mg, tx⟩ W (evN tx n) (cxOf (L2.CX P w) P w K mg base N qual (defScope st) fa cdv A outer s H XKE) →
    XSs ⟨K, mg, tx⟩ W (evN tx n) (cxOf (L2.CX P w) P w K mg base N qual (defScope st) fa cdv A outer s H XKE) (defBody st) df.body
section
variable {tx : Tx} {P : Program} {w : World} {K : PySem.W.Frag} {mg : Str → Option Value} {base : Heap}
theorem lo_start {O : Wo} {H : Hp} {ρ : List Addr} {ds : List D} {vs : List V} {N : List Str} {k : Nat} (r : RelDs O.K H ρ ds vs) (h : N.length - vs.length = k) : LoOk O H ρ (ds.map some ++ List.replicate k none) (L2.start N vs) := by
  have hl := r.length
  refine ⟨by simp [L2.start, hl, h], ?_⟩
  intro i d hd
  by_cases hi : i < ds.length
  · rw [List.getElem?_append_left (by simpa using hi)] at hd
    simp only [List.getElem?_map, Option.map_eq_some_iff] at hd
    obtain ⟨d', h1, h2⟩ := hd
    cases h2
    obtain ⟨v, hv, rv⟩ := r.get h1
    refine ⟨v, ?_, rv⟩
    unfold L2.start
    rw [List.getElem?_append_left (by simp; omega)]
    simp [hv]
  · rw [List.getElem?_append_right (by simp; omega)] at hd
    rw [List.getElem?_replicate] at hd
    split at hd <;> simp at hd
theorem runDf_ok {O : Wo} {W : XW} {E : Ev} {H : Hp} {ρ : List Addr} {ds : List D} {st : Sto} {df : Df} {Q : VK} {XKE : XK} (hW : ∀ c d σ H, XKE c d H → W c d σ H) (hl : ds.length = df.np)
    (h : Pst O (fun c d _ H => XKE c d H) [] (rD O) Q H ρ (runDf E df ds st)) : PstS O W { nx := fun _ H' => Q .non H', rt := Q } H ρ (exSs E df.body (ds.map some ++ List.replicate (df.ns - df.np) none) st) := by
  unfold runDf at h
  rw [if_pos hl] at h
  cases hr : exSs E df.body (ds.map some ++ List.replicate (df.ns - df.np) none) st with
  | nx lo st1 => rw [hr] at h; exact fun ρ' σ' H' e s l => h ρ' .non H' e s rfl
  | rt d st1 => rw [hr] at h; exact fun ρ' v H' e s r => h ρ' v H' e s r
  | bk lo st1 => rw [hr] at h; exact absurd h id
  | ct lo st1 => rw [hr] at h; exact absurd h id
  | ex x lo st1 => rw [hr] at h; exact fun ρ' c d σ' H' e s l q => hW _ _ _ _ (h ρ' c d H' e s q)
  | bad => rw [hr] at h; exact absurd h id
theorem runDf_len {E : Ev} {df : Df} {ds : List D} {st : Sto} (h : runDf E df ds st ≠ .bad) : ds.length = df.np := by
  unfold runDf at h
  split at h
  · assumption
  · exact absurd rfl h
theorem fn_one (bl : ∀ x, x ∈ biNames → mg x = none) (hG : ∀ x d, tx.G x = some d → ∃ u v, mg x = some u ∧ RelV v u ∧ ∀ H ρ, RelD K H ρ d v) (n : Nat)
    (ih : ∀ f, (tx.T f).isSome = true → ∃ (fa : Addr) (fd : FuncData) (ps : List Str), mg f = some (.ref fa) ∧ PySem.W.keepIn K (.ref fa) = true ∧ Binds K fd ps [] ∧ FnOk P w K mg base (L2.CX P w) n fa fd ps (spI ⟨K, mg, tx⟩ (callN tx n) f))
    {f qual : Str} {df : Df} {st : Stmt} {N ps : List Str} {fa : Addr} {fd : FuncData} (hdf : tx.T f = some df) (ok : DefOk tx f qual st N ps df) (F : FunD K f qual (defArgs st) (defBody st) (defScope st) [] [] fa fd) :
    FnOk P w K mg base (L2.CX P w) (n + 1) fa fd ps (spI ⟨K, mg, tx⟩ (callN tx (n + 1)) f) := by
  have hc : ∀ ds sto, callN tx (n + 1) f ds sto = runDf (evN tx n) df ds sto := fun ds sto => by simp only [callN, hdf]
  have hln : ∀ vs H Q E, spI ⟨K, mg, tx⟩ (callN tx (n + 1)) f vs H Q E → vs.length = ps.length := by
    rintro vs H Q E ⟨ρ, sto, ds, _, r, h⟩
    rw [hc] at h
    rw [← r.length, ok.np]
    refine runDf_len (E := evN tx n) (st := sto) ?_
    intro hb
    rw [hb] at h
    exact absurd h id
  refine F.ok ok.S hln ?_
  intro cdv A outer s H vs Q XKE hr h
  have hl := hln vs H Q XKE h
  obtain ⟨ρ, sto, ds, sim, r, h⟩ := h
  rw [hc] at h
  have hds : ds.length = df.np := by rw [r.length, hl, ok.np]
  let W : XW := fun c d _ H => XKE c d H
  have g : Good ⟨K, mg, tx⟩ W (evN tx n) (cxOf (L2.CX P w) P w K mg base N qual (defScope st) fa cdv A outer s H XKE) := {
    gd := ⟨rfl, rfl, rfl, by have h1 := hr.un; have h2 : (A.deeper (envOfC qual (defScope st) s.heap.objs.size fa cdv)).units + 65 < cLine := by omega
                             exact h2, ok.S.nd⟩
    bl := bl
    tk := takes_of rfl rfl rfl rfl
    own := passes_of rfl
    fn := fun f' hf' => by
      obtain ⟨fa', fd', ps', h1, h2, h3, h4⟩ := ih f' hf'
      exact ⟨fa', fd', ps', n, h1, h2, h3, h4, hr⟩
    G := hG }
  refine ⟨_, (ok.walk P w K mg base W n cdv A outer s H XKE fa g).pss, ρ, _, sto, sim, lo_start (k := df.ns - df.np) r ?_, runDf_ok (fun _ _ _ _ h => h) hds h⟩
  rw [ok.ns, ← r.length, hds]
theorem all_fn (bl : ∀ x, x ∈ biNames → mg x = none) (hG : ∀ x d, tx.G x = some d → ∃ u v, mg x = some u ∧ RelV v u ∧ ∀ H ρ, RelD K H ρ d v)
    (hD : ∀ f df, tx.T f = some df → ∃ qual st N ps fa fd, DefOk tx f qual st N ps df ∧ FunD K f qual (defArgs st) (defBody st) (defScope st) [] [] fa fd ∧ mg f = some (.ref fa)) :
    ∀ (n : Nat) (f : Str), (tx.T f).isSome = true → ∃ (fa : Addr) (fd : FuncData) (ps : List Str), mg f = some (.ref fa) ∧ PySem.W.keepIn K (.ref fa) = true ∧ Binds K fd ps [] ∧ FnOk P w K mg base (L2.CX P w) n fa fd ps (spI ⟨K, mg, tx⟩ (callN tx n) f)
  | 0, f, hf => by
    obtain ⟨df, hdf⟩ := Option.isSome_iff_exists.mp hf
    obtain ⟨qual, st, N, ps, fa, fd, ok, F, hm⟩ := hD f df hdf
    refine ⟨fa, fd, ps, hm, F.kp, F.bindsN ok.bind, ⟨?_, ?_⟩⟩
    · rintro vs H Q E ⟨ρ, st, ds, _, _, h⟩; exact absurd h id
    · rintro A outer s H args us vs Q E _ _ _ _ ⟨ρ, st, ds, _, _, h⟩; exact absurd h id
  | n + 1, f, hf => by
    obtain ⟨df, hdf⟩ := Option.isSome_iff_exists.mp hf
    obtain ⟨qual, st, N, ps, fa, fd, ok, F, hm⟩ := hD f df hdf
    exact ⟨fa, fd, ps, hm, F.kp, F.bindsN ok.bind, fn_one bl hG n (all_fn bl hG hD n) hdf ok F⟩
end
/-! ### the head's facts -/
inductive Gc where
  | int (i : Int) | str (z : Str) | tup (ns : List Int)
def Gc.d : Gc → D
  | .int i => .int i
  | .str z => .str z
  | .tup ns => .tup (ns.map .int)
def Gc.fa (x : Str) : Gc → He.Fa
  | .int i => .int x i
  | .str z => .str x z
  | .tup _ => .glo x
structure Ent where
  name : Str
  st : Stmt
  N : List Str
  ps : List Str
  df : Df
def Ent.dd (e : Ent) : He.DefD := ⟨(e.name, none), e.name, e.name, defArgs e.st, defBody e.st, defScope e.st, [], []⟩
def lookE : List Ent → Str → Option Df
  | [], _ => none
  | e :: r, f => if e.name = f then some e.df else lookE r f
def lookG : List (Str × Gc) → Str → Option D
  | [], _ => none
  | e :: r, f => if e.1 = f then some e.2.d else lookG r f
def mkTx (es : List Ent) (gs : List (Str × Gc)) (C : Str → Option Ci) (w : Nat) : Tx := ⟨lookE es, lookG gs, C, w⟩
def faM (es : List Ent) (gs : List (Str × Gc)) : List He.Fa := es.map (fun e => .glo e.name) ++ (gs.map fun g => g.2.fa g.1) ++ biNames.map .free
def tupM (gs : List (Str × Gc)) (K : PySem.W.Frag) : Bool := gs.all fun g => match g.2 with
  | .tup ns => He.tupB K g.1 (ns.map .int)
  | _ => true
def obsM (es : List Ent) (gs : List (Str × Gc)) (K : PySem.W.Frag) : He.AlD := ((faM es gs).all (fun f => f.ok K) && (es.all (fun e => e.dd.ok K) && tupM gs K), es.map fun e => He.fnW K e.dd.at_)
def valM (es : List Ent) : He.AlD := (true, es.map fun e => e.dd.val)
def SaysM (es : List Ent) (gs : List (Str × Gc)) (K : PySem.W.Frag) : Prop := obsM es gs K = valM es
def obsMG (n : Nat) (es : List Ent) (gs : List (Str × Gc)) (g : Addr → Option Obj) : He.AlD := obsM es gs (He.frG g (He.asD g n))
def hookM (n : Nat) (es : List Ent) (gs : List (Str × Gc)) : PySem.W.Hook where
  α := He.AlD
  obs := fun s => obsMG n es gs s.heap.get?
  val := fun _ => valM es
  says := fun _ h => ∃ K : PySem.W.Frag, K.In h ∧ SaysM es gs K
  of := fun _ _ e => ⟨_, He.frG_in, e⟩
  keeps := fun _ _ _ ⟨K, hK, c⟩ k => ⟨K, PySem.W.Frag.In.keeps hK k, c⟩
theorem obsMG_eq {n : Nat} {es : List Ent} {gs : List (Str × Gc)} {g : Addr → Option Obj} {s : Shared} (h : ∀ a, g a = s.heap.get? a) : obsMG n es gs g = (hookM n es gs).obs s := by
  have e : g = s.heap.get? := funext h
  rw [e]; rfl
section
variable {es : List Ent} {gs : List (Str × Gc)} {K : PySem.W.Frag} {h : Heap} {mg : Str → Option Value}
theorem SaysM.fact (c : SaysM es gs K) {f : He.Fa} (hf : f ∈ faM es gs) : f.ok K = true := by
  have h1 := congrArg Prod.fst c
  simp only [obsM, valM, Bool.and_eq_true, List.all_eq_true] at h1
  exact h1.1 f hf
theorem SaysM.tups (c : SaysM es gs K) : tupM gs K = true := by
  have h1 := congrArg Prod.fst c
  simp only [obsM, valM, Bool.and_eq_true] at h1
  exact h1.2.2
theorem SaysM.fn (c : SaysM es gs K) {e : Ent} (he : e ∈ es) : ∃ fd, FunD K e.name e.name (defArgs e.st) (defBody e.st) (defScope e.st) [] [] (He.fAd K (e.name, none)) fd := by
  have h1 := congrArg Prod.fst c
  simp only [obsM, valM, Bool.and_eq_true, List.all_eq_true] at h1
  have h2 := congrArg Prod.snd c
  simp only [obsM, valM] at h2
  have h3 : He.fnW K e.dd.at_ = e.dd.val := by
    obtain ⟨i, hi, rfl⟩ := List.mem_iff_getElem.mp he
    have := congrArg (fun l => l[i]?) h2
    simpa [hi] using this
  exact He.DefD.funD h3 (h1.2.1 e he)
theorem lookE_mem {f : Str} {df : Df} : ∀ {es : List Ent}, lookE es f = some df → ∃ e ∈ es, e.name = f ∧ e.df = df
  | e :: r, h => by
    simp only [lookE] at h
    split at h
    · next hn => cases h; exact ⟨e, List.mem_cons_self .., hn, rfl⟩
    · obtain ⟨e', h1, h2⟩ := lookE_mem h
      exact ⟨e', List.mem_cons_of_mem _ h1, h2⟩
theorem lookG_mem {f : Str} {d : D} : ∀ {gs : List (Str × Gc)}, lookG gs f = some d → ∃ e ∈ gs, e.1 = f ∧ e.2.d = d
  | e :: r, h => by
    simp only [lookG] at h
    split at h
    · next hn => cases h; exact ⟨e, List.mem_cons_self .., hn, rfl⟩
    · obtain ⟨e', h1, h2⟩ := lookG_mem h
      exact ⟨e', List.mem_cons_of_mem _ h1, h2⟩
theorem ints_rel (K : PySem.W.Frag) (H : Hp) (ρ : List Addr) : ∀ ns : List Int, RelDs K H ρ (ns.map .int) ((ns.map He.Dv.int).map (He.Dv.v K))
  | [] => rfl
  | n :: ns => ⟨.int n, _, rfl, rfl, ints_rel K H ρ ns⟩
theorem SaysM.G (c : SaysM es gs K) (X : K.In h) (G : h.Ns mainGlobals mg) {x : Str} {d : D} (hx : lookG gs x = some d) : ∃ u v, mg x = some u ∧ RelV v u ∧ ∀ H ρ, RelD K H ρ d v := by
  obtain ⟨⟨y, gc⟩, hm, rfl, rfl⟩ := lookG_mem hx
  have hf : (gc.fa y).ok K = true := c.fact (by
    unfold faM
    exact List.mem_append_left _ (List.mem_append_right _ (List.mem_map.mpr ⟨(y, gc), hm, rfl⟩)))
  cases gc with
  | int i => obtain ⟨t, ht⟩ := He.int_ok X G hf; exact ⟨_, .int i, ht, ⟨t, rfl⟩, fun H ρ => rfl⟩
  | str z => obtain ⟨t, ht⟩ := He.str_ok X G hf; exact ⟨_, .str z, ht, ⟨t, rfl⟩, fun H ρ => rfl⟩
  | tup ns =>
    have ht := He.glo_ok X G hf
    have hb : He.tupB K y (ns.map .int) = true := by
      have := c.tups
      simp only [tupM, List.all_eq_true] at this
      exact this _ hm
    exact ⟨_, .ref (He.ga K y), ht, rfl, fun H ρ => ⟨_, _, rfl, He.tupB_ok hb H, ints_rel K H ρ ns⟩⟩
theorem SaysM.bl (c : SaysM es gs K) (X : K.In h) (G : h.Ns mainGlobals mg) : ∀ x, x ∈ biNames → mg x = none := fun x hx =>
  He.free_ok X G (c.fact (by unfold faM; exact List.mem_append_right _ (List.mem_map.mpr ⟨x, hx, rfl⟩)))
theorem SaysM.glo (c : SaysM es gs K) (X : K.In h) (G : h.Ns mainGlobals mg) {e : Ent} (he : e ∈ es) : mg e.name = some (.ref (He.fAd K (e.name, none))) :=
  He.glo_ok X G (c.fact (by unfold faM; exact List.mem_append_left _ (List.mem_append_left _ (List.mem_map.mpr ⟨e, he, rfl⟩))))
theorem SaysM.all (c : SaysM es gs K) (X : K.In h) (G : h.Ns mainGlobals mg) {C : Str → Option Ci} {wb : Nat} (ok : ∀ e ∈ es, DefOk (mkTx es gs C wb) e.name e.name e.st e.N e.ps e.df) {P : Program} {w : World} (base : Heap) (n : Nat) {f : Str} (hf : (lookE es f).isSome = true) :
    ∃ (fa : Addr) (fd : FuncData) (ps : List Str), mg f = some (.ref fa) ∧ PySem.W.keepIn K (.ref fa) = true ∧ Binds K fd ps [] ∧ FnOk P w K mg base (L2.CX P w) n fa fd ps (spI ⟨K, mg, mkTx es gs C wb⟩ (callN (mkTx es gs C wb) n) f) := by
  refine all_fn (tx := mkTx es gs C wb) (c.bl X G) (fun x d hx => c.G X G hx) ?_ n f hf
  intro f df hdf
  obtain ⟨e, he, rfl, rfl⟩ := lookE_mem (show lookE es f = some df from hdf)
  obtain ⟨fd, F⟩ := c.fn he
  exact ⟨e.name, e.st, e.N, e.ps, _, fd, ok e he, F, c.glo X G he⟩
end
theorem rl_of {K : PySem.W.Frag} {H : Hp} {a : Addr} {xs : List V} (hO : Only H) (h : SqL K H a xs) : RL K H a xs := by
  rcases h with (h | h) | h
  · rcases hO a with z | ⟨o, ys, z⟩
    · rw [h] at z; cases z
    · rw [h] at z; cases z
  · exact .inl h
  · exact .inr h
/-- the law's end: what the evaluator answers is what the law answers -/
theorem walk_M {es : List Ent} {gs : List (Str × Gc)} {C : Str → Option Ci} {wb : Nat} {k : Nat} {f x : Str} {l : PySem.W.OpenLaw} {n m : Nat} {d : DefRec} {q : Program} {loose : List Str} {XP : (Str → Option Value) → Heap → Prop}
    (hn : l.most = some n) (hn2 : n ≤ sizeLine) (hdf : d.params.defaults = []) (hr : Room (k + 1) callerA)
    (ok : ∀ e ∈ es, DefOk (mkTx es gs C wb) e.name e.name e.st e.N e.ps e.df) (hd : d.name = f)
    (he : ∃ e ∈ es, e.name = f ∧ e.ps = [x] ∧ lookE es f = some e.df)
    (hlaw : ∀ ns : List Int, ns.length ≤ n → (∀ z ∈ ns, Builtin.Int.intBits z ≤ 1048576) → ∃ st, callN (mkTx es gs C wb) (k + 1) f [.fz ns] [] = .ok (.bl true) st) :
    PySem.W.WalkO q loose XP (hookM m es gs).says l.row.toRowW d [] (fun f vs => PySem.call f vs) := by
  refine Att.attach_callB hn hdf fun w s0 s1 mg mb fa o pm cd doc a vs ns G Y ho hdd hcd hmg hobj hints hlen hbits hg => ?_
  obtain ⟨K, KX, c⟩ := Y
  have GG := G.T.g
  rw [hd] at hmg
  obtain ⟨e, he, rfl, hps, hlk⟩ := he
  obtain ⟨fd, F⟩ := c.fn he
  have hmg' := c.glo KX GG he
  rw [hmg] at hmg'
  have hfa : fa = He.fAd K (e.name, none) := by cases hmg'; rfl
  subst hfa
  have oke := ok e he
  rw [hps] at oke
  refine law_call (K := K) (CX := L2.CX l.prog w) (k := k + 1) (fd := fd) (x := x) (sp := spI ⟨K, mg, mkTx es gs C wb⟩ (callN (mkTx es gs C wb) (k + 1)) e.name) KX GG G.T.b G.T.builtins G.T.nolimit hg hobj hints (Nat.le_trans hlen hn2) hr ?_ ?_ ?_ ?_
  · intro base hKb hGb
    exact fn_one (tx := mkTx es gs C wb) (c.bl KX GG) (fun x d hx => c.G KX GG hx) k (fun f hf => c.all KX GG ok base k hf) hlk oke F
  · intro s u
    exact FunD.bindsA (ps := [x]) F oke.bind s [u] rfl
  · intro H hO hS
    obtain ⟨st, hst⟩ := hlaw ns hlen hbits
    refine ⟨[], [], [.fz ns], ⟨rfl, fun m n a c c' h => by simp at h, fun n a c h => by simp at h⟩, ⟨.ref a, [], rfl, ⟨a, rfl, rl_of hO hS⟩, rfl⟩, ?_⟩
    rw [hst]
    intro ρ' v H' _ _ r
    exact r
  · rintro H e' s' ⟨_, _, _, _, _, _, _, _, _, _, _, _, z⟩
    exact z
end Mi
set_option autoImplicit false
namespace Fx
open Mi PySem
abbrev frac (q : Rat) : D := .tup [.int q.num, .int (q.den : Int)]
section base
@[simp] theorem bind_ok {α β : Type} (a : α) (st : Sto) (f : α → Sto → R β) : (R.ok a st).bind f = f a st := Eq.trans rfl rfl
@[simp] theorem toFl_ok (d : D) (st : Sto) (lo : Lo) (k : D → Sto → Fl) : (R.ok d st).toFl lo k = k d st := Eq.trans rfl rfl
@[simp] theorem lift_some {α : Type} (a : α) (st : Sto) : lift (some (a, st)) = .ok a st := Eq.trans rfl rfl
@[simp] theorem ne_int (i j : Int) (st : Sto) : cmpD .NotEq (.int i) (.int j) st = some (!decide (i = j)) := by
  simp [cmpD, eqD, toP, toPw, SeqAt.shaped, PyData.canLay0, PyData.depth, PyData.eqv]
  by_cases h : i = j <;> simp [h]
@[simp] theorem eq_int (i j : Int) (st : Sto) : cmpD .Eq (.int i) (.int j) st = some (decide (i = j)) := by
  simp [cmpD, eqD, toP, toPw, SeqAt.shaped, PyData.canLay0, PyData.depth, PyData.eqv]
  by_cases h : i = j <;> simp [h]
@[simp] theorem lt_int (i j : Int) (st : Sto) : cmpD .Lt (.int i) (.int j) st = some (decide (i < j)) := Eq.trans rfl rfl
@[simp] theorem le_int (i j : Int) (st : Sto) : cmpD .LtE (.int i) (.int j) st = some (decide (i ≤ j)) := Eq.trans rfl rfl
@[simp] theorem gt_int (i j : Int) (st : Sto) : cmpD .Gt (.int i) (.int j) st = some (decide (j < i)) := Eq.trans rfl rfl
@[simp] theorem ge_int (i j : Int) (st : Sto) : cmpD .GtE (.int i) (.int j) st = some (decide (j ≤ i)) := Eq.trans rfl rfl
@[simp] theorem tru_bl (b : Bool) (st : Sto) : truD (.bl b) st = some b := Eq.trans rfl rfl
theorem log2_lt {m k : Nat} (h : m < 2 ^ k) (hk : 0 < k) : m.log2 < k := by
  by_cases hm : m = 0
  · subst hm; simpa using hk
  · exact (Nat.log2_lt hm).mpr h
theorem mulOk_of {i j : Int} {a b : Nat} (hi : i.natAbs < 2 ^ a) (hj : j.natAbs < 2 ^ b) (ha : 0 < a) (hb : 0 < b) (h : a + b ≤ 1000000) : mulOk i j = true := by
  have h1 := log2_lt hi ha
  have h2 := log2_lt hj hb
  simp only [mulOk, decide_eq_true_eq]
  omega
theorem divOk_of {j : Int} {b : Nat} (h0 : j ≠ 0) (hj : j.natAbs < 2 ^ b) (hb : 0 < b) (h : b ≤ 9000) : divOk j = true := by
  have h2 := log2_lt hj hb
  simp only [divOk, Bool.and_eq_true, decide_eq_true_eq]
  exact ⟨h0, by omega⟩
end base
/-- a for's turn -/
def forB (E : Ev) (t : Tg) (b : Sms) : D → Lo → Sto → Fl := fun d lo2 st2 => match asgT E t d lo2 st2 with
  | .nx lo3 st3 => exSs E b lo3 st3
  | f => f
/-- a comprehension's turn -/
def compB (E : Ev) (t : Tg) (c : Ote) (elt : Ex) (lo : Lo) : D → Sto → R (Option D) := fun d st2 => match asgT E t d lo st2 with
      | .nx lo3 st3 => match evC E c lo3 st3 with
        | .ok true st4 => match evE E elt lo3 st4 with
          | .ok y st5 => .ok (some y) st5
          | _ => .bad
        | .ok false st4 => .ok none st4
        | _ => .bad
      | _ => .bad
def compR : R (List D) → R D
  | .ok acc st2 => .ok (.loc st2.length) (st2 ++ [.lst acc])
  | _ => .bad
@[simp] theorem compR_ok (acc : List D) (st : Sto) : compR (.ok acc st) = .ok (.loc st.length) (st ++ [.lst acc]) := Eq.trans rfl rfl
@[simp] theorem e_var (E : Ev) (lo : Lo) (st : Sto) (i : Nat) : evE E (.var i) lo st = (match lo[i]? with | some (some d) => .ok d st | _ => .bad) := Eq.trans rfl rfl
@[simp] theorem e_int (E : Ev) (lo : Lo) (st : Sto) (i : Int) : evE E (.con (.int i)) lo st = .ok (.int i) st := Eq.trans rfl rfl
@[simp] theorem e_bl (E : Ev) (lo : Lo) (st : Sto) (i : Bool) : evE E (.con (.bool i)) lo st = .ok (.bl i) st := Eq.trans rfl rfl
@[simp] theorem e_non (E : Ev) (lo : Lo) (st : Sto) : evE E (.con .none) lo st = .ok .non st := Eq.trans rfl rfl
@[simp] theorem e_glob (E : Ev) (lo : Lo) (st : Sto) (x : Str) : evE E (.glob x) lo st = (match E.G x with | some d => .ok d st | none => .bad) := Eq.trans rfl rfl
@[simp] theorem e_ty (E : Ev) (lo : Lo) (st : Sto) (x : String) : evE E (.ty x) lo st = .ok (.ty x) st := Eq.trans rfl rfl
@[simp] theorem e_bin (E : Ev) (lo : Lo) (st : Sto) (op : Operator) (a b : Ex) : evE E (.bin op a b) lo st = (evE E a lo st).bind fun x st1 => (evE E b lo st1).bind fun y st2 => lift (binD op x y st2) := Eq.trans rfl rfl
@[simp] theorem e_neg (E : Ev) (lo : Lo) (st : Sto) (a : Ex) : evE E (.neg a) lo st = (evE E a lo st).bind fun x st1 => match x with | .int i => .ok (.int (-i)) st1 | _ => .bad := Eq.trans rfl rfl
@[simp] theorem e_not (E : Ev) (lo : Lo) (st : Sto) (a : Ex) : evE E (.not a) lo st = (evE E a lo st).bind fun x st1 => match x with | .bl b => .ok (.bl (!b)) st1 | _ => .bad := Eq.trans rfl rfl
@[simp] theorem e_and (E : Ev) (lo : Lo) (st : Sto) (a b : Ex) : evE E (.and a b) lo st = (evE E a lo st).bind fun x st1 => match x with | .bl true => evE E b lo st1 | .bl false => .ok (.bl false) st1 | _ => .bad := Eq.trans rfl rfl
@[simp] theorem e_or (E : Ev) (lo : Lo) (st : Sto) (a b : Ex) : evE E (.or a b) lo st = (evE E a lo st).bind fun x st1 => match x with | .bl true => .ok (.bl true) st1 | .bl false => evE E b lo st1 | _ => .bad := Eq.trans rfl rfl
@[simp] theorem e_cmp (E : Ev) (lo : Lo) (st : Sto) (op : CmpOp) (a b : Ex) : evE E (.cmp op a b) lo st = (evE E a lo st).bind fun x st1 => (evE E b lo st1).bind fun y st2 => lift ((cmpD op x y st2).map fun c => (.bl c, st2)) := Eq.trans rfl rfl
@[simp] theorem e_chain (E : Ev) (lo : Lo) (st : Sto) (o1 o2 : CmpOp) (a b c : Ex) : evE E (.chain o1 o2 a b c) lo st = (evE E a lo st).bind fun x st1 => (evE E b lo st1).bind fun y st2 => match cmpD o1 x y st2 with | some true => (evE E c lo st2).bind fun z st3 => lift ((cmpD o2 y z st3).map fun c => (.bl c, st3)) | some false => .ok (.bl false) st2 | none => .bad := Eq.trans rfl rfl
@[simp] theorem e_ife (E : Ev) (lo : Lo) (st : Sto) (c : Te) (a b : Ex) : evE E (.ife c a b) lo st = (evT E c lo st).bind fun t st1 => match t with | true => evE E a lo st1 | false => evE E b lo st1 := Eq.trans rfl rfl
@[simp] theorem e_tup (E : Ev) (lo : Lo) (st : Sto) (xs : Exs) : evE E (.tup xs) lo st = (evA E xs lo st).bind fun ds st1 => if szOk ds.length then .ok (.tup ds) st1 else .bad := Eq.trans rfl rfl
@[simp] theorem e_lst (E : Ev) (lo : Lo) (st : Sto) (xs : Exs) : evE E (.lst xs) lo st = (evA E xs lo st).bind fun ds st1 => if szOk ds.length then .ok (.loc st1.length) (st1 ++ [.lst ds]) else .bad := Eq.trans rfl rfl
@[simp] theorem e_idx (E : Ev) (lo : Lo) (st : Sto) (a b : Ex) : evE E (.idx a b) lo st = (evE E a lo st).bind fun x st1 => (evE E b lo st1).bind fun y st2 => lift ((idxD x y st2).map fun d => (d, st2)) := Eq.trans rfl rfl
@[simp] theorem e_slice (E : Ev) (lo : Lo) (st : Sto) (a : Ex) (l h : Oe) : evE E (.slice a l h) lo st = (evE E a lo st).bind fun x st1 => (evO E l lo st1).bind fun i st2 => (evO E h lo st2).bind fun j st3 => lift (slcD x i j st3) := Eq.trans rfl rfl
@[simp] theorem e_call (E : Ev) (lo : Lo) (st : Sto) (f : Str) (xs : Exs) : evE E (.call f xs) lo st = (evA E xs lo st).bind fun ds st1 => E.cl f ds st1 := Eq.trans rfl rfl
@[simp] theorem e_bi (E : Ev) (lo : Lo) (st : Sto) (f : Bi) (xs : Exs) : evE E (.bi f xs) lo st = (evA E xs lo st).bind fun ds st1 => lift (biD f ds st1) := Eq.trans rfl rfl
@[simp] theorem e_bm (E : Ev) (lo : Lo) (st : Sto) (m : Mt) (o : Ex) (xs : Exs) : evE E (.bm m o xs) lo st = (evE E o lo st).bind fun x st1 => match x with | .loc n => (match asM st1 n with | some _ => (evA E xs lo st1).bind fun ds st2 => lift (mtD m n ds st2) | none => .bad) | _ => .bad := Eq.trans rfl rfl
@[simp] theorem t_val (E : Ev) (lo : Lo) (st : Sto) (e : Ex) : evT E (.val e) lo st = (evE E e lo st).bind fun d st1 => lift ((truD d st1).map fun t => (t, st1)) := Eq.trans rfl rfl
@[simp] theorem t_not (E : Ev) (lo : Lo) (st : Sto) (a : Te) : evT E (.not a) lo st = (evT E a lo st).bind fun t st1 => .ok (!t) st1 := Eq.trans rfl rfl
@[simp] theorem t_and (E : Ev) (lo : Lo) (st : Sto) (a b : Te) : evT E (.and a b) lo st = (evT E a lo st).bind fun t st1 => match t with | true => evT E b lo st1 | false => .ok false st1 := Eq.trans rfl rfl
@[simp] theorem t_or (E : Ev) (lo : Lo) (st : Sto) (a b : Te) : evT E (.or a b) lo st = (evT E a lo st).bind fun t st1 => match t with | true => .ok true st1 | false => evT E b lo st1 := Eq.trans rfl rfl
@[simp] theorem c_none (E : Ev) (lo : Lo) (st : Sto) : evC E .none lo st = .ok true st := Eq.trans rfl rfl
@[simp] theorem c_some (E : Ev) (lo : Lo) (st : Sto) (t : Te) : evC E (.some t) lo st = evT E t lo st := Eq.trans rfl rfl
@[simp] theorem o_none (E : Ev) (lo : Lo) (st : Sto) : evO E .none lo st = .ok none st := Eq.trans rfl rfl
@[simp] theorem o_some (E : Ev) (lo : Lo) (st : Sto) (e : Ex) : evO E (.some e) lo st = (evE E e lo st).bind fun x st1 => match x with | .int i => .ok (some i) st1 | _ => .bad := Eq.trans rfl rfl
@[simp] theorem a_nil (E : Ev) (lo : Lo) (st : Sto) : evA E .nil lo st = .ok [] st := Eq.trans rfl rfl
@[simp] theorem a_cons (E : Ev) (lo : Lo) (st : Sto) (e : Ex) (r : Exs) : evA E (.cons false e r) lo st = (evE E e lo st).bind fun x st1 => (evA E r lo st1).bind fun xs st2 => .ok (x :: xs) st2 := Eq.trans rfl rfl
@[simp] theorem a_star (E : Ev) (lo : Lo) (st : Sto) (e : Ex) (r : Exs) : evA E (.cons true e r) lo st = (evE E e lo st).bind fun x st1 => match seqOf st1 x with | some ys => (evA E r lo st1).bind fun xs st2 => .ok (ys ++ xs) st2 | none => .bad := Eq.trans rfl rfl
@[simp] theorem i_seq (E : Ev) (lo : Lo) (st : Sto) (e : Ex) : evI E (.seq e) lo st = (evE E e lo st).bind fun x st1 => lift ((wkSeq st1 x).map fun w => (w, st1)) := Eq.trans rfl rfl
@[simp] theorem i_rng (E : Ev) (lo : Lo) (st : Sto) (xs : Exs) : evI E (.rng xs) lo st = (evA E xs lo st).bind fun ds st1 => lift ((wkRange ds).map fun w => (w, st1)) := Eq.trans rfl rfl
@[simp] theorem i_enum (E : Ev) (lo : Lo) (st : Sto) (e : Ex) : evI E (.enum e) lo st = (evE E e lo st).bind fun x st1 => lift ((wkSeq st1 x).map fun w => (wkEnum w, st1)) := Eq.trans rfl rfl
@[simp] theorem i_zip (E : Ev) (lo : Lo) (st : Sto) (a b : Ex) : evI E (.zip a b) lo st = (evE E a lo st).bind fun x st1 => (evE E b lo st1).bind fun y st2 => match wkSeq st2 x, wkSeq st2 y with | some u, some v => if isLoc x == isLoc y then .ok (wkZip u v) st2 else .bad | _, _ => .bad := Eq.trans rfl rfl
@[simp] theorem g_name (E : Ev) (lo : Lo) (st : Sto) (i : Nat) (d : D) : asgT E (.name i) d lo st = .nx (lo.set i (some d)) st := Eq.trans rfl rfl
@[simp] theorem g_tup (E : Ev) (lo : Lo) (st : Sto) (ts : Tgs) (ds : List D) : asgT E (.tup ts) (.tup ds) lo st = if decide (ds.length = tgLen ts) then asgTs E ts ds lo st else .bad := Eq.trans rfl rfl
@[simp] theorem g_sub (E : Ev) (lo : Lo) (st : Sto) (o i : Ex) (d : D) : asgT E (.sub o i) d lo st = (match (evE E o lo st).bind fun x st1 => (evE E i lo st1).bind fun y st2 => lift ((setI x y d st2).map fun st3 => (D.non, st3)) with | .ok _ st3 => .nx lo st3 | .ex x st3 => .ex x lo st3 | .bad => .bad) := Eq.trans rfl rfl
@[simp] theorem gs_nil (E : Ev) (lo : Lo) (st : Sto) : asgTs E .nil [] lo st = .nx lo st := Eq.trans rfl rfl
@[simp] theorem gs_cons (E : Ev) (lo : Lo) (st : Sto) (t : Tg) (r : Tgs) (d : D) (ds : List D) : asgTs E (.cons t r) (d :: ds) lo st = (match asgT E t d lo st with | .nx lo1 st1 => asgTs E r ds lo1 st1 | f => f) := Eq.trans rfl rfl
@[simp] theorem s_asg (E : Ev) (lo : Lo) (st : Sto) (t : Tg) (e : Ex) : exS E (.asg t e) lo st = (evE E e lo st).toFl lo fun d st1 => asgT E t d lo st1 := Eq.trans rfl rfl
@[simp] theorem s_par (E : Ev) (lo : Lo) (st : Sto) (i j : Nat) (a b : Ex) : exS E (.par i j a b) lo st = (evE E a lo st).toFl lo fun x st1 => (evE E b lo st1).toFl lo fun y st2 => .nx ((lo.set i (some x)).set j (some y)) st2 := Eq.trans rfl rfl
@[simp] theorem s_par3 (E : Ev) (lo : Lo) (st : Sto) (i j k : Nat) (a b c : Ex) : exS E (.par3 i j k a b c) lo st = (evE E a lo st).toFl lo fun x st1 => (evE E b lo st1).toFl lo fun y st2 => (evE E c lo st2).toFl lo fun z st3 => .nx (((lo.set i (some x)).set j (some y)).set k (some z)) st3 := Eq.trans rfl rfl
@[simp] theorem s_aug (E : Ev) (lo : Lo) (st : Sto) (i : Nat) (op : Operator) (e : Ex) : exS E (.aug i op e) lo st = (match lo[i]? with | some (some x) => (evE E e lo st).toFl lo fun y st1 => (match augD op x y with | some z => .nx (lo.set i (some z)) st1 | none => .bad) | _ => .bad) := Eq.trans rfl rfl
@[simp] theorem s_expr (E : Ev) (lo : Lo) (st : Sto) (e : Ex) : exS E (.expr e) lo st = (evE E e lo st).toFl lo fun _ st1 => .nx lo st1 := Eq.trans rfl rfl
@[simp] theorem s_ret (E : Ev) (lo : Lo) (st : Sto) (e : Ex) : exS E (.ret e) lo st = (evE E e lo st).toFl lo fun d st1 => .rt d st1 := Eq.trans rfl rfl
@[simp] theorem s_retn (E : Ev) (lo : Lo) (st : Sto) : exS E .retn lo st = .rt .non st := Eq.trans rfl rfl
@[simp] theorem s_ifs (E : Ev) (lo : Lo) (st : Sto) (c : Te) (a b : Sms) : exS E (.ifs c a b) lo st = (match evT E c lo st with | .ok true st1 => exSs E a lo st1 | .ok false st1 => exSs E b lo st1 | .ex x st1 => .ex x lo st1 | .bad => .bad) := Eq.trans rfl rfl
@[simp] theorem s_for (E : Ev) (lo : Lo) (st : Sto) (t : Tg) (it : Itx) (b : Sms) : exS E (.for_ t it b) lo st = (match evI E it lo st with | .ok w st1 => forL w.get (forB E t b) w.len 0 lo st1 | .ex x st1 => .ex x lo st1 | .bad => .bad) := Eq.trans rfl rfl
@[simp] theorem s_while (E : Ev) (lo : Lo) (st : Sto) (c : Te) (b : Sms) : exS E (.while_ c b) lo st = whileL (evT E c) (exSs E b) E.w lo st := Eq.trans rfl rfl
@[simp] theorem s_brk (E : Ev) (lo : Lo) (st : Sto) : exS E .brk lo st = .bk lo st := Eq.trans rfl rfl
@[simp] theorem s_cont (E : Ev) (lo : Lo) (st : Sto) : exS E .cont lo st = .ct lo st := Eq.trans rfl rfl
@[simp] theorem s_pass (E : Ev) (lo : Lo) (st : Sto) : exS E .pass lo st = .nx lo st := Eq.trans rfl rfl
@[simp] theorem ss_nil (E : Ev) (lo : Lo) (st : Sto) : exSs E .nil lo st = .nx lo st := Eq.trans rfl rfl
@[simp] theorem ss_cons (E : Ev) (lo : Lo) (st : Sto) (s : Sm) (r : Sms) : exSs E (.cons s r) lo st = (match exS E s lo st with | .nx lo1 st1 => exSs E r lo1 st1 | f => f) := Eq.trans rfl rfl
@[simp] theorem e_comp (E : Ev) (lo : Lo) (st : Sto) (own : List Nat) (t : Tg) (it : Itx) (c : Ote) (elt : Ex) : evE E (.comp own t it c elt) lo st = (evI E it lo st).bind fun w st1 => compR (compL w.get (compB E t c elt (wipeD lo own)) w.len 0 [] st1) := Eq.trans rfl rfl
/-! Euclid -/
theorem fmod_abs_lt (x y : Int) (h : y ≠ 0) : (x.fmod y).natAbs < y.natAbs := by
  rcases Int.lt_or_gt_of_ne h with h | h
  · have h1 := Int.fmod_eq_emod_of_nonneg (a := -x) (b := -y) 
    have e : x.fmod y = -((-x).fmod (-y)) := by rw [Int.neg_fmod_neg]; omega
    rw [e, Int.fmod_eq_emod_of_nonneg _ (by omega)]
    have := Int.emod_nonneg (-x) (b := -y) (by omega)
    have := Int.emod_lt_of_pos (-x) (b := -y) (by omega)
    omega
  · rw [Int.fmod_eq_emod_of_nonneg _ (by omega)]
    have := Int.emod_nonneg x (b := y) (by omega)
    have := Int.emod_lt_of_pos x (b := y) (by omega)
    omega
theorem gcd_fmod (x y : Int) : Int.gcd y (x.fmod y) = Int.gcd x y := by
  have e : x.fmod y = x + y * (-(x.fdiv y)) := by
    have := Int.fmod_def x y
    rw [this, Int.mul_neg]; omega
  rw [e, Int.gcd_add_mul_left_right, Int.gcd_comm]
def f_lowest : Df := ⟨2, 5, (.cons (.par 3 4 (.var 0) (.var 1)) (.cons (.while_ (.val (.cmp .NotEq (.var 4) (.con (.int 0)))) (.cons (.par 3 4 (.var 4) (.bin .Mod (.bi .int (.cons false (.var 3) .nil)) (.var 4))) .nil)) (.cons (.asg (.name 2) (.ife (.val (.cmp .Gt (.var 1) (.con (.int 0)))) (.con (.int 1)) (.neg (.con (.int 1))))) (.cons (.ret (.tup (.cons false (.bin .FloorDiv (.bin .Mult (.var 2) (.var 0)) (.bi .abs (.cons false (.var 3) .nil))) (.cons false (.bin .FloorDiv (.bin .Mult (.var 2) (.var 1)) (.bi .abs (.cons false (.var 3) .nil))) .nil)))) .nil))))⟩
def f_whole : Df := ⟨1, 1, (.cons (.ret (.tup (.cons false (.var 0) (.cons false (.con (.int 1)) .nil)))) .nil)⟩
def f_plus : Df := ⟨2, 2, (.cons (.ret (.call "lowest" (.cons false (.bin .Add (.bin .Mult (.idx (.var 0) (.con (.int 0))) (.idx (.var 1) (.con (.int 1)))) (.bin .Mult (.idx (.var 1) (.con (.int 0))) (.idx (.var 0) (.con (.int 1))))) (.cons false (.bin .Mult (.idx (.var 0) (.con (.int 1))) (.idx (.var 1) (.con (.int 1)))) .nil)))) .nil)⟩
def f_minus : Df := ⟨2, 2, (.cons (.ret (.call "lowest" (.cons false (.bin .Sub (.bin .Mult (.idx (.var 0) (.con (.int 0))) (.idx (.var 1) (.con (.int 1)))) (.bin .Mult (.idx (.var 1) (.con (.int 0))) (.idx (.var 0) (.con (.int 1))))) (.cons false (.bin .Mult (.idx (.var 0) (.con (.int 1))) (.idx (.var 1) (.con (.int 1)))) .nil)))) .nil)⟩
def f_times : Df := ⟨2, 2, (.cons (.ret (.call "lowest" (.cons false (.bin .Mult (.idx (.var 0) (.con (.int 0))) (.idx (.var 1) (.con (.int 0)))) (.cons false (.bin .Mult (.idx (.var 0) (.con (.int 1))) (.idx (.var 1) (.con (.int 1)))) .nil)))) .nil)⟩
def f_is_less : Df := ⟨2, 2, (.cons (.ret (.cmp .Lt (.bin .Mult (.idx (.var 0) (.con (.int 0))) (.idx (.var 1) (.con (.int 1)))) (.bin .Mult (.idx (.var 1) (.con (.int 0))) (.idx (.var 0) (.con (.int 1)))))) .nil)⟩
def f_raised : Df := ⟨2, 4, (.cons (.asg (.name 2) (.con (.int 1))) (.cons (.for_ (.name 3) (.rng (.cons false (.var 1) .nil)) (.cons (.aug 2 .Mult (.var 0)) .nil)) (.cons (.ret (.var 2)) .nil)))⟩
def f_worth : Df := ⟨2, 4, (.cons (.asg (.name 2) (.glob "NOTHING")) (.cons (.for_ (.name 3) (.rng (.cons false (.bi .len (.cons false (.var 0) .nil)) .nil)) (.cons (.asg (.name 2) (.call "plus" (.cons false (.call "times" (.cons false (.var 2) (.cons false (.var 1) .nil))) (.cons false (.idx (.var 0) (.bin .Sub (.bin .Sub (.bi .len (.cons false (.var 0) .nil)) (.con (.int 1))) (.var 3))) .nil)))) .nil)) (.cons (.ret (.var 2)) .nil)))⟩
def f_is_number : Df := ⟨3, 3, (.cons (.ret (.and (.bi .isi (.cons false (.var 0) (.cons false (.ty "int") .nil))) (.and (.not (.bi .isi (.cons false (.var 0) (.cons false (.ty "bool") .nil)))) (.chain .LtE .LtE (.var 1) (.var 0) (.var 2))))) .nil)⟩
def f_check_number : Df := ⟨3, 3, (.cons (.ifs (.not (.val (.call "is_number" (.cons false (.var 0) (.cons false (.var 1) (.cons false (.var 2) .nil)))))) (.cons (.raise_ "raise" .nil) .nil) .nil) .nil)⟩
def f_check_polynomial : Df := ⟨1, 1, (.cons (.ifs (.val (.cmp .Gt (.bi .len (.cons false (.var 0) .nil)) (.glob "MAX_COEFFICIENTS"))) (.cons (.raise_ "raise" .nil) .nil) .nil) .nil)⟩
def f_low_places : Df := ⟨2, 5, (.cons (.asg (.name 2) (.lst .nil)) (.cons (.for_ (.tup (.cons (.name 3) (.cons (.name 4) .nil))) (.enum (.var 0)) (.cons (.ifs (.or (.val (.cmp .Eq (.var 3) (.var 1))) (.val (.cmp .Eq (.idx (.var 4) (.con (.int 1))) (.con (.int 0))))) (.cons (.raise_ "raise" .nil) .nil) .nil) (.cons (.expr (.bm .append (.var 2) (.cons false (.call "lowest" (.cons false (.idx (.var 4) (.con (.int 0))) (.cons false (.idx (.var 4) (.con (.int 1))) .nil))) .nil))) (.cons (.ifs (.and (.val (.cmp .Gt (.var 3) (.con (.int 0)))) (.not (.val (.call "is_less" (.cons false (.idx (.var 2) (.bin .Sub (.var 3) (.con (.int 1)))) (.cons false (.idx (.var 2) (.var 3)) .nil)))))) (.cons (.raise_ "raise" .nil) .nil) .nil) .nil)))) (.cons (.ret (.var 2)) .nil)))⟩
def f_all_places : Df := ⟨1, 2, (.cons (.asg (.name 1) (.call "low_places" (.cons false (.var 0) (.cons false (.glob "MAX_PLACES") .nil)))) (.cons (.ifs (.val (.cmp .Eq (.var 1) (.lst .nil))) (.cons (.raise_ "raise" .nil) .nil) .nil) (.cons (.ret (.var 1)) .nil)))⟩
def f_all_weights : Df := ⟨2, 5, (.cons (.asg (.name 2) (.lst .nil)) (.cons (.for_ (.tup (.cons (.name 3) (.cons (.name 4) .nil))) (.enum (.var 1)) (.cons (.ifs (.or (.val (.cmp .Eq (.var 3) (.bi .len (.cons false (.var 0) .nil)))) (.val (.cmp .Eq (.idx (.var 4) (.con (.int 1))) (.con (.int 0))))) (.cons (.raise_ "raise" .nil) .nil) .nil) (.cons (.expr (.bm .append (.var 2) (.cons false (.call "lowest" (.cons false (.idx (.var 4) (.con (.int 0))) (.cons false (.idx (.var 4) (.con (.int 1))) .nil))) .nil))) .nil))) (.cons (.ifs (.val (.cmp .Lt (.bi .len (.cons false (.var 2) .nil)) (.bi .len (.cons false (.var 0) .nil)))) (.cons (.raise_ "raise" .nil) .nil) .nil) (.cons (.ret (.var 2)) .nil))))⟩
def f_read_by : Df := ⟨3, 6, (.cons (.asg (.name 3) (.glob "NOTHING")) (.cons (.for_ (.tup (.cons (.name 4) (.cons (.name 5) .nil))) (.zip (.var 0) (.var 1)) (.cons (.asg (.name 3) (.call "plus" (.cons false (.var 3) (.cons false (.call "times" (.cons false (.var 5) (.cons false (.call "worth" (.cons false (.var 2) (.cons false (.var 4) .nil))) .nil))) .nil)))) .nil)) (.cons (.ret (.var 3)) .nil)))⟩

def lowC : Te := .val (.cmp .NotEq (.var 4) (.con (.int 0)))
def lowB : Sms := .cons (.par 3 4 (.var 4) (.bin .Mod (.bi .int (.cons false (.var 3) .nil)) (.var 4))) .nil
theorem eucl (E : Ev) (l0 l1 l2 : Option D) (st : Sto) : ∀ (k : Nat) (x y : Int), y.natAbs < k → ∃ g : Int, whileL (evT E lowC) (exSs E lowB) k [l0, l1, l2, some (.int x), some (.int y)] st = .nx [l0, l1, l2, some (.int g), some (.int 0)] st ∧ g.natAbs = x.gcd y
  | 0, x, y, h => by omega
  | k + 1, x, y, h => by
    by_cases hy : y = 0
    · subst hy
      exact ⟨x, by simp [whileL, lowC, lowB], by simp⟩
    · obtain ⟨g, h1, h2⟩ := eucl E l0 l1 l2 st k y (x.fmod y) (by have := fmod_abs_lt x y hy; omega)
      refine ⟨g, ?_, by rw [h2, gcd_fmod]⟩
      rw [← h1]
      conv => lhs; unfold whileL
      simp [lowC, lowB, biD, binD, hy]
def flR : Fl → R D
  | .nx _ st1 => .ok .non st1
  | .rt x st1 => .ok x st1
  | .ex x _ st1 => .ex x st1
  | _ => .bad
@[simp] theorem flR_nx (lo : Lo) (st : Sto) : flR (.nx lo st) = .ok .non st := Eq.trans rfl rfl
@[simp] theorem flR_rt (d : D) (st : Sto) : flR (.rt d st) = .ok d st := Eq.trans rfl rfl
theorem runDf_eq (E : Ev) (np ns : Nat) (b : Sms) (ds : List D) (st : Sto) (h : ds.length = np) : runDf E ⟨np, ns, b⟩ ds st = flR (exSs E b (ds.map some ++ List.replicate (ns - np) none) st) := by
  unfold runDf
  simp only [h, if_true]
  cases exSs E b (ds.map some ++ List.replicate (ns - np) none) st <;> rfl
theorem call_eq {t : Tx} {f : Str} {df : Df} (hT : t.T f = some df) (n : Nat) (ds : List D) (st : Sto) (h : ds.length = df.np) : callN t (n + 1) f ds st = flR (exSs (evN t n) df.body (ds.map some ++ List.replicate (df.ns - df.np) none) st) := by
  simp only [callN, hT]
  exact runDf_eq _ _ _ _ _ _ h
@[simp] theorem tgl_nil : tgLen .nil = 0 := Eq.trans rfl rfl
@[simp] theorem tgl_cons (t : Tg) (r : Tgs) : tgLen (.cons t r) = tgLen r + 1 := Eq.trans rfl rfl
@[simp] theorem bi_int (i : Int) (st : Sto) : biD .int [.int i] st = some (.int i, st) := Eq.trans rfl rfl
@[simp] theorem bi_abs (i : Int) (st : Sto) : biD .abs [.int i] st = some (.int (if i < 0 then -i else i), st) := Eq.trans rfl rfl
@[simp] theorem bi_max (i j : Int) (st : Sto) : biD .max [.int i, .int j] st = some (.int (if j > i then j else i), st) := Eq.trans rfl rfl
@[simp] theorem bi_min (i j : Int) (st : Sto) : biD .min [.int i, .int j] st = some (.int (if j < i then j else i), st) := Eq.trans rfl rfl
@[simp] theorem bi_isi (i : Int) (st : Sto) : biD .isi [.int i, .ty "int"] st = some (.bl true, st) := Eq.trans rfl rfl
@[simp] theorem bi_isb (i : Int) (st : Sto) : biD .isi [.int i, .ty "bool"] st = some (.bl false, st) := Eq.trans rfl rfl
theorem sign_pos {b : Int} (h : 0 < b) : b.sign = 1 := Int.sign_eq_one_of_pos h
theorem sign_neg {b : Int} (h : b < 0) : b.sign = -1 := Int.sign_eq_neg_one_of_neg h
theorem lowest_ok {t : Tx} (hT : t.T "lowest" = some f_lowest) (hw : 2 ^ 9000 ≤ t.w) (n : Nat) (a b : Int) (st : Sto) {k : Nat} (ha : a.natAbs < 2 ^ k) (hb : b.natAbs < 2 ^ k) (hb0 : b ≠ 0) (hk : k ≤ 9000) (hk0 : 0 < k) :
    callN t (n + 1) "lowest" [.int a, .int b] st = .ok (frac (Rat.divInt a b)) st := by
  have hbw : b.natAbs < t.w := Nat.lt_of_lt_of_le (Nat.lt_of_lt_of_le hb (Nat.pow_le_pow_right (by decide) hk)) hw
  obtain ⟨g, h1, h2⟩ := eucl (evN t n) (some (.int a)) (some (.int b)) none st t.w a b hbw
  have hg0 : 0 < a.gcd b := Nat.pos_of_ne_zero (by intro h; exact hb0 (Int.eq_zero_of_gcd_eq_zero_right h))
  have hgb : g.natAbs ≤ b.natAbs := by rw [h2]; exact Nat.le_of_dvd (by omega) (by rw [Int.gcd_comm]; exact Int.gcd_dvd_natAbs_left b a)
  have habs : (if g < 0 then -g else g) = ((a.gcd b : Nat) : Int) := by rw [← h2]; split <;> omega
  have hd : divOk ((a.gcd b : Nat) : Int) = true := divOk_of (b := k) (by omega) (by rw [Int.natAbs_natCast, ← h2]; omega) hk0 hk
  have hone : (1 : Int).natAbs < 2 ^ 1 := by decide
  have hmone : (-1 : Int).natAbs < 2 ^ 1 := by decide
  have m1 : ∀ x : Int, x.natAbs < 2 ^ k → mulOk 1 x = true := fun x hx => mulOk_of hone hx (by decide) hk0 (by omega)
  have m2 : ∀ x : Int, x.natAbs < 2 ^ k → mulOk (-1) x = true := fun x hx => mulOk_of hmone hx (by decide) hk0 (by omega)
  have hnum : (Rat.divInt a b).num = b.sign * a / b.gcd a := Rat.num_divInt a b
  have hden : (Rat.divInt a b).den = b.natAbs / b.gcd a := by rw [Rat.den_divInt, if_neg hb0]
  have hgc : b.gcd a = a.gcd b := Int.gcd_comm ..
  have hsz : szOk 2 = true := rfl
  have fd : ∀ x : Int, x.fdiv ((a.gcd b : Nat) : Int) = x / ((a.gcd b : Nat) : Int) := fun x => Int.fdiv_eq_ediv_of_nonneg _ (by omega)
  have hden' : ((b.natAbs / a.gcd b : Nat) : Int) = (b.natAbs : Int) / ((a.gcd b : Nat) : Int) := Int.natCast_ediv ..
  rw [call_eq hT n _ st rfl]
  simp only [lowC, lowB] at h1
  rcases Int.lt_or_gt_of_ne hb0 with hneg | hpos
  · rw [sign_neg hneg] at hnum
    have hn : ¬ (0 < b) := by clear hw hbw; omega
    simp [f_lowest, List.replicate, h1, hn, binD, m2 a ha, m2 b hb, habs, hd, hsz, hnum, hden, hgc, fd, hden']
    have e : (b.natAbs : Int) = -b := by clear hw hbw; omega
    rw [e]
  · rw [sign_pos hpos] at hnum
    simp [f_lowest, List.replicate, h1, hpos, binD, m1 a ha, m1 b hb, habs, hd, hsz, hnum, hden, hgc, fd, hden']
    have e : (b.natAbs : Int) = b := by clear hw hbw; omega
    rw [e]
/-! sizes -/
structure Bd (k : Nat) (q : Rat) : Prop where
  num : q.num.natAbs < 2 ^ k
  den : q.den < 2 ^ k
theorem Bd.mono {j k : Nat} {q : Rat} (h : Bd j q) (hjk : j ≤ k) : Bd k q :=
  ⟨Nat.lt_of_lt_of_le h.num (Nat.pow_le_pow_right (by decide) hjk), Nat.lt_of_lt_of_le h.den (Nat.pow_le_pow_right (by decide) hjk)⟩
theorem mul_lt {a b j k : Nat} (ha : a < 2 ^ j) (hb : b < 2 ^ k) : a * b < 2 ^ (j + k) := by
  rw [Nat.pow_add]
  exact Nat.mul_lt_mul'' ha hb
theorem Bd.divInt {a b : Int} {k : Nat} (ha : a.natAbs < 2 ^ k) (hb : b.natAbs < 2 ^ k) (hb0 : b ≠ 0) : Bd k (Rat.divInt a b) := by
  constructor
  · rw [Rat.num_divInt]
    refine Nat.lt_of_le_of_lt ?_ ha
    have h1 : (b.sign * a / (b.gcd a : Int)).natAbs ≤ (b.sign * a).natAbs := Int.natAbs_ediv_le_natAbs ..
    refine Nat.le_trans h1 ?_
    rw [Int.natAbs_mul, Int.natAbs_sign_of_ne_zero hb0, Nat.one_mul]
    exact Nat.le_refl _
  · rw [Rat.den_divInt, if_neg hb0]
    exact Nat.lt_of_le_of_lt (Nat.div_le_self ..) hb
theorem add_div (p q : Rat) : p + q = Rat.divInt (p.num * q.den + q.num * p.den) (p.den * q.den) := by
  rw [Rat.add_def', ← Rat.divInt_ofNat]; simp
theorem sub_div (p q : Rat) : p - q = Rat.divInt (p.num * q.den - q.num * p.den) (p.den * q.den) := by
  rw [Rat.sub_def', ← Rat.divInt_ofNat]; simp
theorem mul_div (p q : Rat) : p * q = Rat.divInt (p.num * q.num) (p.den * q.den) := by
  rw [Rat.mul_def', ← Rat.divInt_ofNat]; simp
theorem den_ne (p q : Rat) : ((p.den : Int) * (q.den : Int)) ≠ 0 := by
  have h1 := p.den_nz
  have h2 := q.den_nz
  exact Int.mul_ne_zero (by omega) (by omega)
section sums
variable {p q : Rat} {j k : Nat} (hp : Bd j p) (hq : Bd k q)
include hp hq
theorem sum_lt : (p.num * q.den + q.num * p.den).natAbs < 2 ^ (j + k + 1) := by
  have h1 : (p.num * q.den).natAbs < 2 ^ (j + k) := by rw [Int.natAbs_mul, Int.natAbs_natCast]; exact mul_lt hp.num hq.den
  have h2 : (q.num * p.den).natAbs < 2 ^ (j + k) := by rw [Int.natAbs_mul, Int.natAbs_natCast, Nat.add_comm j k]; exact mul_lt hq.num hp.den
  have h3 := Int.natAbs_add_le (p.num * q.den) (q.num * p.den)
  rw [Nat.pow_succ]; omega
theorem dif_lt : (p.num * q.den - q.num * p.den).natAbs < 2 ^ (j + k + 1) := by
  have h1 : (p.num * q.den).natAbs < 2 ^ (j + k) := by rw [Int.natAbs_mul, Int.natAbs_natCast]; exact mul_lt hp.num hq.den
  have h2 : (q.num * p.den).natAbs < 2 ^ (j + k) := by rw [Int.natAbs_mul, Int.natAbs_natCast, Nat.add_comm j k]; exact mul_lt hq.num hp.den
  have h3 := Int.natAbs_sub_le (p.num * q.den) (q.num * p.den)
  rw [Nat.pow_succ]; omega
theorem den_lt : ((p.den : Int) * (q.den : Int)).natAbs < 2 ^ (j + k) := by
  rw [Int.natAbs_mul, Int.natAbs_natCast, Int.natAbs_natCast]; exact mul_lt hp.den hq.den
theorem num_lt : (p.num * q.num).natAbs < 2 ^ (j + k) := by
  rw [Int.natAbs_mul]; exact mul_lt hp.num hq.num
theorem den_lt' : ((p.den : Int) * (q.den : Int)).natAbs < 2 ^ (j + k + 1) := Nat.lt_of_lt_of_le (den_lt hp hq) (Nat.pow_le_pow_right (by decide) (by omega))
theorem Bd.add : Bd (j + k + 1) (p + q) := by rw [add_div]; exact Bd.divInt (sum_lt hp hq) (den_lt' hp hq) (den_ne p q)
theorem Bd.sub : Bd (j + k + 1) (p - q) := by rw [sub_div]; exact Bd.divInt (dif_lt hp hq) (den_lt' hp hq) (den_ne p q)
theorem Bd.mul : Bd (j + k) (p * q) := by rw [mul_div]; exact Bd.divInt (num_lt hp hq) (den_lt hp hq) (den_ne p q)
end sums
theorem Bd.pos {k : Nat} {q : Rat} (h : Bd k q) : 0 < k := by
  rcases Nat.eq_zero_or_pos k with h0 | h0
  · subst h0
    have := h.den
    have h1 := q.den_nz
    omega
  · exact h0
@[simp] theorem idx0 (x y : D) (st : Sto) : idxD (.tup [x, y]) (.int 0) st = some x := Eq.trans rfl rfl
@[simp] theorem idx1 (x y : D) (st : Sto) : idxD (.tup [x, y]) (.int 1) st = some y := Eq.trans rfl rfl
@[simp] theorem evN_cl (t : Tx) (n : Nat) : (evN t n).cl = callN t n := Eq.trans rfl rfl
@[simp] theorem evN_G (t : Tx) (n : Nat) : (evN t n).G = t.G := Eq.trans rfl rfl
@[simp] theorem sz1 : szOk 1 = true := Eq.trans rfl rfl
@[simp] theorem sz2 : szOk 2 = true := Eq.trans rfl rfl
@[simp] theorem sz3 : szOk 3 = true := Eq.trans rfl rfl
section fns
variable {t : Tx} (hL : t.T "lowest" = some f_lowest) (hw : 2 ^ 9000 ≤ t.w) (n : Nat) (st : Sto)
theorem mulP {p q : Rat} {j k : Nat} (hp : Bd j p) (hq : Bd k q) (h : j + k ≤ 9000) : mulOk p.num q.num = true ∧ mulOk p.num q.den = true ∧ mulOk q.num p.den = true ∧ mulOk p.den q.den = true := by
  have a := hp.pos
  have b := hq.pos
  have d1 : (p.den : Int).natAbs < 2 ^ j := by rw [Int.natAbs_natCast]; exact hp.den
  have d2 : (q.den : Int).natAbs < 2 ^ k := by rw [Int.natAbs_natCast]; exact hq.den
  exact ⟨mulOk_of hp.num hq.num a b (by omega), mulOk_of hp.num d2 a b (by omega), mulOk_of hq.num d1 b a (by omega), mulOk_of d1 d2 a b (by omega)⟩
include hL hw
theorem plus_ok (hP : t.T "plus" = some f_plus) {p q : Rat} {j k : Nat} (hp : Bd j p) (hq : Bd k q) (h : j + k + 1 ≤ 9000) : callN t (n + 2) "plus" [frac p, frac q] st = .ok (frac (p + q)) st := by
  obtain ⟨m1, m2, m3, m4⟩ := mulP hp hq (by omega)
  rw [call_eq hP _ _ st rfl, add_div]
  have hl := lowest_ok hL hw n _ _ st (sum_lt hp hq) (den_lt' hp hq) (den_ne p q) h (by omega)
  simp [f_plus, List.replicate, binD, m2, m3, m4, hl]
theorem minus_ok (hP : t.T "minus" = some f_minus) {p q : Rat} {j k : Nat} (hp : Bd j p) (hq : Bd k q) (h : j + k + 1 ≤ 9000) : callN t (n + 2) "minus" [frac p, frac q] st = .ok (frac (p - q)) st := by
  obtain ⟨m1, m2, m3, m4⟩ := mulP hp hq (by omega)
  rw [call_eq hP _ _ st rfl, sub_div]
  have hl := lowest_ok hL hw n _ _ st (dif_lt hp hq) (den_lt' hp hq) (den_ne p q) h (by omega)
  simp [f_minus, List.replicate, binD, m2, m3, m4, hl]
theorem times_ok (hP : t.T "times" = some f_times) {p q : Rat} {j k : Nat} (hp : Bd j p) (hq : Bd k q) (h : j + k ≤ 9000) : callN t (n + 2) "times" [frac p, frac q] st = .ok (frac (p * q)) st := by
  obtain ⟨m1, m2, m3, m4⟩ := mulP hp hq h
  rw [call_eq hP _ _ st rfl, mul_div]
  have hl := lowest_ok hL hw n _ _ st (num_lt hp hq) (den_lt hp hq) (den_ne p q) h (by have := hp.pos; omega)
  simp [f_times, List.replicate, binD, m1, m4, hl]
end fns
end Fx
set_option autoImplicit false
namespace Fx
open Mi PySem
theorem for_gen {w : Wk} {bd : D → Lo → Sto → Fl} {n : Nat} (hn : w.len = n) (P : Nat → Lo → Sto → Prop) {lo : Lo} {st : Sto} (h0 : P 0 lo st)
    (hs : ∀ i lo st, i < n → P i lo st → ∃ x, w.get i st = some (some x) ∧ ∃ lo' st', bd x lo st = .nx lo' st' ∧ P (i + 1) lo' st') (he : ∀ lo st, P n lo st → w.get n st = some none) :
    ∃ lo' st', forL w.get bd w.len 0 lo st = .nx lo' st' ∧ P n lo' st' := by
  have key : ∀ (m i : Nat) (lo : Lo) (st : Sto), i + m = n → P i lo st → ∃ lo' st', forL w.get bd m i lo st = .nx lo' st' ∧ P n lo' st' := by
    intro m
    induction m with
    | zero =>
      intro i lo st hi hp
      have : i = n := by omega
      subst this
      exact ⟨lo, st, by simp only [forL, he lo st hp], hp⟩
    | succ m ih =>
      intro i lo st hi hp
      obtain ⟨x, hx, lo', st', hb, hp'⟩ := hs i lo st (by omega) hp
      obtain ⟨lo2, st2, h1, h2⟩ := ih (i + 1) lo' st' (by omega) hp'
      exact ⟨lo2, st2, by simp only [forL, hx, hb, h1], h2⟩
  rw [hn]
  exact key n 0 lo st (by omega) h0
theorem comp_gen {w : Wk} {step : D → Sto → R (Option D)} {n : Nat} (hn : w.len = n) (P : Nat → List D → Sto → Prop) {st : Sto} (h0 : P 0 [] st)
    (hs : ∀ i acc st, i < n → P i acc st → ∃ x, w.get i st = some (some x) ∧ ((∃ y st', step x st = .ok (some y) st' ∧ szOk acc.length = true ∧ P (i + 1) (acc ++ [y]) st') ∨ (∃ st', step x st = .ok none st' ∧ P (i + 1) acc st')))
    (he : ∀ acc st, P n acc st → w.get n st = some none) : ∃ acc st', compL w.get step w.len 0 [] st = .ok acc st' ∧ P n acc st' := by
  have key : ∀ (m i : Nat) (acc : List D) (st : Sto), i + m = n → P i acc st → ∃ acc' st', compL w.get step m i acc st = .ok acc' st' ∧ P n acc' st' := by
    intro m
    induction m with
    | zero =>
      intro i acc st hi hp
      have : i = n := by omega
      subst this
      exact ⟨acc, st, by simp only [compL, he acc st hp], hp⟩
    | succ m ih =>
      intro i acc st hi hp
      obtain ⟨x, hx, h⟩ := hs i acc st (by omega) hp
      rcases h with ⟨y, st', hb, hz, hp'⟩ | ⟨st', hb, hp'⟩
      · obtain ⟨a2, st2, h1, h2⟩ := ih (i + 1) _ st' (by omega) hp'
        exact ⟨a2, st2, by simp only [compL, hx, hb, hz, if_true, h1], h2⟩
      · obtain ⟨a2, st2, h1, h2⟩ := ih (i + 1) _ st' (by omega) hp'
        exact ⟨a2, st2, by simp only [compL, hx, hb, h1], h2⟩
  rw [hn]
  exact key n 0 [] st (by omega) h0
/-! sequences -/
theorem len_seq {st : Sto} {d : D} {xs : List D} (h : seqOf st d = some xs) : biD .len [d] st = some (.int xs.length, st) := by
  cases d <;> simp only [seqOf] at h <;> try contradiction
  · cases h; rfl
  · simp [biD, h]
  · cases h; simp [biD]
theorem atI_nat' {α : Type} {xs : List α} {i : Nat} {v : α} (h : xs[i]? = some v) : L2.atI xs (i : Int) = some v := L2.atI_nat h
theorem idx_seq {st : Sto} {d v : D} {xs : List D} {i : Nat} (h : seqOf st d = some xs) (hv : xs[i]? = some v) : idxD d (.int (i : Int)) st = some v := by
  simp only [idxD, h]
  exact L2.atI_nat hv
theorem wk_seq {st : Sto} {d : D} {xs : List D} (h : seqOf st d = some xs) (hf : ∀ ns, d ≠ .fz ns) : ∃ w, wkSeq st d = some w ∧ w.len = xs.length ∧ ∀ (i : Nat) (st' : Sto) (ys : List D), seqOf st' d = some ys → w.get i st' = some ys[i]? := by
  cases d <;> simp only [seqOf] at h <;> try contradiction
  · next zs => cases h; exact ⟨_, rfl, rfl, fun i st' ys hy => by simp only [seqOf] at hy; cases hy; rfl⟩
  · next m => exact ⟨wkLst m xs.length, by simp [wkSeq, h], rfl, fun i st' ys hy => by simp only [seqOf] at hy; simp [wkLst, hy]⟩
  · next ns => exact absurd rfl (hf ns)
@[simp] theorem rng_get (lo : Int) (n i : Nat) (st : Sto) : (wkRng lo n).get i st = some (if i < n then some (.int (lo + i)) else none) := Eq.trans rfl rfl
@[simp] theorem rng_len (lo : Int) (n : Nat) : (wkRng lo n).len = n := Eq.trans rfl rfl
theorem big_nat (k : Nat) (h : k < 2 ^ 62) : bigOk (k : Int) = true := by
  simp only [bigOk, Bool.and_eq_true, decide_eq_true_eq]
  omega
/-! the store's list cells -/
theorem seq_loc {st : Sto} {m : Nat} {xs : List D} (h : st[m]? = some (.lst xs)) : seqOf st (.loc m) = some xs := by simp [seqOf, asL, h]
theorem asM_of {st : Sto} {m : Nat} {xs : List D} (h : st[m]? = some (.lst xs)) : asM st m = some xs := by simp [asM, h]
@[simp] theorem get_last {α : Type} (st : List α) (c : α) : (st ++ [c])[st.length]? = some c := by simp
@[simp] theorem set_last {α : Type} (st : List α) (c d : α) : (st ++ [c]).set st.length d = st ++ [d] := by simp
/-! evaluation of a polynomial -/
def hor (cs : List Rat) (x : Rat) : Rat := cs.foldr (fun c a => a * x + c) 0
theorem frac_zero : D.tup [.int 0, .int 1] = frac 0 := rfl
theorem Bd.zero : Bd 1 0 := ⟨by decide, by decide⟩
theorem hor_bd {cs : List Rat} {x : Rat} {kx kc : Nat} (hx : Bd kx x) (hc : ∀ c ∈ cs, Bd kc c) : Bd (cs.length * (kx + kc + 1) + 1) (hor cs x) := by
  induction cs with
  | nil => exact Bd.zero.mono (by simp)
  | cons c r ih =>
    have h1 := ih (fun c hc' => hc c (List.mem_cons_of_mem _ hc'))
    have h2 := Bd.add (Bd.mul h1 hx) (hc c (List.mem_cons_self ..))
    refine h2.mono ?_
    simp only [List.length_cons, Nat.succ_mul]
    omega
structure Fr (t : Tx) : Prop where
  w : 2 ^ 9000 ≤ t.w
  lowest : t.T "lowest" = some f_lowest
  whole : t.T "whole" = some f_whole
  plus : t.T "plus" = some f_plus
  minus : t.T "minus" = some f_minus
  times : t.T "times" = some f_times
  is_less : t.T "is_less" = some f_is_less
  nothing : t.G "NOTHING" = some (.tup [.int 0, .int 1])
section fns
variable {t : Tx} (F : Fr t)
include F
theorem whole_ok (n : Nat) (i : Int) (st : Sto) : callN t (n + 1) "whole" [.int i] st = .ok (frac (i : Rat)) st := by
  rw [call_eq F.whole _ _ st rfl]
  simp [f_whole, List.replicate]
theorem less_ok (n : Nat) (p q : Rat) (st : Sto) {j k : Nat} (hp : Bd j p) (hq : Bd k q) (h : j + k ≤ 9000) : callN t (n + 1) "is_less" [frac p, frac q] st = .ok (.bl (decide (p < q))) st := by
  obtain ⟨m1, m2, m3, m4⟩ := mulP hp hq h
  rw [call_eq F.is_less _ _ st rfl]
  have e : (decide (p < q)) = decide (p.num * q.den < q.num * p.den) := by rw [decide_eq_decide]; exact Rat.lt_iff p q
  rw [e]
  simp [f_is_less, List.replicate, binD, m2, m3]
theorem worth_ok (hW : t.T "worth" = some f_worth) (n : Nat) (st : Sto) {d : D} {cs : List Rat} {x : Rat} {kx kc : Nat} (hd : seqOf st d = some (cs.map frac)) (hl : cs.length < 2 ^ 62) (hx : Bd kx x) (hc : ∀ c ∈ cs, Bd kc c) (hk : cs.length * (kx + kc + 1) + 1 ≤ 9000) :
    callN t (n + 3) "worth" [d, frac x] st = .ok (frac (hor cs x)) st := by
  rw [call_eq hW _ _ st rfl]
  have hlen := len_seq hd
  simp only [List.length_map] at hlen
  have hrng : wkRange [.int (cs.length : Int)] = some (wkRng 0 cs.length) := by simp [wkRange, big_nat _ hl]
  obtain ⟨lo', st', h1, h2⟩ := for_gen (w := wkRng 0 cs.length) (bd := forB (evN t (n + 2)) (.name 3) (.cons (.asg (.name 2) (.call "plus" (.cons false (.call "times" (.cons false (.var 2) (.cons false (.var 1) .nil))) (.cons false (.idx (.var 0) (.bin .Sub (.bin .Sub (.bi .len (.cons false (.var 0) .nil)) (.con (.int 1))) (.var 3))) .nil)))) .nil)) (n := cs.length) rfl
    (fun i lo s => s = st ∧ ∃ y, lo = [some d, some (frac x), some (frac (hor (cs.drop (cs.length - i)) x)), y]) (lo := [some d, some (frac x), some (.tup [.int 0, .int 1]), none]) (st := st)
    ⟨rfl, none, by simp [hor]⟩
    (by
      rintro i lo s hi ⟨rfl, y, rfl⟩
      refine ⟨.int i, by simp [hi], _, s, ?_, rfl, some (.int i), rfl⟩
      have hj : cs.length - 1 - i < cs.length := by omega
      have hidx : idxD d (.int ((cs.length : Int) - 1 - i)) s = some (frac cs[cs.length - 1 - i]) := by
        have e : (cs.length : Int) - 1 - i = ((cs.length - 1 - i : Nat) : Int) := by omega
        rw [e]
        exact idx_seq hd (by simp [hj])
      have hdrop : cs.drop (cs.length - (i + 1)) = cs[cs.length - 1 - i] :: cs.drop (cs.length - i) := by
        have e1 : cs.length - (i + 1) = cs.length - 1 - i := by omega
        have e2 : cs.length - i = cs.length - 1 - i + 1 := by omega
        rw [e1, e2, List.drop_eq_getElem_cons hj]
      have hbr : Bd ((cs.drop (cs.length - i)).length * (kx + kc + 1) + 1) (hor (cs.drop (cs.length - i)) x) := hor_bd hx fun c hc' => hc c (List.mem_of_mem_drop hc')
      have hlen' : (cs.drop (cs.length - i)).length = i := by simp; omega
      rw [hlen'] at hbr
      have hmul : (i + 1) * (kx + kc + 1) ≤ cs.length * (kx + kc + 1) := Nat.mul_le_mul_right _ (by omega)
      rw [Nat.succ_mul] at hmul
      have ht := times_ok F.lowest F.w n s F.times hbr hx (by omega)
      have hp := plus_ok F.lowest F.w n s F.plus (Bd.mul hbr hx) (hc cs[cs.length - 1 - i] (List.getElem_mem hj)) (by omega)
      rw [hdrop]
      simp only [hor, List.foldr_cons] at ht hp ⊢
      simp [forB, hlen, binD, hidx, ht, hp])
    (by rintro lo s ⟨rfl, y, rfl⟩; simp)
  obtain ⟨rfl, y, rfl⟩ := h2
  simp only [rng_len] at h1
  simp [f_worth, List.replicate, hlen, hrng, F.nothing, h1]
end fns
end Fx
set_option autoImplicit false
namespace Fx
open Mi PySem
theorem ss_for {E : Ev} {t : Tg} {it : Itx} {b r : Sms} {lo : Lo} {st st1 : Sto} {w : Wk} {n : Nat} (C : Fl → Prop) (P : Nat → Lo → Sto → Prop) (hi : evI E it lo st = .ok w st1) (hn : w.len = n) (h0 : P 0 lo st1)
    (hs : ∀ i lo st, i < n → P i lo st → ∃ x, w.get i st = some (some x) ∧ ∃ lo' st', forB E t b x lo st = .nx lo' st' ∧ P (i + 1) lo' st') (he : ∀ lo st, P n lo st → w.get n st = some none)
    (k : ∀ lo' st', P n lo' st' → C (exSs E r lo' st')) : C (exSs E (.cons (.for_ t it b) r) lo st) := by
  obtain ⟨lo', st', h1, h2⟩ := for_gen hn P h0 hs he
  have e : exSs E (.cons (.for_ t it b) r) lo st = exSs E r lo' st' := by
    rw [ss_cons, s_for, hi]
    simp only [h1]
  rw [e]
  exact k lo' st' h2
theorem ss_nx {E : Ev} {s : Sm} {r : Sms} {lo lo1 : Lo} {st st1 : Sto} (C : Fl → Prop) (h : exS E s lo st = .nx lo1 st1) (k : C (exSs E r lo1 st1)) : C (exSs E (.cons s r) lo st) := by
  rw [ss_cons, h]
  exact k
/-- a comprehension's answer -/
theorem ev_comp {E : Ev} {own : List Nat} {t : Tg} {it : Itx} {c : Ote} {elt : Ex} {lo : Lo} {st st1 : Sto} {w : Wk} {n : Nat} (P : Nat → List D → Sto → Prop) (hi : evI E it lo st = .ok w st1) (hn : w.len = n) (h0 : P 0 [] st1)
    (hs : ∀ i acc st, i < n → P i acc st → ∃ x, w.get i st = some (some x) ∧ ((∃ y st', compB E t c elt (wipeD lo own) x st = .ok (some y) st' ∧ szOk acc.length = true ∧ P (i + 1) (acc ++ [y]) st') ∨ (∃ st', compB E t c elt (wipeD lo own) x st = .ok none st' ∧ P (i + 1) acc st')))
    (he : ∀ acc st, P n acc st → w.get n st = some none) : ∃ acc st', evE E (.comp own t it c elt) lo st = .ok (.loc st'.length) (st' ++ [.lst acc]) ∧ P n acc st' := by
  obtain ⟨acc, st', h1, h2⟩ := comp_gen hn P h0 hs he
  refine ⟨acc, st', ?_, h2⟩
  rw [e_comp, hi, bind_ok, h1, compR_ok]
abbrev pr (p : Int × Int) : D := .tup [.int p.1, .int p.2]
abbrev fq (p : Int × Int) : Rat := Rat.divInt p.1 p.2
@[simp] theorem enum_get (w : Wk) (i : Nat) (st : Sto) : (wkEnum w).get i st = (w.get i st).map fun o => o.map fun d => .tup [.int i, d] := Eq.trans rfl rfl
@[simp] theorem enum_len (w : Wk) : (wkEnum w).len = w.len := Eq.trans rfl rfl
section fns
variable {t : Tx}
theorem raised_ok (hR : t.T "raised" = some f_raised) (n : Nat) (b : Int) (k : Nat) (st : Sto) (hb : -(2 ^ 64) < b) (hb' : b < 2 ^ 64) (hk : k < 2 ^ 62) : callN t (n + 1) "raised" [.int b, .int (k : Int)] st = .ok (.int (b ^ k)) st := by
  rw [call_eq hR _ _ st rfl]
  have hrng : wkRange [.int (k : Int)] = some (wkRng 0 k) := by simp [wkRange, big_nat _ hk]
  have hb2 : (decide (-(2 ^ 64) < b) && decide (b < 2 ^ 64)) = true := by simp only [Bool.and_eq_true, decide_eq_true_eq]; exact ⟨hb, hb'⟩
  have key : exSs (evN t n) f_raised.body [some (.int b), some (.int k), none, none] st = .rt (.int (b ^ k)) st := by
    refine ss_nx (fun F => F = .rt (.int (b ^ k)) st) (lo1 := [some (.int b), some (.int k), some (.int 1), none]) (st1 := st) (by simp) ?_
    refine ss_for (fun F => F = .rt (.int (b ^ k)) st) (n := k) (fun i lo s => s = st ∧ ∃ y, lo = [some (.int b), some (.int k), some (.int (b ^ i)), y]) (st1 := st) (w := wkRng 0 k) (by simp [hrng]) rfl ⟨rfl, none, by simp⟩ ?_ ?_ ?_
    · rintro i lo s hi ⟨rfl, y, rfl⟩
      refine ⟨.int i, by simp [hi], _, s, ?_, rfl, some (.int i), rfl⟩
      have ha : augD .Mult (.int (b ^ i)) (.int b) = some (.int (b ^ (i + 1))) := by rw [Int.pow_succ]; simp only [augD, hb2, if_true]
      simp [forB, ha]
    · rintro lo s ⟨rfl, y, rfl⟩; simp
    · rintro lo s ⟨rfl, y, rfl⟩; simp
  exact congrArg flR key
theorem is_number_ok (hN : t.T "is_number" = some f_is_number) (n : Nat) (v a b : Int) (st : Sto) : callN t (n + 1) "is_number" [.int v, .int a, .int b] st = .ok (.bl (decide (a ≤ v) && decide (v ≤ b))) st := by
  rw [call_eq hN _ _ st rfl]
  by_cases h : a ≤ v <;> simp [f_is_number, List.replicate, h]
theorem check_number_ok (hN : t.T "is_number" = some f_is_number) (hC : t.T "check_number" = some f_check_number) (n : Nat) (v a b : Int) (st : Sto) (h : a ≤ v ∧ v ≤ b) : callN t (n + 2) "check_number" [.int v, .int a, .int b] st = .ok .non st := by
  rw [call_eq hC _ _ st rfl]
  simp [f_check_number, List.replicate, is_number_ok hN, h.1, h.2]
theorem check_poly_ok (hC : t.T "check_polynomial" = some f_check_polynomial) (hM : t.G "MAX_COEFFICIENTS" = some (.int 13)) (n : Nat) (d : D) (xs : List D) (st : Sto) (hd : seqOf st d = some xs) (h : xs.length ≤ 13) : callN t (n + 1) "check_polynomial" [d] st = .ok .non st := by
  rw [call_eq hC _ _ st rfl]
  have h' : ¬ ((13 : Int) < xs.length) := by omega
  simp [f_check_polynomial, List.replicate, hM, len_seq hd, h']
variable (F : Fr t)
include F
theorem low_places_ok (hP : t.T "low_places" = some f_low_places) (n : Nat) (d : D) (ps : List (Int × Int)) (most : Int) (st : Sto) {k : Nat} (hf : ∀ ns, d ≠ .fz ns) (hex : ∀ (s : Sto), (∀ j < st.length, s[j]? = st[j]?) → seqOf s d = some (ps.map pr))
    (hm : (ps.length : Int) ≤ most) (hden : ∀ p ∈ ps, p.2 ≠ 0) (hsz : ∀ p ∈ ps, p.1.natAbs < 2 ^ k ∧ p.2.natAbs < 2 ^ k) (hk0 : 0 < k) (hk : k + k ≤ 9000) (hinc : ∀ (i : Nat) (hi : i + 1 < ps.length), fq ps[i] < fq ps[i + 1]) (hl : ps.length ≤ 1000000) :
    callN t (n + 2) "low_places" [d, .int most] st = .ok (.loc st.length) (st ++ [.lst (ps.map fun p => frac (fq p))]) := by
  rw [call_eq hP _ _ st rfl]
  obtain ⟨L, hLd⟩ : ∃ L : List D, L = ps.map fun p => frac (fq p) := ⟨_, rfl⟩
  have hLl : L.length = ps.length := by rw [hLd]; simp
  have hLg : ∀ (i : Nat) (hi : i < ps.length), L[i]? = some (frac (fq ps[i])) := fun i hi => by rw [hLd]; simp [hi]
  rw [← hLd]
  have hexL : ∀ xs : List D, seqOf (st ++ [.lst xs]) d = some (ps.map pr) := fun xs => hex _ (fun j hj => by rw [List.getElem?_append_left hj])
  obtain ⟨w, hw1, hw2, hw3⟩ := wk_seq (hexL []) hf
  rw [List.length_map] at hw2
  have hbd : ∀ p ∈ ps, Bd k (fq p) := fun p hp => Bd.divInt (hsz p hp).1 (hsz p hp).2 (hden p hp)
  have key : exSs (evN t (n + 1)) f_low_places.body [some d, some (.int most), none, none, none] st = .rt (.loc st.length) (st ++ [.lst L]) := by
    refine ss_nx (fun F => F = .rt (.loc st.length) (st ++ [.lst L])) (lo1 := [some d, some (.int most), some (.loc st.length), none, none]) (st1 := st ++ [.lst []]) ?_ ?_
    · simp [szOk]
    refine ss_for (fun F => F = .rt (.loc st.length) (st ++ [.lst L])) (n := ps.length) (fun i lo s => s = st ++ [.lst (L.take i)] ∧ ∃ y z, lo = [some d, some (.int most), some (.loc st.length), y, z])
      (st1 := st ++ [.lst []]) (w := wkEnum w) ?_ ?_ ⟨by simp, none, none, rfl⟩ ?_ ?_ ?_
    · simp [hw1]
    · simp [hw2]
    · rintro i lo s hi ⟨rfl, y, z, rfl⟩
      have hg := hw3 i (st ++ [.lst (L.take i)]) _ (hexL _)
      have hpi : (ps.map pr)[i]? = some (pr ps[i]) := by simp [hi]
      rw [hpi] at hg
      have hmem : ps[i] ∈ ps := List.getElem_mem hi
      refine ⟨.tup [.int i, pr ps[i]], by simp [hg], [some d, some (.int most), some (.loc st.length), some (.int i), some (pr ps[i])], st ++ [.lst (L.take (i + 1))], ?_, rfl, _, _, rfl⟩
      have h1 : ¬ ((i : Int) = most) := by omega
      have h2 := hden _ hmem
      have hlow := lowest_ok F.lowest F.w n ps[i].1 ps[i].2 (st ++ [.lst (L.take i)]) (hsz _ hmem).1 (hsz _ hmem).2 h2 (by omega) hk0
      have has : asM (st ++ [.lst (L.take i)]) st.length = some (L.take i) := asM_of (by simp)
      have hzz : szOk (L.take i).length = true := by simp [szOk]; omega
      have htk : L.take i ++ [frac (fq ps[i])] = L.take (i + 1) := by
        have hiL : i < L.length := by omega
        rw [List.take_succ_eq_append_getElem hiL]
        have := hLg i hi
        rw [List.getElem?_eq_getElem hiL] at this
        rw [Option.some.inj this]
      have hmt : mtD .append st.length [frac (fq ps[i])] (st ++ [.lst (L.take i)]) = some (.non, st ++ [.lst (L.take (i + 1))]) := by
        simp only [mtD, has, hzz, if_true, setC, htk, set_last]
      by_cases hi0 : ¬ ((0 : Int) < i)
      · simp only [forB, g_tup, g_name, gs_cons, gs_nil, tgLen, List.length_cons, List.length_nil, decide_true, if_true, List.set, ss_cons, ss_nil, s_ifs, s_expr, t_or, t_val, t_and, t_not, e_cmp, e_var, e_idx, e_int, e_bm, e_call, a_cons, a_nil, bind_ok, lift_some, List.getElem?_cons_succ, List.getElem?_cons_zero, eq_int, gt_int, Option.map_some, tru_bl, idx0, idx1, evN_cl, h1, h2, hlow, has, hmt, hi0, toFl_ok, decide_false]
      · have hi1 : (0 : Int) < i := by omega
        have hseq : seqOf (st ++ [.lst (L.take (i + 1))]) (.loc st.length) = some (L.take (i + 1)) := seq_loc (by simp)
        have hix1 : idxD (.loc st.length) (.int ((i : Int) - 1)) (st ++ [.lst (L.take (i + 1))]) = some (frac (fq (ps[i - 1]'(by omega)))) := by
          have e : (i : Int) - 1 = ((i - 1 : Nat) : Int) := by omega
          rw [e]
          refine idx_seq hseq ?_
          rw [List.getElem?_take_of_lt (by omega)]
          exact hLg _ _
        have hix2 : idxD (.loc st.length) (.int (i : Int)) (st ++ [.lst (L.take (i + 1))]) = some (frac (fq ps[i])) := by
          refine idx_seq hseq ?_
          rw [List.getElem?_take_of_lt (by omega)]
          exact hLg _ _
        have hlt : fq (ps[i - 1]'(by omega)) < fq ps[i] := by
          have h := hinc (i - 1) (by omega)
          have e : i - 1 + 1 = i := by omega
          simpa only [e] using h
        have hls := less_ok F n (fq (ps[i - 1]'(by omega))) (fq ps[i]) (st ++ [.lst (L.take (i + 1))]) (hbd _ (List.getElem_mem _)) (hbd _ hmem) hk
        have hi2 : 0 < i := by omega
        simp [forB, h1, h2, hlow, has, hmt, hi2, binD, hix1, hix2, hls, hlt]
    · rintro lo s ⟨rfl, y, z, rfl⟩
      have hg := hw3 ps.length (st ++ [.lst (L.take ps.length)]) _ (hexL _)
      rw [enum_get, hg]
      simp
    · rintro lo s ⟨rfl, y, z, rfl⟩
      rw [← hLl]
      simp
  exact congrArg flR key
end fns
end Fx
set_option autoImplicit false
namespace Fx
open Mi PySem
/-! equality of data -/
abbrev fP (q : Rat) : PyData := .tuple [.int q.num, .int (q.den : Int)]
theorem pw_frac (f : Nat → Option PyData) (q : Rat) : toPw f (frac q) = some (fP q) := by simp [toPw, toPws]
theorem pws_frac (f : Nat → Option PyData) : ∀ qs : List Rat, toPws f (qs.map frac) = some (qs.map fP)
  | [] => by simp [toPws]
  | q :: qs => by simp only [List.map_cons, toPws, pw_frac, pws_frac f qs]
theorem fP_lay (q : Rat) : (fP q).canLay0 = true := by simp [PyData.canLay0, PyData.canLayAll0]
theorem fPs_lay : ∀ qs : List Rat, PyData.canLayAll0 (qs.map fP) = true
  | [] => by simp [PyData.canLayAll0]
  | q :: qs => by simp only [List.map_cons, PyData.canLayAll0, fP_lay, fPs_lay qs, Bool.and_self]
theorem fP_depth (q : Rat) : (fP q).depth = 1 := by simp [PyData.depth, PyData.depthAll]
theorem fPs_depth : ∀ qs : List Rat, PyData.depthAll (qs.map fP) ≤ 1
  | [] => by simp [PyData.depthAll]
  | q :: qs => by
    have := fPs_depth qs
    have h1 := fP_depth q
    simp only [List.map_cons, PyData.depthAll, h1]
    omega
theorem fP_shaped (q : Rat) : SeqAt.shaped (fP q) = true := by
  unfold SeqAt.shaped
  rw [fP_lay, fP_depth]; rfl
theorem fPs_shaped (qs : List Rat) : SeqAt.shaped (.list (qs.map fP)) = true := by
  unfold SeqAt.shaped
  have h1 : PyData.canLay0 (.list (qs.map fP)) = true := by simp only [PyData.canLay0]; exact fPs_lay qs
  have h2 := fPs_depth qs
  have h3 : PyData.depth (.list (qs.map fP)) ≤ 64 := by simp only [PyData.depth]; omega
  rw [h1]; simp [h3]
theorem fP_eqv (p q : Rat) : PyData.eqv (fP p) (fP q) = decide (p = q) := by
  simp only [PyData.eqv, PyData.eqvAll, Bool.and_true]
  by_cases h : p = q
  · subst h; simp
  · simp only [h, decide_false]
    rw [Bool.and_eq_false_iff]
    by_cases hn : p.num = q.num
    · right
      simp only [beq_eq_false_iff_ne, ne_eq]
      intro hd
      exact h (Rat.ext hn (by omega))
    · left; simp [hn]
theorem fPs_eqv : ∀ ps qs : List Rat, PyData.eqvAll (ps.map fP) (qs.map fP) = decide (ps = qs)
  | [], [] => by simp [PyData.eqvAll]
  | [], _ :: _ => by simp [PyData.eqvAll]
  | _ :: _, [] => by simp [PyData.eqvAll]
  | p :: ps, q :: qs => by
    simp only [List.map_cons, PyData.eqvAll, fP_eqv, fPs_eqv ps qs, List.cons.injEq]
    by_cases h : p = q <;> simp [h]
theorem eq_frac (p q : Rat) (st : Sto) : cmpD .Eq (frac p) (frac q) st = some (decide (p = q)) := by
  simp only [cmpD, eqD, toP, pw_frac, fP_shaped, Bool.and_self, if_true, fP_eqv]
theorem ne_frac (p q : Rat) (st : Sto) : cmpD .NotEq (frac p) (frac q) st = some (!decide (p = q)) := by
  simp only [cmpD, eqD, toP, pw_frac, fP_shaped, Bool.and_self, if_true, fP_eqv, Option.map_some]
theorem locP_fracs {st : Sto} {m : Nat} {qs : List Rat} (h : st[m]? = some (.lst (qs.map frac))) (k : Nat) : locP st (k + 1) m = some (.list (qs.map fP)) := by
  simp only [locP, asL, h, pws_frac, Option.map_some]
theorem eq_fracs {st : Sto} {m m' : Nat} {ps qs : List Rat} (h : st[m]? = some (.lst (ps.map frac))) (h' : st[m']? = some (.lst (qs.map frac))) : cmpD .Eq (.loc m) (.loc m') st = some (decide (ps = qs)) := by
  simp only [cmpD, eqD, toP, toPw, locP_fracs h, locP_fracs h', fPs_shaped, Bool.and_self, if_true, PyData.eqv, fPs_eqv]
/-! reading by a rule -/
def rd (l : List (Rat × Rat)) (cs : List Rat) : Rat := l.foldl (fun a p => a + p.2 * hor cs p.1) 0
theorem rd_bd {cs : List Rat} {kx kw kc : Nat} (hc : ∀ c ∈ cs, Bd kc c) : ∀ (l : List (Rat × Rat)) (a : Rat) (ka : Nat), Bd ka a → (∀ p ∈ l, Bd kx p.1 ∧ Bd kw p.2) → Bd (ka + l.length * (kw + (cs.length * (kx + kc + 1) + 1) + 1)) (l.foldl (fun a p => a + p.2 * hor cs p.1) a)
  | [], a, ka, ha, _ => by simpa using ha
  | p :: r, a, ka, ha, hl => by
    have h1 := hl p (List.mem_cons_self ..)
    have h2 := Bd.add ha (Bd.mul h1.2 (hor_bd h1.1 hc))
    have h3 := rd_bd hc r _ _ h2 (fun q hq => hl q (List.mem_cons_of_mem _ hq))
    refine h3.mono ?_
    simp only [List.length_cons, Nat.succ_mul]
    omega
section fns
variable {t : Tx} (F : Fr t)
include F
theorem all_places_ok (hP : t.T "low_places" = some f_low_places) (hA : t.T "all_places" = some f_all_places) (hM : t.G "MAX_PLACES" = some (.int 6)) (n : Nat) (d : D) (ps : List (Int × Int)) (st : Sto) {k : Nat} (hf : ∀ ns, d ≠ .fz ns) (hex : ∀ (s : Sto), (∀ j < st.length, s[j]? = st[j]?) → seqOf s d = some (ps.map pr))
    (hm : ps.length ≤ 6) (hne : ps ≠ []) (hden : ∀ p ∈ ps, p.2 ≠ 0) (hsz : ∀ p ∈ ps, p.1.natAbs < 2 ^ k ∧ p.2.natAbs < 2 ^ k) (hk0 : 0 < k) (hk : k + k ≤ 9000) (hinc : ∀ (i : Nat) (hi : i + 1 < ps.length), fq ps[i] < fq ps[i + 1]) :
    callN t (n + 3) "all_places" [d] st = .ok (.loc st.length) (st ++ [.lst (ps.map fun p => frac (fq p))] ++ [.lst []]) := by
  rw [call_eq hA _ _ st rfl]
  have h1 := low_places_ok F hP n d ps 6 st hf hex (by omega) hden hsz hk0 hk hinc (by omega)
  have e : (ps.map fun p => frac (fq p)) = (ps.map fq).map frac := by simp
  have hg1 : (st ++ [.lst (ps.map fun p => frac (fq p))] ++ [.lst []] : Sto)[st.length]? = some (.lst ((ps.map fq).map frac)) := by rw [e, List.append_assoc]; simp
  have hg2 : (st ++ [.lst (ps.map fun p => frac (fq p))] ++ [.lst []] : Sto)[st.length + 1]? = some (.lst (([] : List Rat).map frac)) := by rw [List.append_assoc]; simp
  have h2 := eq_fracs hg1 hg2
  have h3 : decide (ps.map fq = []) = false := by simp [hne]
  rw [h3] at h2
  have hl : (st ++ [.lst (ps.map fun p => frac (fq p))] : Sto).length = st.length + 1 := by simp
  have h0 : szOk 0 = true := rfl
  simp only [f_all_places, List.map, List.replicate, List.cons_append, List.nil_append, ss_cons, s_asg, e_call, a_cons, a_nil, e_var, e_glob, evN_cl, evN_G, hM, h1, bind_ok, toFl_ok, g_name, List.set, List.getElem?_cons_zero, List.getElem?_cons_succ, s_ifs, t_val, e_cmp, e_lst, List.length_nil, h0, if_true, hl, h2, Option.map_some, lift_some, tru_bl, ss_nil, s_ret, flR_rt]
theorem all_weights_ok (hP : t.T "all_weights" = some f_all_weights) (n : Nat) (d e : D) (xs : List D) (ps : List (Int × Int)) (st : Sto) {k : Nat} (hf : ∀ ns, e ≠ .fz ns) (hex : ∀ (s : Sto), (∀ j < st.length, s[j]? = st[j]?) → seqOf s e = some (ps.map pr)) (hed : ∀ (s : Sto), (∀ j < st.length, s[j]? = st[j]?) → seqOf s d = some xs)
    (hm : ps.length = xs.length) (hden : ∀ p ∈ ps, p.2 ≠ 0) (hsz : ∀ p ∈ ps, p.1.natAbs < 2 ^ k ∧ p.2.natAbs < 2 ^ k) (hk0 : 0 < k) (hk : k ≤ 9000) (hl : ps.length ≤ 1000000) :
    callN t (n + 2) "all_weights" [d, e] st = .ok (.loc st.length) (st ++ [.lst (ps.map fun p => frac (fq p))]) := by
  rw [call_eq hP _ _ st rfl]
  obtain ⟨L, hLd⟩ : ∃ L : List D, L = ps.map fun p => frac (fq p) := ⟨_, rfl⟩
  have hLl : L.length = ps.length := by rw [hLd]; simp
  have hLg : ∀ (i : Nat) (hi : i < ps.length), L[i]? = some (frac (fq ps[i])) := fun i hi => by rw [hLd]; simp [hi]
  rw [← hLd]
  have hexL : ∀ xs : List D, seqOf (st ++ [.lst xs]) e = some (ps.map pr) := fun xs => hex _ (fun j hj => by rw [List.getElem?_append_left hj])
  have hedL : ∀ ys : List D, seqOf (st ++ [.lst ys]) d = some xs := fun ys => hed _ (fun j hj => by rw [List.getElem?_append_left hj])
  obtain ⟨w, hw1, hw2, hw3⟩ := wk_seq (hexL []) hf
  rw [List.length_map] at hw2
  have key : exSs (evN t (n + 1)) f_all_weights.body [some d, some e, none, none, none] st = .rt (.loc st.length) (st ++ [.lst L]) := by
    refine ss_nx (fun F => F = .rt (.loc st.length) (st ++ [.lst L])) (lo1 := [some d, some e, some (.loc st.length), none, none]) (st1 := st ++ [.lst []]) ?_ ?_
    · simp [szOk]
    refine ss_for (fun F => F = .rt (.loc st.length) (st ++ [.lst L])) (n := ps.length) (fun i lo s => s = st ++ [.lst (L.take i)] ∧ ∃ y z, lo = [some d, some e, some (.loc st.length), y, z])
      (st1 := st ++ [.lst []]) (w := wkEnum w) ?_ ?_ ⟨by simp, none, none, rfl⟩ ?_ ?_ ?_
    · simp [hw1]
    · simp [hw2]
    · rintro i lo s hi ⟨rfl, y, z, rfl⟩
      have hg := hw3 i (st ++ [.lst (L.take i)]) _ (hexL _)
      have hpi : (ps.map pr)[i]? = some (pr ps[i]) := by simp [hi]
      rw [hpi] at hg
      have hmem : ps[i] ∈ ps := List.getElem_mem hi
      refine ⟨.tup [.int i, pr ps[i]], by simp [hg], [some d, some e, some (.loc st.length), some (.int i), some (pr ps[i])], st ++ [.lst (L.take (i + 1))], ?_, rfl, _, _, rfl⟩
      have h1 : ¬ ((i : Int) = xs.length) := by omega
      have h2 := hden _ hmem
      have hlen := len_seq (hedL (L.take i))
      have hlow := lowest_ok F.lowest F.w n ps[i].1 ps[i].2 (st ++ [.lst (L.take i)]) (hsz _ hmem).1 (hsz _ hmem).2 h2 hk hk0
      have has : asM (st ++ [.lst (L.take i)]) st.length = some (L.take i) := asM_of (by simp)
      have hzz : szOk (L.take i).length = true := by simp [szOk]; omega
      have htk : L.take i ++ [frac (fq ps[i])] = L.take (i + 1) := by
        have hiL : i < L.length := by omega
        rw [List.take_succ_eq_append_getElem hiL]
        have := hLg i hi
        rw [List.getElem?_eq_getElem hiL] at this
        rw [Option.some.inj this]
      have hmt : mtD .append st.length [frac (fq ps[i])] (st ++ [.lst (L.take i)]) = some (.non, st ++ [.lst (L.take (i + 1))]) := by
        simp only [mtD, has, hzz, if_true, setC, htk, set_last]
      simp only [forB, g_tup, g_name, gs_cons, gs_nil, tgLen, List.length_cons, List.length_nil, decide_true, if_true, List.set, ss_cons, ss_nil, s_ifs, s_expr, t_or, t_val, t_and, t_not, e_cmp, e_var, e_idx, e_int, e_bm, e_bi, e_call, a_cons, a_nil, bind_ok, lift_some, List.getElem?_cons_succ, List.getElem?_cons_zero, eq_int, gt_int, Option.map_some, tru_bl, idx0, idx1, evN_cl, hlen, h1, h2, hlow, has, hmt, toFl_ok, decide_false]
    · rintro lo s ⟨rfl, y, z, rfl⟩
      have hg := hw3 ps.length (st ++ [.lst (L.take ps.length)]) _ (hexL _)
      rw [enum_get, hg]
      simp
    · rintro lo s ⟨rfl, y, z, rfl⟩
      rw [← hLl, List.take_length]
      have hlen := len_seq (hedL L)
      have hlen2 := len_seq (st := st ++ [.lst L]) (d := .loc st.length) (xs := L) (seq_loc (by simp))
      have h1 : ¬ ((L.length : Int) < xs.length) := by omega
      simp only [ss_cons, ss_nil, s_ifs, t_val, e_cmp, e_bi, e_var, a_cons, a_nil, bind_ok, List.getElem?_cons_succ, List.getElem?_cons_zero, hlen, hlen2, lift_some, lt_int, h1, decide_false, Option.map_some, tru_bl, s_ret, toFl_ok]
  exact congrArg flR key
theorem read_by_ok (hW : t.T "worth" = some f_worth) (hR : t.T "read_by" = some f_read_by) (n : Nat) (a b : Nat) (d : D) (l : List (Rat × Rat)) (cs : List Rat) (st : Sto) {kx kw kc : Nat} (ha : st[a]? = some (.lst ((l.map (·.1)).map frac))) (hb : st[b]? = some (.lst ((l.map (·.2)).map frac))) (hd : seqOf st d = some (cs.map frac))
    (hl : ∀ p ∈ l, Bd kx p.1 ∧ Bd kw p.2) (hc : ∀ c ∈ cs, Bd kc c) (hcl : cs.length < 2 ^ 62) (hk : 1 + l.length * (kw + (cs.length * (kx + kc + 1) + 1) + 1) ≤ 9000) :
    callN t (n + 4) "read_by" [.loc a, .loc b, d] st = .ok (frac (rd l cs)) st := by
  rw [call_eq hR _ _ st rfl]
  have hw1 : wkSeq st (.loc a) = some (wkLst a l.length) := by simp [wkSeq, asL, ha]
  have hw2 : wkSeq st (.loc b) = some (wkLst b l.length) := by simp [wkSeq, asL, hb]
  have hget : ∀ i : Nat, (wkZip (wkLst a l.length) (wkLst b l.length)).get i st = some (l[i]?.map fun p => .tup [frac p.1, frac p.2]) := by
    intro i
    simp only [wkZip, wkLst, asL, ha, hb, Option.map_some, List.getElem?_map]
    cases l[i]? <;> rfl
  have key : exSs (evN t (n + 3)) f_read_by.body [some (.loc a), some (.loc b), some d, none, none, none] st = .rt (frac (rd l cs)) st := by
    refine ss_nx (fun F => F = .rt (frac (rd l cs)) st) (lo1 := [some (.loc a), some (.loc b), some d, some (.tup [.int 0, .int 1]), none, none]) (st1 := st) ?_ ?_
    · simp [F.nothing]
    refine ss_for (fun F => F = .rt (frac (rd l cs)) st) (n := l.length) (fun i lo s => s = st ∧ ∃ y z, lo = [some (.loc a), some (.loc b), some d, some (frac (rd (l.take i) cs)), y, z])
      (st1 := st) (w := wkZip (wkLst a l.length) (wkLst b l.length)) ?_ ?_ ⟨rfl, none, none, by simp [rd]⟩ ?_ ?_ ?_
    · simp [hw1, hw2, isLoc]
    · simp [wkZip, wkLst]
    · rintro i lo s hi ⟨rfl, y, z, rfl⟩
      refine ⟨.tup [frac l[i].1, frac l[i].2], by rw [hget]; simp [hi], [some (.loc a), some (.loc b), some d, some (frac (rd (l.take (i + 1)) cs)), some (frac l[i].1), some (frac l[i].2)], s, ?_, rfl, _, _, rfl⟩
      have hmem : l[i] ∈ l := List.getElem_mem hi
      have hb1 := hl _ hmem
      have hmul : (i + 1) * (kw + (cs.length * (kx + kc + 1) + 1) + 1) ≤ l.length * (kw + (cs.length * (kx + kc + 1) + 1) + 1) := Nat.mul_le_mul_right _ (by omega)
      rw [Nat.succ_mul] at hmul
      have hrd : Bd (1 + i * (kw + (cs.length * (kx + kc + 1) + 1) + 1)) (rd (l.take i) cs) := by
        have := rd_bd (kx := kx) (kw := kw) hc (l.take i) 0 1 Bd.zero (fun p hp => hl p (List.mem_of_mem_take hp))
        rw [List.length_take, Nat.min_eq_left (by omega)] at this
        exact this
      have hwo := worth_ok F hW n s hd hcl hb1.1 hc (by omega)
      have hti := times_ok F.lowest F.w (n + 1) s F.times hb1.2 (hor_bd hb1.1 hc) (by omega)
      have hpl := plus_ok F.lowest F.w (n + 1) s F.plus hrd (Bd.mul hb1.2 (hor_bd hb1.1 hc)) (by omega)
      have htk : rd (l.take (i + 1)) cs = rd (l.take i) cs + l[i].2 * hor cs l[i].1 := by
        rw [List.take_succ_eq_append_getElem hi]
        simp only [rd, List.foldl_append, List.foldl_cons, List.foldl_nil]
      rw [htk]
      simp only [forB, g_tup, g_name, gs_cons, gs_nil, tgLen, List.length_cons, List.length_nil, decide_true, if_true, List.set, ss_cons, ss_nil, s_asg, e_call, a_cons, a_nil, e_var, bind_ok, List.getElem?_cons_succ, List.getElem?_cons_zero, evN_cl, hwo, hti, hpl, toFl_ok]
    · rintro lo s ⟨rfl, y, z, rfl⟩
      rw [hget]; simp
    · rintro lo s ⟨rfl, y, z, rfl⟩
      simp
  exact congrArg flR key
end fns
end Fx
set_option autoImplicit false
namespace Fx
open Mi PySem
def f_check_cut : Df := ⟨3, 3, (.cons (.expr (.call "check_number" (.cons false (.var 0) (.cons false (.bin .Sub (.con (.int 0)) (.glob "FAR")) (.cons false (.glob "FAR") .nil))))) (.cons (.expr (.call "check_number" (.cons false (.var 1) (.cons false (.bin .Sub (.con (.int 0)) (.glob "FAR")) (.cons false (.glob "FAR") .nil))))) (.cons (.ifs (.val (.cmp .LtE (.var 1) (.var 0))) (.cons (.raise_ "raise" .nil) .nil) .nil) (.cons (.expr (.call "check_number" (.cons false (.var 2) (.cons false (.con (.int 1)) (.cons false (.glob "MAX_PARTS") .nil))))) .nil))))⟩
def f_cut_of : Df := ⟨5, 11, (.cons (.asg (.tup (.cons (.name 6) (.cons (.name 7) .nil))) (.tup (.cons false (.call "lowest" (.cons false (.bin .Sub (.var 1) (.var 0)) (.cons false (.bin .Mult (.con (.int 2)) (.var 2)) .nil))) (.cons false (.glob "NOTHING") .nil)))) (.cons (.for_ (.name 5) (.rng (.cons false (.var 2) .nil)) (.cons (.asg (.name 8) (.call "plus" (.cons false (.call "whole" (.cons false (.var 0) .nil)) (.cons false (.call "times" (.cons false (.var 6) (.cons false (.call "whole" (.cons false (.bin .Add (.bin .Mult (.con (.int 2)) (.var 5)) (.con (.int 1))) .nil)) .nil))) .nil)))) (.cons (.asg (.name 9) (.comp [10] (.name 10) (.seq (.idx (.var 3) (.con (.int 0)))) .none (.call "plus" (.cons false (.var 8) (.cons false (.call "times" (.cons false (.var 6) (.cons false (.var 10) .nil))) .nil))))) (.cons (.asg (.name 7) (.call "plus" (.cons false (.var 7) (.cons false (.call "times" (.cons false (.var 6) (.cons false (.call "read_by" (.cons false (.var 9) (.cons false (.idx (.var 3) (.con (.int 1))) (.cons false (.var 4) .nil)))) .nil))) .nil)))) .nil)))) (.cons (.ret (.var 7)) .nil)))⟩
def f_cut_sum : Df := ⟨6, 9, (.cons (.expr (.call "check_cut" (.cons false (.var 0) (.cons false (.var 1) (.cons false (.var 2) .nil))))) (.cons (.asg (.name 6) (.call "all_places" (.cons false (.var 3) .nil))) (.cons (.asg (.name 7) (.tup (.cons false (.var 6) (.cons false (.call "all_weights" (.cons false (.var 6) (.cons false (.var 4) .nil))) .nil)))) (.cons (.expr (.call "check_polynomial" (.cons false (.var 5) .nil))) (.cons (.ret (.call "cut_of" (.cons false (.var 0) (.cons false (.var 1) (.cons false (.var 2) (.cons false (.var 7) (.cons false (.comp [8] (.name 8) (.seq (.var 5)) .none (.call "whole" (.cons false (.var 8) .nil))) .nil))))))) .nil)))))⟩
def f_cut_gap : Df := ⟨6, 10, (.cons (.asg (.name 6) (.call "cut_sum" (.cons false (.var 0) (.cons false (.var 1) (.cons false (.var 2) (.cons false (.var 3) (.cons false (.var 4) (.cons false (.var 5) .nil)))))))) (.cons (.asg (.name 7) (.glob "NOTHING")) (.cons (.for_ (.tup (.cons (.name 8) (.cons (.name 9) .nil))) (.enum (.var 5)) (.cons (.asg (.name 7) (.call "plus" (.cons false (.var 7) (.cons false (.call "lowest" (.cons false (.bin .Mult (.var 9) (.bin .Sub (.call "raised" (.cons false (.var 1) (.cons false (.bin .Add (.var 8) (.con (.int 1))) .nil))) (.call "raised" (.cons false (.var 0) (.cons false (.bin .Add (.var 8) (.con (.int 1))) .nil))))) (.cons false (.bin .Add (.var 8) (.con (.int 1))) .nil))) .nil)))) .nil)) (.cons (.ret (.call "minus" (.cons false (.var 7) (.cons false (.var 6) .nil)))) .nil))))⟩
def mid (lo : Int) (h : Rat) (p : Nat) : Rat := (lo : Rat) + h * ((2 * (p : Int) + 1 : Int) : Rat)
def cutl (lo : Int) (h : Rat) (l : List (Rat × Rat)) (p : Nat) : List (Rat × Rat) := l.map fun q => (mid lo h p + h * q.1, q.2)
def cutS (lo : Int) (h : Rat) (l : List (Rat × Rat)) (cs : List Rat) : Nat → Rat
  | 0 => 0
  | p + 1 => cutS lo h l cs p + h * rd (cutl lo h l p) cs
theorem Bd.int {i : Int} {k : Nat} (h : i.natAbs < 2 ^ k) (hk : 0 < k) : Bd k (i : Rat) := by
  constructor
  · simpa using h
  · show (1 : Nat) < 2 ^ k
    exact Nat.one_lt_two_pow (by omega)
section sizes
variable {lo : Int} {h : Rat} {l : List (Rat × Rat)} {cs : List Rat} {kx kw kc : Nat} (hlo : lo.natAbs ≤ 20) (hh : Bd 6 h) (hl : ∀ p ∈ l, Bd kx p.1 ∧ Bd kw p.2) (hc : ∀ c ∈ cs, Bd kc c)
include hlo hh
theorem mid_bd {p : Nat} (hp : p < 12) : Bd 17 (mid lo h p) := by
  have h1 : Bd 5 (lo : Rat) := Bd.int (by have : (20 : Nat) < 2 ^ 5 := by decide
                                          omega) (by decide)
  have h2 : Bd 5 ((2 * (p : Int) + 1 : Int) : Rat) := Bd.int (by have : (2 : Nat) ^ 5 = 32 := by decide
                                                                 omega) (by decide)
  exact Bd.add h1 (Bd.mul hh h2)
include hl
theorem cutl_bd {p : Nat} (hp : p < 12) : ∀ q ∈ cutl lo h l p, Bd (kx + 24) q.1 ∧ Bd kw q.2 := by
  intro q hq
  simp only [cutl, List.mem_map] at hq
  obtain ⟨r, hr, rfl⟩ := hq
  have h1 := Bd.add (mid_bd hlo hh hp) (Bd.mul hh (hl r hr).1)
  exact ⟨h1.mono (by omega), (hl r hr).2⟩
include hc
theorem rdc_bd {p : Nat} (hp : p < 12) : Bd (1 + l.length * (kw + (cs.length * (kx + 24 + kc + 1) + 1) + 1)) (rd (cutl lo h l p) cs) := by
  have := rd_bd (kx := kx + 24) (kw := kw) hc (cutl lo h l p) 0 1 Bd.zero (cutl_bd hlo hh hl hp)
  rw [show (cutl lo h l p).length = l.length by simp [cutl]] at this
  exact this
theorem cutS_bd : ∀ p : Nat, p ≤ 12 → Bd (1 + p * ((1 + l.length * (kw + (cs.length * (kx + 24 + kc + 1) + 1) + 1)) + 7)) (cutS lo h l cs p)
  | 0, _ => Bd.zero.mono (by simp)
  | p + 1, hp => by
    have h1 := cutS_bd p (by omega)
    have h2 := Bd.add h1 (Bd.mul hh (rdc_bd hlo hh hl hc (p := p) (by omega)))
    refine h2.mono ?_
    rw [Nat.succ_mul]
    omega
end sizes
structure Cu (t : Tx) : Prop extends Fr t where
  raised : t.T "raised" = some f_raised
  worth : t.T "worth" = some f_worth
  is_number : t.T "is_number" = some f_is_number
  check_number : t.T "check_number" = some f_check_number
  check_polynomial : t.T "check_polynomial" = some f_check_polynomial
  low_places : t.T "low_places" = some f_low_places
  all_places : t.T "all_places" = some f_all_places
  all_weights : t.T "all_weights" = some f_all_weights
  read_by : t.T "read_by" = some f_read_by
  check_cut : t.T "check_cut" = some f_check_cut
  cut_of : t.T "cut_of" = some f_cut_of
  cut_sum : t.T "cut_sum" = some f_cut_sum
  cut_gap : t.T "cut_gap" = some f_cut_gap
  far : t.G "FAR" = some (.int 20)
  maxc : t.G "MAX_COEFFICIENTS" = some (.int 13)
  maxp : t.G "MAX_PLACES" = some (.int 6)
  maxq : t.G "MAX_PARTS" = some (.int 12)
section fns
variable {t : Tx} (F : Cu t)
include F
theorem check_cut_ok (n : Nat) (lo hi p : Int) (st : Sto) (h1 : -20 ≤ lo ∧ lo ≤ 20) (h2 : -20 ≤ hi ∧ hi ≤ 20) (h3 : lo < hi) (h4 : 1 ≤ p ∧ p ≤ 12) : callN t (n + 3) "check_cut" [.int lo, .int hi, .int p] st = .ok .non st := by
  rw [call_eq F.check_cut _ _ st rfl]
  have c := fun v a b st h => check_number_ok F.is_number F.check_number n v a b st h
  have h3' : ¬ (hi ≤ lo) := by omega
  simp [f_check_cut, List.replicate, F.far, F.maxq, binD, c lo (-20) 20 st h1, c hi (-20) 20 st h2, c p 1 12 st h4, h3']
theorem cut_of_ok (n : Nat) (lo hi : Int) (parts a b : Nat) (d : D) (l : List (Rat × Rat)) (cs : List Rat) (st : Sto) {kx kw kc : Nat} (h1 : lo.natAbs ≤ 20) (h2 : hi.natAbs ≤ 20) (h4 : 1 ≤ parts ∧ parts ≤ 12)
    (ha : st[a]? = some (.lst ((l.map (·.1)).map frac))) (hb : st[b]? = some (.lst ((l.map (·.2)).map frac))) (hd : ∀ s : Sto, (∀ j < st.length, s[j]? = st[j]?) → seqOf s d = some (cs.map frac)) (hll : l.length ≤ 1000) (hkx : kx ≤ 1000)
    (hl : ∀ p ∈ l, Bd kx p.1 ∧ Bd kw p.2) (hc : ∀ c ∈ cs, Bd kc c) (hcl : cs.length < 2 ^ 62) (hk : 1 + parts * ((1 + l.length * (kw + (cs.length * (kx + 24 + kc + 1) + 1) + 1)) + 7) ≤ 9000) :
    ∃ more, callN t (n + 5) "cut_of" [.int lo, .int hi, .int parts, .tup [.loc a, .loc b], d] st = .ok (frac (cutS lo (Rat.divInt (hi - lo) (2 * parts)) l cs parts)) (st ++ more) := by
  rw [call_eq F.cut_of _ _ st rfl]
  have hb1 : (hi - lo).natAbs < 2 ^ 6 := by have : (2 : Nat) ^ 6 = 64 := by decide
                                            omega
  have hb2 : (2 * (parts : Int)).natAbs < 2 ^ 6 := by have : (2 : Nat) ^ 6 = 64 := by decide
                                                      omega
  have hb3 : (2 * (parts : Int)) ≠ 0 := by omega
  have hh : Bd 6 (Rat.divInt (hi - lo) (2 * parts)) := Bd.divInt hb1 hb2 hb3
  have hlow := lowest_ok F.lowest F.w (n + 3) (hi - lo) (2 * parts) st hb1 hb2 hb3 (by decide) (by decide)
  generalize Rat.divInt (hi - lo) (2 * parts) = h at hh hlow ⊢
  have hal : a < st.length := (List.getElem?_eq_some_iff.mp ha).1
  have hbl : b < st.length := (List.getElem?_eq_some_iff.mp hb).1
  have hm2 : mulOk 2 (parts : Int) = true := mulOk_of (a := 2) (b := 6) (by decide) (by omega) (by decide) (by decide) (by decide)
  have hrng : wkRange [.int (parts : Int)] = some (wkRng 0 parts) := by simp [wkRange, big_nat parts (by omega)]
  have key : ∃ more, exSs (evN t (n + 4)) f_cut_of.body [some (.int lo), some (.int hi), some (.int parts), some (.tup [.loc a, .loc b]), some d, none, none, none, none, none, none] st = .rt (frac (cutS lo h l cs parts)) (st ++ more) := by
    refine ss_nx (fun F => ∃ more, F = .rt (frac (cutS lo h l cs parts)) (st ++ more)) (lo1 := [some (.int lo), some (.int hi), some (.int parts), some (.tup [.loc a, .loc b]), some d, none, some (frac h), some (.tup [.int 0, .int 1]), none, none, none]) (st1 := st) ?_ ?_
    · simp [binD, hm2, hlow, F.nothing]
    refine ss_for (fun F => ∃ more, F = .rt (frac (cutS lo h l cs parts)) (st ++ more)) (n := parts)
      (fun i lo' s => ∃ more y5 y8 y9, s = st ++ more ∧ lo' = [some (.int lo), some (.int hi), some (.int parts), some (.tup [.loc a, .loc b]), some d, y5, some (frac h), some (frac (cutS lo h l cs i)), y8, y9, none])
      (st1 := st) (w := wkRng 0 parts) ?_ rfl ⟨[], none, none, none, by simp, rfl⟩ ?_ ?_ ?_
    · simp [hrng]
    · rintro i lo' s hi' ⟨more, y5, y8, y9, rfl, rfl⟩
      have hp12 : i < 12 := by omega
      have hw0 := whole_ok F.toFr (n + 3) lo (st ++ more)
      have hw1 := whole_ok F.toFr (n + 3) (2 * (i : Int) + 1) (st ++ more)
      have hmul2 : mulOk 2 (i : Int) = true := mulOk_of (a := 2) (b := 6) (by decide) (by have : (2 : Nat) ^ 6 = 64 := by decide
                                                                                          omega) (by decide) (by decide) (by decide)
      have bl1 : Bd 5 (lo : Rat) := Bd.int (by have : (20 : Nat) < 2 ^ 5 := by decide
                                               omega) (by decide)
      have bl2 : Bd 5 ((2 * (i : Int) + 1 : Int) : Rat) := Bd.int (by have : (2 : Nat) ^ 5 = 32 := by decide
                                                                      omega) (by decide)
      have ht1 := times_ok F.lowest F.w (n + 2) (st ++ more) F.times hh bl2 (by decide)
      have hp1 := plus_ok F.lowest F.w (n + 2) (st ++ more) F.plus bl1 (Bd.mul hh bl2) (by decide)
      have hmb := mid_bd h1 hh hp12
      have hga : (st ++ more)[a]? = some (.lst ((l.map (·.1)).map frac)) := by rw [List.getElem?_append_left hal]; exact ha
      have hgb : (st ++ more)[b]? = some (.lst ((l.map (·.2)).map frac)) := by rw [List.getElem?_append_left hbl]; exact hb
      -- the new places
      obtain ⟨acc, s', hcomp, hacc, hs'⟩ := ev_comp (E := evN t (n + 4)) (own := [10]) (t := .name 10) (it := .seq (.idx (.var 3) (.con (.int 0)))) (c := .none) (elt := .call "plus" (.cons false (.var 8) (.cons false (.call "times" (.cons false (.var 6) (.cons false (.var 10) .nil))) .nil)))
        (lo := [some (.int lo), some (.int hi), some (.int parts), some (.tup [.loc a, .loc b]), some d, some (.int i), some (frac h), some (frac (cutS lo h l cs i)), some (frac (mid lo h i)), y9, none]) (st := st ++ more) (st1 := st ++ more) (w := wkLst a l.length) (n := l.length)
        (fun j acc s => acc = (l.take j).map (fun q => frac (mid lo h i + h * q.1)) ∧ s = st ++ more) (by simp [wkSeq, asL, hga]) rfl ⟨by simp, rfl⟩
        (by
          rintro j acc s hj ⟨hacc, rfl⟩
          refine ⟨frac l[j].1, by simp [wkLst, asL, hga, hj], .inl ⟨frac (mid lo h i + h * l[j].1), st ++ more, ?_, ?_, ?_, rfl⟩⟩
          · have hx := (hl _ (List.getElem_mem hj)).1
            have ht := times_ok F.lowest F.w (n + 2) (st ++ more) F.times hh hx (by omega)
            have hp := plus_ok F.lowest F.w (n + 2) (st ++ more) F.plus hmb (Bd.mul hh hx) (by omega)
            simp [compB, wipeD, ht, hp]
          · rw [hacc]; simp [szOk]; omega
          · rw [hacc, List.take_succ_eq_append_getElem hj, List.map_append]; rfl)
        (by rintro acc s ⟨_, rfl⟩; simp [wkLst, asL, hga])
      subst hs'
      have hacc' : acc = ((cutl lo h l i).map (·.1)).map frac := by rw [hacc, List.take_length]; simp [cutl]
      have hS1 : (st ++ more ++ [.lst acc] : Sto)[(st ++ more : Sto).length]? = some (.lst (((cutl lo h l i).map (·.1)).map frac)) := by rw [hacc']; simp
      have hS2 : (st ++ more ++ [.lst acc] : Sto)[b]? = some (.lst (((cutl lo h l i).map (·.2)).map frac)) := by
        have e : (cutl lo h l i).map (·.2) = l.map (·.2) := by simp [cutl]
        rw [e, List.getElem?_append_left (by simp; omega)]
        exact hgb
      have hS3 : seqOf (st ++ more ++ [.lst acc]) d = some (cs.map frac) := hd _ fun j hj => by rw [List.append_assoc, List.getElem?_append_left hj]
      have hmul : (i + 1) * ((1 + l.length * (kw + (cs.length * (kx + 24 + kc + 1) + 1) + 1)) + 7) ≤ parts * ((1 + l.length * (kw + (cs.length * (kx + 24 + kc + 1) + 1) + 1)) + 7) := Nat.mul_le_mul_right _ (by omega)
      rw [Nat.succ_mul] at hmul
      have hcl' : (cutl lo h l i).length = l.length := by simp [cutl]
      have hrb := read_by_ok F.toFr F.worth F.read_by n (st ++ more : Sto).length b d (cutl lo h l i) cs (st ++ more ++ [.lst acc]) hS1 hS2 hS3 (cutl_bd h1 hh hl hp12) hc hcl (by rw [hcl']; omega)
      have hrbd := rdc_bd h1 hh hl hc hp12
      have ht3 := times_ok F.lowest F.w (n + 2) (st ++ more ++ [.lst acc]) F.times hh hrbd (by omega)
      have hp3 := plus_ok F.lowest F.w (n + 2) (st ++ more ++ [.lst acc]) F.plus (cutS_bd h1 hh hl hc i (by omega)) (Bd.mul hh hrbd) (by omega)
      refine ⟨.int i, by simp [hi'], [some (.int lo), some (.int hi), some (.int parts), some (.tup [.loc a, .loc b]), some d, some (.int i), some (frac h), some (frac (cutS lo h l cs (i + 1))), some (frac (mid lo h i)), some (.loc (st ++ more : Sto).length), none], st ++ more ++ [.lst acc], ?_, more ++ [.lst acc], _, _, _, by simp, rfl⟩
      simp only [mid] at hcomp ⊢
      simp only [cutS]
      simp only [forB, g_name, List.set, ss_cons, ss_nil, s_asg, e_call, a_cons, a_nil, e_var, e_int, e_bin, e_idx, bind_ok, List.getElem?_cons_succ, List.getElem?_cons_zero, evN_cl, hw0, binD, hmul2, if_true, lift_some, hw1, ht1, hp1, toFl_ok, hcomp, idx1, Option.map_some, hrb, ht3, hp3]
    · rintro lo' s ⟨more, y5, y8, y9, rfl, rfl⟩; simp
    · rintro lo' s ⟨more, y5, y8, y9, rfl, rfl⟩
      exact ⟨more, by simp⟩
  obtain ⟨more, key⟩ := key
  exact ⟨more, congrArg flR key⟩
end fns
end Fx
set_option autoImplicit false
namespace Fx
open Mi PySem
theorem zip_fst {α β : Type} : ∀ {xs : List α} {ys : List β}, xs.length = ys.length → (xs.zip ys).map (·.1) = xs
  | [], [], _ => rfl
  | x :: xs, y :: ys, h => by simp only [List.zip_cons_cons, List.map_cons]; rw [zip_fst (by simpa using h)]
theorem zip_snd {α β : Type} : ∀ {xs : List α} {ys : List β}, xs.length = ys.length → (xs.zip ys).map (·.2) = ys
  | [], [], _ => rfl
  | x :: xs, y :: ys, h => by simp only [List.zip_cons_cons, List.map_cons]; rw [zip_snd (by simpa using h)]
abbrev rule (ps ws : List (Int × Int)) : List (Rat × Rat) := (ps.map fq).zip (ws.map fq)
/-- what cut_sum tells -/
def CS (lo hi : Int) (parts : Nat) (ps ws : List (Int × Int)) (poly : List Int) : Rat := cutS lo (Rat.divInt (hi - lo) (2 * parts)) (rule ps ws) (poly.map fun c : Int => (c : Rat)) parts
structure CutIn (lo hi : Int) (parts : Nat) (ps ws : List (Int × Int)) (poly : List Int) (k kc : Nat) : Prop where
  lo1 : -20 ≤ lo ∧ lo ≤ 20
  hi1 : -20 ≤ hi ∧ hi ≤ 20
  lt : lo < hi
  parts1 : 1 ≤ parts ∧ parts ≤ 12
  len : ps.length ≤ 6
  ne : ps ≠ []
  leq : ps.length = ws.length
  den : ∀ p ∈ ps, p.2 ≠ 0
  dew : ∀ p ∈ ws, p.2 ≠ 0
  sz : ∀ p ∈ ps, p.1.natAbs < 2 ^ k ∧ p.2.natAbs < 2 ^ k
  szw : ∀ p ∈ ws, p.1.natAbs < 2 ^ k ∧ p.2.natAbs < 2 ^ k
  inc : ∀ (i : Nat) (hi : i + 1 < ps.length), fq ps[i] < fq ps[i + 1]
  pl : poly.length ≤ 13
  pc : ∀ c ∈ poly, c.natAbs < 2 ^ kc
  k0 : 0 < k ∧ k ≤ 1000
  kc0 : 0 < kc
  big : 1 + parts * ((1 + ps.length * (k + (poly.length * (k + 24 + kc + 1) + 1) + 1)) + 7) + (1 + poly.length * (kc + 67)) ≤ 8980
section fns
variable {t : Tx} (F : Cu t) {lo hi : Int} {parts : Nat} {ps ws : List (Int × Int)} {poly : List Int} {k kc : Nat} (I : CutIn lo hi parts ps ws poly k kc)
include I in
theorem CutIn.bds : (∀ p ∈ rule ps ws, Bd k p.1 ∧ Bd k p.2) ∧ (∀ c ∈ poly.map (fun c : Int => (c : Rat)), Bd kc c) ∧ (rule ps ws).length = ps.length := by
  refine ⟨?_, ?_, by simp [rule, I.leq]⟩
  · intro p hp
    obtain ⟨p1, p2⟩ := p
    have h1 := (List.of_mem_zip hp).1
    have h2 := (List.of_mem_zip hp).2
    simp only [List.mem_map] at h1 h2
    obtain ⟨a, ha, rfl⟩ := h1
    obtain ⟨b, hb, rfl⟩ := h2
    exact ⟨Bd.divInt (I.sz a ha).1 (I.sz a ha).2 (I.den a ha), Bd.divInt (I.szw b hb).1 (I.szw b hb).2 (I.dew b hb)⟩
  · intro c hc
    simp only [List.mem_map] at hc
    obtain ⟨i, hi, rfl⟩ := hc
    exact Bd.int (I.pc i hi) I.kc0
include I in
theorem CutIn.csb : Bd (1 + parts * ((1 + ps.length * (k + (poly.length * (k + 24 + kc + 1) + 1) + 1)) + 7)) (CS lo hi parts ps ws poly) := by
  obtain ⟨hl, hc, hlen⟩ := I.bds
  have := I.lo1
  have := I.hi1
  have := I.parts1
  have := I.lt
  have hb1 : (hi - lo).natAbs < 2 ^ 6 := by have : (2 : Nat) ^ 6 = 64 := by decide
                                            omega
  have hb2 : (2 * (parts : Int)).natAbs < 2 ^ 6 := by have : (2 : Nat) ^ 6 = 64 := by decide
                                                      omega
  have hh : Bd 6 (Rat.divInt (hi - lo) (2 * parts)) := Bd.divInt hb1 hb2 (by omega)
  have := cutS_bd (lo := lo) (by omega) hh hl hc parts I.parts1.2
  rw [hlen, List.length_map] at this
  exact this
include F I
theorem cut_sum_ok (n : Nat) (st : Sto) : ∃ more, callN t (n + 6) "cut_sum" [.int lo, .int hi, .int parts, .tup (ps.map pr), .tup (ws.map pr), .tup (poly.map .int)] st = .ok (frac (CS lo hi parts ps ws poly)) (st ++ more) := by
  rw [call_eq F.cut_sum _ _ st rfl]
  obtain ⟨hl, hc, hlen⟩ := I.bds
  have i1 := I.lo1
  have i2 := I.hi1
  have i3 := I.parts1
  have i4 := I.len
  have i5 := I.pl
  have hbig := I.big
  have hcut := check_cut_ok F (n + 2) lo hi parts st I.lo1 I.hi1 I.lt (by omega)
  have hap := all_places_ok F.toFr F.low_places F.all_places F.maxp (n + 2) (.tup (ps.map pr)) ps st (fun _ h => by cases h) (fun _ _ => rfl) I.len I.ne I.den I.sz I.k0.1 (by have := I.k0; omega) I.inc
  generalize hS1 : st ++ [.lst (ps.map fun p => frac (fq p))] ++ [.lst []] = S1 at hap
  have hS1g : S1[st.length]? = some (.lst (((rule ps ws).map (·.1)).map frac)) := by
    rw [← hS1, zip_fst (by simp [I.leq]), List.append_assoc]
    simp
  have haw := all_weights_ok F.toFr F.all_weights (n + 3) (.loc st.length) (.tup (ws.map pr)) (((rule ps ws).map (·.1)).map frac) ws S1 (fun _ h => by cases h) (fun _ _ => rfl)
    (fun s hs => seq_loc (by rw [hs _ (List.getElem?_eq_some_iff.mp hS1g).1]; exact hS1g)) (by simp [rule, I.leq]) I.dew I.szw I.k0.1 (by have := I.k0; omega) (by have := I.leq; omega)
  generalize hS2 : S1 ++ [.lst (ws.map fun p => frac (fq p))] = S2 at haw
  have hS2a : S2[st.length]? = some (.lst (((rule ps ws).map (·.1)).map frac)) := by
    rw [← hS2, List.getElem?_append_left (List.getElem?_eq_some_iff.mp hS1g).1]; exact hS1g
  have hS2b : S2[S1.length]? = some (.lst (((rule ps ws).map (·.2)).map frac)) := by
    rw [← hS2, zip_snd (by simp [I.leq])]
    simp
  have hcp := check_poly_ok F.check_polynomial F.maxc (n + 4) (.tup (poly.map .int)) (poly.map .int) S2 rfl (by simpa using I.pl)
  obtain ⟨acc, s', hcomp, hacc, hs'⟩ := ev_comp (E := evN t (n + 5)) (own := [8]) (t := .name 8) (it := .seq (.var 5)) (c := .none) (elt := .call "whole" (.cons false (.var 8) .nil))
    (lo := [some (.int lo), some (.int hi), some (.int parts), some (.tup (ps.map pr)), some (.tup (ws.map pr)), some (.tup (poly.map .int)), some (.loc st.length), some (.tup [.loc st.length, .loc S1.length]), none]) (st := S2) (st1 := S2) (w := wkTup (poly.map .int)) (n := poly.length)
    (fun j acc s => acc = (poly.take j).map (fun c : Int => frac (c : Rat)) ∧ s = S2) (by simp [wkSeq]) (by simp [wkTup]) ⟨by simp, rfl⟩
    (by
      rintro j acc s hj ⟨hacc, rfl⟩
      refine ⟨.int poly[j], by simp [wkTup, hj], .inl ⟨frac (poly[j] : Rat), s, ?_, ?_, ?_, rfl⟩⟩
      · have hw := whole_ok F.toFr (n + 4) poly[j] s
        simp [compB, wipeD, hw]
      · rw [hacc]; simp [szOk]; omega
      · rw [hacc, List.take_succ_eq_append_getElem hj, List.map_append]; rfl)
    (by rintro acc s ⟨_, rfl⟩; simp [wkTup])
  subst hs'
  have hacc' : acc = (poly.map fun c : Int => (c : Rat)).map frac := by rw [hacc, List.take_length]; simp
  have h3 : ∀ m x, s'[m]? = some x → (s' ++ [.lst acc] : Sto)[m]? = some x := fun m x hx => by rw [List.getElem?_append_left (List.getElem?_eq_some_iff.mp hx).1]; exact hx
  obtain ⟨more, hco⟩ := cut_of_ok F n lo hi parts st.length S1.length (.loc s'.length) (rule ps ws) (poly.map fun c : Int => (c : Rat)) (s' ++ [.lst acc]) (kx := k) (kw := k) (kc := kc) (by omega) (by omega) I.parts1 (h3 _ _ hS2a) (h3 _ _ hS2b)
    (fun s hs => seq_loc (by rw [hs _ (by simp), hacc']; simp)) (by omega) I.k0.2 hl hc (by simp; omega) (by rw [hlen, List.length_map]; omega)
  refine ⟨[.lst (ps.map fun p => frac (fq p))] ++ [.lst []] ++ [.lst (ws.map fun p => frac (fq p))] ++ [.lst acc] ++ more, ?_⟩
  have hst : st ++ ([.lst (ps.map fun p => frac (fq p))] ++ [.lst []] ++ [.lst (ws.map fun p => frac (fq p))] ++ [.lst acc] ++ more) = s' ++ [.lst acc] ++ more := by
    rw [← hS2, ← hS1]; simp
  rw [hst]
  simp only [Nat.add_assoc, Nat.reduceAdd] at hcut hap haw hcp
  have hgoal : exSs (evN t (n + 5)) f_cut_sum.body [some (.int lo), some (.int hi), some (.int parts), some (.tup (ps.map pr)), some (.tup (ws.map pr)), some (.tup (poly.map .int)), none, none, none] st = .rt (frac (CS lo hi parts ps ws poly)) (s' ++ [.lst acc] ++ more) := by
    simp only [f_cut_sum, CS, ss_cons, ss_nil, s_expr, s_asg, s_ret, e_call, a_cons, a_nil, e_var, e_tup, bind_ok, List.getElem?_cons_succ, List.getElem?_cons_zero, evN_cl, hcut, toFl_ok, hap, g_name, List.set, haw, List.length_cons, List.length_nil, Nat.zero_add, Nat.reduceAdd, sz2, if_true, hcp, hcomp, hco]
  exact congrArg flR hgoal
end fns
/-- the sum over the stretch, as cut_gap adds it -/
def due (lo hi : Int) (poly : List Int) : Nat → Rat
  | 0 => 0
  | i + 1 => due lo hi poly i + Rat.divInt (poly.getD i 0 * (hi ^ (i + 1) - lo ^ (i + 1))) (i + 1)
theorem pow_lt20 {b : Int} (h : b.natAbs ≤ 20) : ∀ k : Nat, (b ^ k).natAbs < 2 ^ (5 * k + 1)
  | 0 => by simp
  | k + 1 => by
    have ih := pow_lt20 h k
    rw [Int.pow_succ, Int.natAbs_mul]
    have e : 5 * (k + 1) + 1 = (5 * k + 1) + 5 := by omega
    rw [e]
    exact mul_lt ih (by have : (2 : Nat) ^ 5 = 32 := by decide
                        omega)
theorem term_lt {lo hi c : Int} {kc i : Nat} (h1 : lo.natAbs ≤ 20) (h2 : hi.natAbs ≤ 20) (hc : c.natAbs < 2 ^ kc) (hi13 : i < 13) : (hi ^ (i + 1) - lo ^ (i + 1)).natAbs < 2 ^ 67 ∧ (c * (hi ^ (i + 1) - lo ^ (i + 1))).natAbs < 2 ^ (kc + 67) := by
  have a := pow_lt20 h1 (i + 1)
  have b := pow_lt20 h2 (i + 1)
  have m : (2 : Nat) ^ (5 * (i + 1) + 1) ≤ 2 ^ 66 := Nat.pow_le_pow_right (by decide) (by omega)
  have d := Int.natAbs_sub_le (hi ^ (i + 1)) (lo ^ (i + 1))
  have e : (2 : Nat) ^ 67 = 2 ^ 66 + 2 ^ 66 := by decide
  have x : (hi ^ (i + 1) - lo ^ (i + 1)).natAbs < 2 ^ 67 := by rw [e]; omega
  refine ⟨x, ?_⟩
  rw [Int.natAbs_mul]
  exact mul_lt hc x
section gap
variable {t : Tx} (F : Cu t) {lo hi : Int} {parts : Nat} {ps ws : List (Int × Int)} {poly : List Int} {k kc : Nat} (I : CutIn lo hi parts ps ws poly k kc)
include I in
theorem due_bd : ∀ i : Nat, i ≤ poly.length → Bd (1 + i * (kc + 68)) (due lo hi poly i)
  | 0, _ => Bd.zero.mono (by simp)
  | i + 1, h => by
    have h1 := due_bd i (by omega)
    have i1 := I.lo1
    have i2 := I.hi1
    have i5 := I.pl
    have hc : (poly.getD i 0).natAbs < 2 ^ kc := by
      have hi' : i < poly.length := by omega
      have e : poly.getD i 0 = poly[i] := by simp [hi']
      rw [e]
      exact I.pc _ (List.getElem_mem hi')
    have ht := term_lt (kc := kc) (i := i) (lo := lo) (hi := hi) (by omega) (by omega) hc (by omega)
    have hd : ((i : Int) + 1).natAbs < 2 ^ (kc + 67) := by
      have : (2 : Nat) ^ 4 ≤ 2 ^ (kc + 67) := Nat.pow_le_pow_right (by decide) (by omega)
      have e : (2 : Nat) ^ 4 = 16 := by decide
      omega
    have h2 := Bd.add h1 (Bd.divInt ht.2 hd (by omega))
    refine h2.mono ?_
    rw [Nat.succ_mul]
    omega
include F I
theorem cut_gap_ok (n : Nat) (st : Sto) : ∃ more, callN t (n + 7) "cut_gap" [.int lo, .int hi, .int parts, .tup (ps.map pr), .tup (ws.map pr), .tup (poly.map .int)] st = .ok (frac (due lo hi poly poly.length - CS lo hi parts ps ws poly)) (st ++ more) := by
  rw [call_eq F.cut_gap _ _ st rfl]
  obtain ⟨more, hcs⟩ := cut_sum_ok F I n st
  have i1 := I.lo1
  have i2 := I.hi1
  have i5 := I.pl
  have hbig := I.big
  have hdmul : ∀ i : Nat, i ≤ poly.length → i * (kc + 68) ≤ poly.length * (kc + 67) + 13 := by
    intro i hi'
    have h1 : i * (kc + 68) ≤ poly.length * (kc + 68) := Nat.mul_le_mul_right _ hi'
    have h2 : poly.length * (kc + 68) = poly.length * (kc + 67) + poly.length := by rw [show kc + 68 = kc + 67 + 1 by omega, Nat.mul_add, Nat.mul_one]
    omega
  refine ⟨more, ?_⟩
  have key : exSs (evN t (n + 6)) f_cut_gap.body [some (.int lo), some (.int hi), some (.int parts), some (.tup (ps.map pr)), some (.tup (ws.map pr)), some (.tup (poly.map .int)), none, none, none, none] st = .rt (frac (due lo hi poly poly.length - CS lo hi parts ps ws poly)) (st ++ more) := by
    refine ss_nx (fun F => F = .rt (frac (due lo hi poly poly.length - CS lo hi parts ps ws poly)) (st ++ more)) (lo1 := [some (.int lo), some (.int hi), some (.int parts), some (.tup (ps.map pr)), some (.tup (ws.map pr)), some (.tup (poly.map .int)), some (frac (CS lo hi parts ps ws poly)), none, none, none]) (st1 := st ++ more) ?_ ?_
    · simp only [s_asg, e_call, a_cons, a_nil, e_var, bind_ok, List.getElem?_cons_succ, List.getElem?_cons_zero, evN_cl, hcs, toFl_ok, g_name, List.set]
    refine ss_nx (fun F => F = .rt (frac (due lo hi poly poly.length - CS lo hi parts ps ws poly)) (st ++ more)) (lo1 := [some (.int lo), some (.int hi), some (.int parts), some (.tup (ps.map pr)), some (.tup (ws.map pr)), some (.tup (poly.map .int)), some (frac (CS lo hi parts ps ws poly)), some (.tup [.int 0, .int 1]), none, none]) (st1 := st ++ more) ?_ ?_
    · simp [F.nothing]
    refine ss_for (fun F => F = .rt (frac (due lo hi poly poly.length - CS lo hi parts ps ws poly)) (st ++ more)) (n := poly.length) (fun i lo' s => s = st ++ more ∧ ∃ y z, lo' = [some (.int lo), some (.int hi), some (.int parts), some (.tup (ps.map pr)), some (.tup (ws.map pr)), some (.tup (poly.map .int)), some (frac (CS lo hi parts ps ws poly)), some (frac (due lo hi poly i)), y, z])
      (st1 := st ++ more) (w := wkEnum (wkTup (poly.map .int))) ?_ ?_ ⟨rfl, none, none, rfl⟩ ?_ ?_ ?_
    · simp [wkSeq]
    · simp [wkTup]
    · rintro i lo' s hi' ⟨rfl, y, z, rfl⟩
      refine ⟨.tup [.int i, .int poly[i]], by simp [wkTup, hi'], [some (.int lo), some (.int hi), some (.int parts), some (.tup (ps.map pr)), some (.tup (ws.map pr)), some (.tup (poly.map .int)), some (frac (CS lo hi parts ps ws poly)), some (frac (due lo hi poly (i + 1))), some (.int i), some (.int poly[i])], st ++ more, ?_, rfl, _, _, rfl⟩
      have e : poly.getD i 0 = poly[i] := by simp [hi']
      have hr1 := raised_ok F.raised (n + 5) hi (i + 1) (st ++ more) (by omega) (by omega) (by omega)
      have hr2 := raised_ok F.raised (n + 5) lo (i + 1) (st ++ more) (by omega) (by omega) (by omega)
      have hci := I.pc _ (List.getElem_mem hi')
      have ht := term_lt (kc := kc) (i := i) (lo := lo) (hi := hi) (by omega) (by omega) hci (by omega)
      have hd : ((i : Int) + 1).natAbs < 2 ^ (kc + 67) := by
        have : (2 : Nat) ^ 4 ≤ 2 ^ (kc + 67) := Nat.pow_le_pow_right (by decide) (by omega)
        have e : (2 : Nat) ^ 4 = 16 := by decide
        omega
      have hkc0 := I.kc0
      have hmul : (i + 1) * (kc + 67) ≤ poly.length * (kc + 67) := Nat.mul_le_mul_right _ (by omega)
      rw [Nat.succ_mul] at hmul
      have hdi := hdmul (i + 1) (by omega)
      rw [Nat.succ_mul] at hdi
      have hkb : kc + 68 ≤ 9000 := by omega
      have hm := mulOk_of hci ht.1 hkc0 (by decide) (by omega)
      have hlw := lowest_ok F.lowest F.w (n + 5) (poly[i] * (hi ^ (i + 1) - lo ^ (i + 1))) ((i : Int) + 1) (st ++ more) ht.2 hd (by omega) (by omega) (by omega)
      have hpl := plus_ok F.lowest F.w (n + 4) (st ++ more) F.plus (due_bd I i (by omega)) (Bd.divInt ht.2 hd (by omega)) (by omega)
      simp only [Nat.add_assoc, Nat.reduceAdd] at hr1 hr2 hlw hpl
      have ec : (i : Int) + 1 = ((i + 1 : Nat) : Int) := by omega
      simp only [due, e]
      simp only [forB, g_tup, g_name, gs_cons, gs_nil, tgLen, List.length_cons, List.length_nil, decide_true, if_true, List.set, ss_cons, ss_nil, s_asg, e_call, a_cons, a_nil, e_var, e_int, e_bin, bind_ok, List.getElem?_cons_succ, List.getElem?_cons_zero, evN_cl, binD, lift_some, toFl_ok]
      rw [ec] at hlw hpl ⊢
      simp only [hr1, hr2, bind_ok, lift_some, hm, if_true, hlw, hpl, toFl_ok]
    · rintro lo' s ⟨rfl, y, z, rfl⟩
      simp [wkTup]
    · rintro lo' s ⟨rfl, y, z, rfl⟩
      have hdi := hdmul poly.length (by omega)
      have hmi := minus_ok F.lowest F.w (n + 4) (st ++ more) F.minus (due_bd I poly.length (by omega)) I.csb (by omega)
      simp only [Nat.add_assoc, Nat.reduceAdd] at hmi
      simp only [ss_cons, ss_nil, s_ret, e_call, a_cons, a_nil, e_var, bind_ok, List.getElem?_cons_succ, List.getElem?_cons_zero, evN_cl, hmi, toFl_ok]
  exact congrArg flR key
end gap
end Fx
set_option autoImplicit false
namespace Fx
open Mi PySem
def g_taken : Df := ⟨2, 4, (.cons (.ifs (.val (.cmp .Gt (.idx (.var 0) (.con (.int 3))) (.con (.int 0)))) (.cons (.asg (.name 3) (.bin .Mod (.bi .int (.cons false (.idx (.var 0) (.con (.int 3))) .nil)) (.var 1))) (.cons (.asg (.sub (.var 0) (.con (.int 3))) (.bin .FloorDiv (.idx (.var 0) (.con (.int 3))) (.var 1))) (.cons (.ret (.var 3)) .nil))) .nil) (.cons (.asg (.sub (.var 0) (.con (.int 1))) (.bin .Add (.idx (.var 0) (.con (.int 1))) (.con (.int 1)))) (.cons (.ifs (.val (.cmp .Gt (.idx (.var 0) (.con (.int 1))) (.bi .len (.cons false (.idx (.var 0) (.con (.int 0))) .nil)))) (.cons (.asg (.sub (.var 0) (.con (.int 2))) (.bin .Mod (.bi .int (.cons false (.bin .Add (.bin .Mult (.idx (.var 0) (.con (.int 2))) (.con (.int 48271))) (.con (.int 11))) .nil)) (.con (.int 2147483647)))) (.cons (.ret (.bin .Mod (.bi .int (.cons false (.bin .FloorDiv (.idx (.var 0) (.con (.int 2))) (.con (.int 7))) .nil)) (.var 1))) .nil)) .nil) (.cons (.asg (.name 2) (.idx (.idx (.var 0) (.con (.int 0))) (.bin .Sub (.idx (.var 0) (.con (.int 1))) (.con (.int 1))))) (.cons (.asg (.sub (.var 0) (.con (.int 2))) (.bin .Mod (.bi .int (.cons false (.bin .Add (.bin .Add (.bin .Mult (.idx (.var 0) (.con (.int 2))) (.con (.int 48271))) (.var 2)) (.con (.int 11))) .nil)) (.con (.int 2147483647)))) (.cons (.ifs (.val (.cmp .GtE (.var 2) (.bin .Pow (.con (.int 10)) (.con (.int 18))))) (.cons (.asg (.sub (.var 0) (.con (.int 3))) (.bin .FloorDiv (.var 2) (.var 1))) .nil) .nil) (.cons (.ret (.bin .Mod (.bi .int (.cons false (.var 2) .nil)) (.var 1))) .nil)))))))⟩
def g_low : Df := ⟨2, 4, (.cons (.par 2 3 (.bi .abs (.cons false (.var 0) .nil)) (.bi .abs (.cons false (.var 1) .nil))) (.cons (.while_ (.val (.cmp .Gt (.var 3) (.con (.int 0)))) (.cons (.par 2 3 (.var 3) (.bin .Mod (.bi .int (.cons false (.var 2) .nil)) (.var 3))) .nil)) (.cons (.asg (.name 2) (.ife (.val (.cmp .Gt (.var 1) (.con (.int 0)))) (.var 2) (.bin .Sub (.con (.int 0)) (.var 2)))) (.cons (.ret (.tup (.cons false (.bin .FloorDiv (.var 0) (.var 2)) (.cons false (.bin .FloorDiv (.var 1) (.var 2)) .nil)))) .nil))))⟩
def g_add : Df := ⟨2, 2, (.cons (.ret (.call "_law_low" (.cons false (.bin .Add (.bin .Mult (.idx (.var 0) (.con (.int 0))) (.idx (.var 1) (.con (.int 1)))) (.bin .Mult (.idx (.var 1) (.con (.int 0))) (.idx (.var 0) (.con (.int 1))))) (.cons false (.bin .Mult (.idx (.var 0) (.con (.int 1))) (.idx (.var 1) (.con (.int 1)))) .nil)))) .nil)⟩
def g_times : Df := ⟨2, 2, (.cons (.ret (.call "_law_low" (.cons false (.bin .Mult (.idx (.var 0) (.con (.int 0))) (.idx (.var 1) (.con (.int 0)))) (.cons false (.bin .Mult (.idx (.var 0) (.con (.int 1))) (.idx (.var 1) (.con (.int 1)))) .nil)))) .nil)⟩
def g_worth : Df := ⟨2, 4, (.cons (.asg (.name 2) (.tup (.cons false (.con (.int 0)) (.cons false (.con (.int 1)) .nil)))) (.cons (.for_ (.name 3) (.rng (.cons false (.bin .Sub (.bi .len (.cons false (.var 0) .nil)) (.con (.int 1))) (.cons false (.bin .Sub (.con (.int 0)) (.con (.int 1))) (.cons false (.bin .Sub (.con (.int 0)) (.con (.int 1))) .nil)))) (.cons (.asg (.name 2) (.call "_law_add" (.cons false (.call "_law_times" (.cons false (.var 2) (.cons false (.var 1) .nil))) (.cons false (.idx (.var 0) (.var 3)) .nil)))) .nil)) (.cons (.ret (.var 2)) .nil)))⟩
/-- the row that a law draws from -/
def RowAt (st : Sto) (r : Nat) (ns : List Int) : Prop := ∃ (i : Nat) (s c : Int), st[r]? = some (.lst [.fz ns, .int i, .int s, .int c]) ∧ 0 ≤ s ∧ s < 2147483647
/-- nothing but the row is changed, new things may stand behind -/
structure Fm (r : Nat) (st st' : Sto) : Prop where
  len : st.length ≤ st'.length
  get : ∀ j, j < st.length → j ≠ r → st'[j]? = st[j]?
theorem Fm.refl (r : Nat) (st : Sto) : Fm r st st := ⟨Nat.le_refl _, fun _ _ _ => rfl⟩
theorem Fm.trans {r : Nat} {a b c : Sto} (h : Fm r a b) (h' : Fm r b c) : Fm r a c := ⟨Nat.le_trans h.len h'.len, fun j hj hr => by rw [h'.get j (Nat.lt_of_lt_of_le hj h.len) hr, h.get j hj hr]⟩
theorem Fm.app (r : Nat) (st more : Sto) : Fm r st (st ++ more) := ⟨by simp, fun j hj _ => by rw [List.getElem?_append_left hj]⟩
theorem Fm.set (r : Nat) (st : Sto) (c : Cell) : Fm r st (st.set r c) := ⟨by simp, fun j _ hr => by rw [List.getElem?_set_ne (Ne.symm hr)]⟩
theorem RowAt.app {st : Sto} {r : Nat} {ns : List Int} (h : RowAt st r ns) (more : Sto) : RowAt (st ++ more) r ns := by
  obtain ⟨i, s, c, h1, h2⟩ := h
  exact ⟨i, s, c, by rw [List.getElem?_append_left (List.getElem?_eq_some_iff.mp h1).1]; exact h1, h2⟩
theorem RowAt.lt {st : Sto} {r : Nat} {ns : List Int} (h : RowAt st r ns) : r < st.length := by
  obtain ⟨i, s, c, h1, h2⟩ := h
  exact (List.getElem?_eq_some_iff.mp h1).1
section row
variable {st : Sto} {r : Nat} {a b c d : D} (h : st[r]? = some (.lst [a, b, c, d]))
include h
theorem row0 : idxD (.loc r) (.int 0) st = some a := by simp only [idxD, seqOf, asL, h]; rfl
theorem row1 : idxD (.loc r) (.int 1) st = some b := by simp only [idxD, seqOf, asL, h]; rfl
theorem row2 : idxD (.loc r) (.int 2) st = some c := by simp only [idxD, seqOf, asL, h]; rfl
theorem row3 : idxD (.loc r) (.int 3) st = some d := by simp only [idxD, seqOf, asL, h]; rfl
theorem rset1 (x : D) : setI (.loc r) (.int 1) x st = some (st.set r (.lst [a, x, c, d])) := by simp only [setI, asM, h]; rfl
theorem rset2 (x : D) : setI (.loc r) (.int 2) x st = some (st.set r (.lst [a, b, x, d])) := by simp only [setI, asM, h]; rfl
theorem rset3 (x : D) : setI (.loc r) (.int 3) x st = some (st.set r (.lst [a, b, c, x])) := by simp only [setI, asM, h]; rfl
theorem rget (c' : Cell) : (st.set r c')[r]? = some c' := by rw [List.getElem?_set_self (List.getElem?_eq_some_iff.mp h).1]
end row
theorem b_add (i j : Int) (st : Sto) : binD .Add (.int i) (.int j) st = some (.int (i + j), st) := Eq.trans rfl rfl
theorem b_sub (i j : Int) (st : Sto) : binD .Sub (.int i) (.int j) st = some (.int (i - j), st) := Eq.trans rfl rfl
theorem b_mul {i j : Int} (h : mulOk i j = true) (st : Sto) : binD .Mult (.int i) (.int j) st = some (.int (i * j), st) := by simp only [binD, h, if_true]
theorem b_div {j : Int} (h : divOk j = true) (i : Int) (st : Sto) : binD .FloorDiv (.int i) (.int j) st = some (.int (i.fdiv j), st) := by simp only [binD, h, if_true]
theorem b_mod {j : Int} (h : j ≠ 0) (i : Int) (st : Sto) : binD .Mod (.int i) (.int j) st = some (.int (i.fmod j), st) := by
  have e : decide (j ≠ 0) = true := decide_eq_true h
  simp only [binD, e, if_true]
theorem b_1018 (st : Sto) : binD .Pow (.int 10) (.int 18) st = some (.int 1000000000000000000, st) := by
  have e : powOk 10 18 = true := by decide
  simp only [binD, e, if_true]; rfl
theorem p30 : (2 : Nat) ^ 30 = 1073741824 := by decide
theorem p31 : (2 : Nat) ^ 31 = 2147483648 := by decide
theorem taken_ok {t : Tx} (hT : t.T "_law_taken" = some g_taken) (n : Nat) (st : Sto) (r : Nat) (ns : List Int) (m : Int) (h : RowAt st r ns) (hm : 0 < m) (hm' : m < 1073741824) :
    ∃ v st', callN t (n + 1) "_law_taken" [.loc r, .int m] st = .ok (.int v) st' ∧ 0 ≤ v ∧ v < m ∧ RowAt st' r ns ∧ Fm r st st' ∧ st'.length = st.length := by
  obtain ⟨i, s, c, h1, hs0, hs1⟩ := h
  have hd : divOk m = true := divOk_of (b := 30) (by omega) (by have := p30; omega) (by decide) (by decide)
  have hm0 : ¬ (m = 0) := by omega
  have md : ∀ x : Int, 0 ≤ x.fmod m ∧ x.fmod m < m := fun x => ⟨Int.fmod_nonneg_of_pos x hm, Int.fmod_lt_of_pos x hm⟩
  rw [call_eq hT _ _ st rfl]
  by_cases hc : 0 < c
  · refine ⟨c.fmod m, st.set r (.lst [.fz ns, .int i, .int s, .int (c.fdiv m)]), ?_, (md c).1, (md c).2, ⟨i, s, c.fdiv m, rget h1 _, hs0, hs1⟩, Fm.set .., by simp⟩
    simp [g_taken, List.replicate, row3 h1, hc, binD, hm0, hd, rset3 h1]
  · have hmul : mulOk s 48271 = true := mulOk_of (a := 31) (b := 16) (by have := p31; omega) (by decide) (by decide) (by decide) (by decide)
    have q1 := rget h1 (.lst [.fz ns, .int ((i : Int) + 1), .int s, .int c])
    have hlen : biD .len [.fz ns] (st.set r (.lst [.fz ns, .int ((i : Int) + 1), .int s, .int c])) = some (.int ns.length, st.set r (.lst [.fz ns, .int ((i : Int) + 1), .int s, .int c])) := rfl
    have mb : ∀ x : Int, 0 ≤ x.fmod 2147483647 ∧ x.fmod 2147483647 < 2147483647 := fun x => ⟨Int.fmod_nonneg_of_pos x (by decide), Int.fmod_lt_of_pos x (by decide)⟩
    have hmx : (2147483647 : Int) ≠ 0 := by decide
    have d7 : divOk 7 = true := divOk_of (b := 4) (by decide) (by decide) (by decide) (by decide)
    by_cases hi : (ns.length : Int) < (i : Int) + 1
    · have q2 := rget q1 (.lst [.fz ns, .int ((i : Int) + 1), .int ((s * 48271 + 11).fmod 2147483647), .int c])
      refine ⟨((((s * 48271 + 11).fmod 2147483647).fdiv 7).fmod m), (st.set r (.lst [.fz ns, .int ((i : Int) + 1), .int s, .int c])).set r (.lst [.fz ns, .int ((i : Int) + 1), .int ((s * 48271 + 11).fmod 2147483647), .int c]), ?_, (md _).1, (md _).2, ⟨i + 1, _, c, by rw [q2]; rfl, (mb _).1, (mb _).2⟩, (Fm.set ..).trans (Fm.set ..), by simp⟩
      simp only [g_taken, List.map, List.replicate, List.cons_append, List.nil_append, ss_cons, ss_nil, s_ifs, s_asg, s_ret, g_sub, g_name, t_val, e_cmp, e_idx, e_var, e_int, e_bin, e_bi, a_cons, a_nil, bind_ok, toFl_ok, lift_some, List.set, List.getElem?_cons_succ, List.getElem?_cons_zero, row3 h1, row1 h1, Option.map_some, gt_int, ge_int, hc, decide_false, tru_bl, b_add, b_sub, b_mul hmul, b_mod hm0, b_mod hmx, b_div hd, b_div d7, b_1018, rset1 h1, row1 q1, row0 q1, row2 q1, hlen, hi, decide_true, if_true, bi_int, rset2 q1, row2 q2, flR_rt]
    · have hil : i < ns.length := by omega
      have hcell : idxD (.fz ns) (.int ((i : Int) + 1 - 1)) (st.set r (.lst [.fz ns, .int ((i : Int) + 1), .int s, .int c])) = some (.int ns[i]) := by
        have e : (i : Int) + 1 - 1 = ((i : Nat) : Int) := by omega
        rw [e]
        exact idx_seq (xs := ns.map .int) rfl (by simp [hil])
      generalize hz : ns[i] = z at hcell
      have q2 := rget q1 (.lst [.fz ns, .int ((i : Int) + 1), .int ((s * 48271 + z + 11).fmod 2147483647), .int c])
      by_cases hb : (1000000000000000000 : Int) ≤ z
      · have q3 := rget q2 (.lst [.fz ns, .int ((i : Int) + 1), .int ((s * 48271 + z + 11).fmod 2147483647), .int (z.fdiv m)])
        refine ⟨z.fmod m, _, ?_, (md _).1, (md _).2, ⟨i + 1, _, z.fdiv m, (by rw [q3]; rfl), (mb _).1, (mb _).2⟩, ((Fm.set ..).trans (Fm.set ..)).trans (Fm.set ..), by simp⟩
        simp only [g_taken, List.map, List.replicate, List.cons_append, List.nil_append, ss_cons, ss_nil, s_ifs, s_asg, s_ret, g_sub, g_name, t_val, e_cmp, e_idx, e_var, e_int, e_bin, e_bi, a_cons, a_nil, bind_ok, toFl_ok, lift_some, List.set, List.getElem?_cons_succ, List.getElem?_cons_zero, row3 h1, row1 h1, Option.map_some, gt_int, ge_int, hc, decide_false, tru_bl, b_add, b_sub, b_mul hmul, b_mod hm0, b_mod hmx, b_div hd, b_div d7, b_1018, rset1 h1, row1 q1, row0 q1, row2 q1, hlen, hi, decide_true, if_true, bi_int, rset2 q1, row2 q2, flR_rt, hcell, hb, rset3 q2]
      · refine ⟨z.fmod m, _, ?_, (md _).1, (md _).2, ⟨i + 1, _, c, (by rw [q2]; rfl), (mb _).1, (mb _).2⟩, (Fm.set ..).trans (Fm.set ..), by simp⟩
        simp only [g_taken, List.map, List.replicate, List.cons_append, List.nil_append, ss_cons, ss_nil, s_ifs, s_asg, s_ret, g_sub, g_name, t_val, e_cmp, e_idx, e_var, e_int, e_bin, e_bi, a_cons, a_nil, bind_ok, toFl_ok, lift_some, List.set, List.getElem?_cons_succ, List.getElem?_cons_zero, row3 h1, row1 h1, Option.map_some, gt_int, ge_int, hc, decide_false, tru_bl, b_add, b_sub, b_mul hmul, b_mod hm0, b_mod hmx, b_div hd, b_div d7, b_1018, rset1 h1, row1 q1, row0 q1, row2 q1, hlen, hi, decide_true, if_true, bi_int, rset2 q1, row2 q2, flR_rt, hcell, hb]
end Fx
set_option autoImplicit false
namespace Fx
open Mi PySem
def loC : Te := .val (.cmp .Gt (.var 3) (.con (.int 0)))
def loB : Sms := .cons (.par 2 3 (.var 3) (.bin .Mod (.bi .int (.cons false (.var 2) .nil)) (.var 3))) .nil
theorem eucl2 (E : Ev) (l0 l1 : Option D) (st : Sto) : ∀ (k : Nat) (x y : Int), 0 ≤ x → 0 ≤ y → y.natAbs < k → whileL (evT E loC) (exSs E loB) k [l0, l1, some (.int x), some (.int y)] st = .nx [l0, l1, some (.int (x.gcd y : Nat)), some (.int 0)] st
  | 0, x, y, _, _, h => by omega
  | k + 1, x, y, hx, hy0, h => by
    by_cases hy : y = 0
    · subst hy
      have e : ((x.gcd 0 : Nat) : Int) = x := by simp; omega
      rw [e]
      simp [whileL, loC, loB]
    · have hpos : 0 < y := by omega
      have h1 := eucl2 E l0 l1 st k y (x.fmod y) hy0 (Int.fmod_nonneg_of_pos x hpos) (by have := fmod_abs_lt x y hy; omega)
      rw [gcd_fmod] at h1
      rw [← h1]
      conv => lhs; unfold whileL
      simp only [loC, loB, t_val, e_cmp, e_var, e_int, bind_ok, List.getElem?_cons_succ, List.getElem?_cons_zero, gt_int, hpos, decide_true, Option.map_some, lift_some, tru_bl, ss_cons, ss_nil, s_par, e_bin, e_bi, a_cons, a_nil, bi_int, b_mod hy, toFl_ok, List.set]
theorem fdiv_exact {a g : Int} (hg : g ≠ 0) (h : g ∣ a) : a.fdiv g = a / g := by
  obtain ⟨q, rfl⟩ := h
  rw [Int.mul_fdiv_cancel_left _ hg, Int.mul_ediv_cancel_left _ hg]
theorem fdiv_exact_neg {a g : Int} (hg : g ≠ 0) (h : g ∣ a) : a.fdiv (0 - g) = -1 * a / g := by
  obtain ⟨q, rfl⟩ := h
  have e1 : g * q = (0 - g) * (-q) := by rw [Int.zero_sub, Int.neg_mul_neg]
  have e2 : -1 * (g * q) = g * (-q) := by rw [Int.mul_neg, Int.neg_mul, Int.one_mul]
  rw [e2, Int.mul_ediv_cancel_left _ hg, e1, Int.mul_fdiv_cancel_left _ (by omega)]
theorem lawlow_ok {t : Tx} (hT : t.T "_law_low" = some g_low) (hw : 2 ^ 9000 ≤ t.w) (n : Nat) (a b : Int) (st : Sto) {k : Nat} (ha : a.natAbs < 2 ^ k) (hb : b.natAbs < 2 ^ k) (hb0 : b ≠ 0) (hk : k ≤ 9000) (hk0 : 0 < k) :
    callN t (n + 1) "_law_low" [.int a, .int b] st = .ok (frac (Rat.divInt a b)) st := by
  have hbw : (b.natAbs : Int).natAbs < t.w := by rw [Int.natAbs_natCast]; exact Nat.lt_of_lt_of_le (Nat.lt_of_lt_of_le hb (Nat.pow_le_pow_right (by decide) hk)) hw
  have h1 := eucl2 (evN t n) (some (.int a)) (some (.int b)) st t.w (a.natAbs : Int) (b.natAbs : Int) (by omega) (by omega) hbw
  have eg : ((a.natAbs : Int)).gcd (b.natAbs : Int) = a.gcd b := by simp [Int.gcd]
  rw [eg] at h1
  have hg0 : 0 < a.gcd b := Nat.pos_of_ne_zero (by intro h; exact hb0 (Int.eq_zero_of_gcd_eq_zero_right h))
  have hgb : a.gcd b ≤ b.natAbs := Nat.le_of_dvd (by omega) (by rw [Int.gcd_comm]; exact Int.gcd_dvd_natAbs_left b a)
  have hgk : a.gcd b < 2 ^ k := by omega
  have aa : (if a < 0 then -a else a) = (a.natAbs : Int) := by split <;> omega
  have ab : (if b < 0 then -b else b) = (b.natAbs : Int) := by split <;> omega
  have hd : divOk ((a.gcd b : Nat) : Int) = true := divOk_of (b := k) (by omega) (by rw [Int.natAbs_natCast]; exact hgk) hk0 hk
  have hd' : divOk (0 - ((a.gcd b : Nat) : Int)) = true := divOk_of (b := k) (by omega) (by omega) hk0 hk
  have hnum : (Rat.divInt a b).num = b.sign * a / b.gcd a := Rat.num_divInt a b
  have hden : (Rat.divInt a b).den = b.natAbs / b.gcd a := by rw [Rat.den_divInt, if_neg hb0]
  have hgc : b.gcd a = a.gcd b := Int.gcd_comm ..
  have da : ((a.gcd b : Nat) : Int) ∣ a := Int.gcd_dvd_left ..
  have db : ((a.gcd b : Nat) : Int) ∣ b := Int.gcd_dvd_right ..
  have hden' : ((b.natAbs / a.gcd b : Nat) : Int) = (b.natAbs : Int) / ((a.gcd b : Nat) : Int) := Int.natCast_ediv ..
  clear hbw hw
  rw [call_eq hT n _ st rfl]
  simp only [loC, loB] at h1
  rw [hgc] at hnum hden
  have hdenI : ((Rat.divInt a b).den : Int) = (b.natAbs : Int) / ((a.gcd b : Nat) : Int) := by rw [hden, hden']
  clear hden hden'
  generalize ((a.gcd b : Nat) : Int) = g at *
  have hgz : g ≠ 0 := by
    intro h
    rw [h] at hd
    exact absurd hd (by decide)
  rcases Int.lt_or_gt_of_ne hb0 with hneg | hpos
  · rw [sign_neg hneg] at hnum
    have hn : ¬ (0 < b) := by omega
    have e1 : a.fdiv (0 - g) = (Rat.divInt a b).num := by
      rw [hnum]
      exact fdiv_exact_neg hgz da
    have e2 : b.fdiv (0 - g) = ((Rat.divInt a b).den : Int) := by
      rw [hdenI, fdiv_exact_neg hgz db]
      congr 1
      omega
    simp only [g_low, List.map, List.replicate, List.cons_append, List.nil_append, ss_cons, ss_nil, s_par, s_while, s_asg, s_ret, e_bi, a_cons, a_nil, e_var, e_int, e_ife, e_tup, e_bin, t_val, e_cmp, bind_ok, toFl_ok, lift_some, bi_abs, aa, ab, List.set, List.getElem?_cons_succ, List.getElem?_cons_zero, h1, gt_int, hn, decide_false, Option.map_some, tru_bl, b_sub, g_name, b_div hd', e1, e2, List.length_cons, List.length_nil, Nat.zero_add, Nat.reduceAdd, sz2, if_true, flR_rt]
  · rw [sign_pos hpos] at hnum
    have e1 : a.fdiv g = (Rat.divInt a b).num := by
      rw [hnum, fdiv_exact hgz da, Int.one_mul]
    have e2 : b.fdiv g = ((Rat.divInt a b).den : Int) := by
      rw [hdenI, fdiv_exact hgz db]
      congr 1
      omega
    simp only [g_low, List.map, List.replicate, List.cons_append, List.nil_append, ss_cons, ss_nil, s_par, s_while, s_asg, s_ret, e_bi, a_cons, a_nil, e_var, e_int, e_ife, e_tup, e_bin, t_val, e_cmp, bind_ok, toFl_ok, lift_some, bi_abs, aa, ab, List.set, List.getElem?_cons_succ, List.getElem?_cons_zero, h1, gt_int, hpos, decide_true, Option.map_some, tru_bl, b_sub, g_name, b_div hd, e1, e2, List.length_cons, List.length_nil, Nat.zero_add, Nat.reduceAdd, sz2, if_true, flR_rt]
/-- a pair as it comes -/
structure Rw (k : Nat) (p : Int × Int) : Prop where
  a : p.1.natAbs < 2 ^ k
  b : p.2.natAbs < 2 ^ k
  nz : p.2 ≠ 0
theorem Bd.rw {k : Nat} {q : Rat} (h : Bd k q) : Rw k (q.num, (q.den : Int)) := ⟨h.num, by rw [Int.natAbs_natCast]; exact h.den, by have := q.den_nz; show (q.den : Int) ≠ 0; omega⟩
theorem Rw.pos {k : Nat} {p : Int × Int} (h : Rw k p) : 0 < k := by
  rcases Nat.eq_zero_or_pos k with h0 | h0
  · subst h0
    have := h.b
    have := h.nz
    omega
  · exact h0
theorem Rw.bd {k : Nat} {p : Int × Int} (h : Rw k p) : Bd k (fq p) := Bd.divInt h.a h.b h.nz
theorem fq_frac (q : Rat) : fq (q.num, (q.den : Int)) = q := Rat.num_divInt_den q
section lawfns
variable {t : Tx} (hw : 2 ^ 9000 ≤ t.w) (hL : t.T "_law_low" = some g_low)
include hw hL
theorem lawadd_raw (hA : t.T "_law_add" = some g_add) (n : Nat) (p q : Int × Int) (st : Sto) {j k : Nat} (hp : Rw j p) (hq : Rw k q) (h : j + k + 1 ≤ 9000) : callN t (n + 2) "_law_add" [pr p, pr q] st = .ok (frac (fq p + fq q)) st := by
  have a := hp.pos
  have b := hq.pos
  have m1 : mulOk p.1 q.2 = true := mulOk_of hp.a hq.b a b (by omega)
  have m2 : mulOk q.1 p.2 = true := mulOk_of hq.a hp.b b a (by omega)
  have m3 : mulOk p.2 q.2 = true := mulOk_of hp.b hq.b a b (by omega)
  have s1 : (p.1 * q.2 + q.1 * p.2).natAbs < 2 ^ (j + k + 1) := by
    have h1 : (p.1 * q.2).natAbs < 2 ^ (j + k) := by rw [Int.natAbs_mul]; exact mul_lt hp.a hq.b
    have h2 : (q.1 * p.2).natAbs < 2 ^ (j + k) := by rw [Int.natAbs_mul, Nat.add_comm j k]; exact mul_lt hq.a hp.b
    have h3 := Int.natAbs_add_le (p.1 * q.2) (q.1 * p.2)
    rw [Nat.pow_succ]; omega
  have s2 : (p.2 * q.2).natAbs < 2 ^ (j + k + 1) := by
    rw [Int.natAbs_mul]
    exact Nat.lt_of_lt_of_le (mul_lt hp.b hq.b) (Nat.pow_le_pow_right (by decide) (by omega))
  have hl := lawlow_ok hL hw n (p.1 * q.2 + q.1 * p.2) (p.2 * q.2) st s1 s2 (Int.mul_ne_zero hp.nz hq.nz) h (by omega)
  have e : fq p + fq q = Rat.divInt (p.1 * q.2 + q.1 * p.2) (p.2 * q.2) := Rat.divInt_add_divInt _ _ hp.nz hq.nz
  rw [call_eq hA _ _ st rfl, e]
  simp only [g_add, List.map, List.replicate, List.cons_append, List.nil_append, ss_cons, ss_nil, s_ret, e_call, a_cons, a_nil, e_bin, e_idx, e_var, e_int, bind_ok, List.getElem?_cons_succ, List.getElem?_cons_zero, idx0, idx1, Option.map_some, lift_some, b_mul m1, b_mul m2, b_mul m3, b_add, evN_cl, hl, toFl_ok, flR_rt]
theorem lawtimes_raw (hA : t.T "_law_times" = some g_times) (n : Nat) (p q : Int × Int) (st : Sto) {j k : Nat} (hp : Rw j p) (hq : Rw k q) (h : j + k ≤ 9000) : callN t (n + 2) "_law_times" [pr p, pr q] st = .ok (frac (fq p * fq q)) st := by
  have a := hp.pos
  have b := hq.pos
  have m1 : mulOk p.1 q.1 = true := mulOk_of hp.a hq.a a b (by omega)
  have m3 : mulOk p.2 q.2 = true := mulOk_of hp.b hq.b a b (by omega)
  have s1 : (p.1 * q.1).natAbs < 2 ^ (j + k) := by rw [Int.natAbs_mul]; exact mul_lt hp.a hq.a
  have s2 : (p.2 * q.2).natAbs < 2 ^ (j + k) := by rw [Int.natAbs_mul]; exact mul_lt hp.b hq.b
  have hl := lawlow_ok hL hw n (p.1 * q.1) (p.2 * q.2) st s1 s2 (Int.mul_ne_zero hp.nz hq.nz) h (by omega)
  have e : fq p * fq q = Rat.divInt (p.1 * q.1) (p.2 * q.2) := Rat.divInt_mul_divInt _ _
  rw [call_eq hA _ _ st rfl, e]
  simp only [g_times, List.map, List.replicate, List.cons_append, List.nil_append, ss_cons, ss_nil, s_ret, e_call, a_cons, a_nil, e_bin, e_idx, e_var, e_int, bind_ok, List.getElem?_cons_succ, List.getElem?_cons_zero, idx0, idx1, Option.map_some, lift_some, b_mul m1, b_mul m3, evN_cl, hl, toFl_ok, flR_rt]
theorem lawadd_ok (hA : t.T "_law_add" = some g_add) (n : Nat) (p q : Rat) (st : Sto) {j k : Nat} (hp : Bd j p) (hq : Bd k q) (h : j + k + 1 ≤ 9000) : callN t (n + 2) "_law_add" [frac p, frac q] st = .ok (frac (p + q)) st := by
  have := lawadd_raw hw hL hA n _ _ st hp.rw hq.rw h
  rw [fq_frac, fq_frac] at this
  exact this
theorem lawtimes_ok (hA : t.T "_law_times" = some g_times) (n : Nat) (p q : Rat) (st : Sto) {j k : Nat} (hp : Bd j p) (hq : Bd k q) (h : j + k ≤ 9000) : callN t (n + 2) "_law_times" [frac p, frac q] st = .ok (frac (p * q)) st := by
  have := lawtimes_raw hw hL hA n _ _ st hp.rw hq.rw h
  rw [fq_frac, fq_frac] at this
  exact this
theorem lawworth_ok (hA : t.T "_law_add" = some g_add) (hM : t.T "_law_times" = some g_times) (hW : t.T "_law_worth" = some g_worth) (n : Nat) (st : Sto) {d : D} {cs : List Rat} {x : Rat} {kx kc : Nat} (hd : seqOf st d = some (cs.map frac)) (hl : cs.length < 1000000) (hx : Bd kx x) (hc : ∀ c ∈ cs, Bd kc c) (hk : cs.length * (kx + kc + 1) + 1 ≤ 9000) :
    callN t (n + 3) "_law_worth" [d, frac x] st = .ok (frac (hor cs x)) st := by
  rw [call_eq hW _ _ st rfl]
  have hlen := len_seq hd
  simp only [List.length_map] at hlen
  have hb1 : bigOk ((cs.length : Int) - 1) = true := by simp only [bigOk, Bool.and_eq_true, decide_eq_true_eq]; omega
  have hb2 : bigOk (0 - 1) = true := by decide
  have hrng : wkRange [.int ((cs.length : Int) - 1), .int (0 - 1), .int (0 - 1)] = some (wkDown ((cs.length : Int) - 1) cs.length) := by
    have e : ((cs.length : Int) - 1 - -1).toNat = cs.length := by omega
    have e0 : (0 - 1 : Int) = -1 := by decide
    rw [e0] at hb2 ⊢
    simp only [wkRange, hb1, hb2, Bool.and_self, if_true, e]
  have key : exSs (evN t (n + 2)) g_worth.body [some d, some (frac x), none, none] st = .rt (frac (hor cs x)) st := by
    refine ss_nx (fun F => F = .rt (frac (hor cs x)) st) (lo1 := [some d, some (frac x), some (.tup [.int 0, .int 1]), none]) (st1 := st) ?_ ?_
    · simp
    refine ss_for (fun F => F = .rt (frac (hor cs x)) st) (n := cs.length) (fun i lo s => s = st ∧ ∃ y, lo = [some d, some (frac x), some (frac (hor (cs.drop (cs.length - i)) x)), y]) (st1 := st) (w := wkDown ((cs.length : Int) - 1) cs.length) ?_ rfl ⟨rfl, none, by simp [hor]⟩ ?_ ?_ ?_
    · simp only [i_rng, a_cons, a_nil, e_bin, e_bi, e_var, e_int, bind_ok, List.getElem?_cons_succ, List.getElem?_cons_zero, hlen, lift_some, b_sub, hrng, Option.map_some]
    · rintro i lo s hi ⟨rfl, y, rfl⟩
      have hj : cs.length - 1 - i < cs.length := by omega
      refine ⟨.int ((cs.length : Int) - 1 - i), by simp [wkDown, hi], [some d, some (frac x), some (frac (hor (cs.drop (cs.length - (i + 1))) x)), some (.int ((cs.length : Int) - 1 - i))], s, ?_, rfl, _, rfl⟩
      have hidx : idxD d (.int ((cs.length : Int) - 1 - i)) s = some (frac cs[cs.length - 1 - i]) := by
        have e : (cs.length : Int) - 1 - i = ((cs.length - 1 - i : Nat) : Int) := by omega
        rw [e]
        exact idx_seq hd (by simp [hj])
      have hdrop : cs.drop (cs.length - (i + 1)) = cs[cs.length - 1 - i] :: cs.drop (cs.length - i) := by
        have e1 : cs.length - (i + 1) = cs.length - 1 - i := by omega
        have e2 : cs.length - i = cs.length - 1 - i + 1 := by omega
        rw [e1, e2, List.drop_eq_getElem_cons hj]
      have hbr : Bd ((cs.drop (cs.length - i)).length * (kx + kc + 1) + 1) (hor (cs.drop (cs.length - i)) x) := hor_bd hx fun c hc' => hc c (List.mem_of_mem_drop hc')
      have hlen' : (cs.drop (cs.length - i)).length = i := by simp; omega
      rw [hlen'] at hbr
      have hmul : (i + 1) * (kx + kc + 1) ≤ cs.length * (kx + kc + 1) := Nat.mul_le_mul_right _ (by omega)
      rw [Nat.succ_mul] at hmul
      have ht := lawtimes_ok hw hL hM n _ _ s hbr hx (by omega)
      have hp := lawadd_ok hw hL hA n _ _ s (Bd.mul hbr hx) (hc cs[cs.length - 1 - i] (List.getElem_mem hj)) (by omega)
      have hh : hor (cs.drop (cs.length - (i + 1))) x = hor (cs.drop (cs.length - i)) x * x + cs[cs.length - 1 - i] := by rw [hdrop]; simp only [hor, List.foldr_cons]
      rw [hh]
      simp only [forB, g_name, List.set, ss_cons, ss_nil, s_asg, e_call, a_cons, a_nil, e_var, e_idx, bind_ok, List.getElem?_cons_succ, List.getElem?_cons_zero, evN_cl, ht, hidx, Option.map_some, lift_some, hp, toFl_ok]
    · rintro lo s ⟨rfl, y, rfl⟩; simp [wkDown]
    · rintro lo s ⟨rfl, y, rfl⟩; simp
  exact congrArg flR key
end lawfns
end Fx
set_option maxHeartbeats 0
namespace K35
open PySem PySem.Spec PyProof.Rows L2 Mi
def top (i : Nat) : Stmt := PySem.Challenge.pw_fewreadings_k35_cuts_of_stretches.main.body.getD i (.Pass ⟨0, 0, 0, 0⟩)
def f_lowest : Df := ⟨2, 5, (.cons (.par 3 4 (.var 0) (.var 1)) (.cons (.while_ (.val (.cmp .NotEq (.var 4) (.con (.int 0)))) (.cons (.par 3 4 (.var 4) (.bin .Mod (.bi .int (.cons false (.var 3) .nil)) (.var 4))) .nil)) (.cons (.asg (.name 2) (.ife (.val (.cmp .Gt (.var 1) (.con (.int 0)))) (.con (.int 1)) (.neg (.con (.int 1))))) (.cons (.ret (.tup (.cons false (.bin .FloorDiv (.bin .Mult (.var 2) (.var 0)) (.bi .abs (.cons false (.var 3) .nil))) (.cons false (.bin .FloorDiv (.bin .Mult (.var 2) (.var 1)) (.bi .abs (.cons false (.var 3) .nil))) .nil)))) .nil))))⟩
def f_whole : Df := ⟨1, 1, (.cons (.ret (.tup (.cons false (.var 0) (.cons false (.con (.int 1)) .nil)))) .nil)⟩
def f_plus : Df := ⟨2, 2, (.cons (.ret (.call "lowest" (.cons false (.bin .Add (.bin .Mult (.idx (.var 0) (.con (.int 0))) (.idx (.var 1) (.con (.int 1)))) (.bin .Mult (.idx (.var 1) (.con (.int 0))) (.idx (.var 0) (.con (.int 1))))) (.cons false (.bin .Mult (.idx (.var 0) (.con (.int 1))) (.idx (.var 1) (.con (.int 1)))) .nil)))) .nil)⟩
def f_minus : Df := ⟨2, 2, (.cons (.ret (.call "lowest" (.cons false (.bin .Sub (.bin .Mult (.idx (.var 0) (.con (.int 0))) (.idx (.var 1) (.con (.int 1)))) (.bin .Mult (.idx (.var 1) (.con (.int 0))) (.idx (.var 0) (.con (.int 1))))) (.cons false (.bin .Mult (.idx (.var 0) (.con (.int 1))) (.idx (.var 1) (.con (.int 1)))) .nil)))) .nil)⟩
def f_times : Df := ⟨2, 2, (.cons (.ret (.call "lowest" (.cons false (.bin .Mult (.idx (.var 0) (.con (.int 0))) (.idx (.var 1) (.con (.int 0)))) (.cons false (.bin .Mult (.idx (.var 0) (.con (.int 1))) (.idx (.var 1) (.con (.int 1)))) .nil)))) .nil)⟩
def f_is_less : Df := ⟨2, 2, (.cons (.ret (.cmp .Lt (.bin .Mult (.idx (.var 0) (.con (.int 0))) (.idx (.var 1) (.con (.int 1)))) (.bin .Mult (.idx (.var 1) (.con (.int 0))) (.idx (.var 0) (.con (.int 1)))))) .nil)⟩
def f_raised : Df := ⟨2, 4, (.cons (.asg (.name 2) (.con (.int 1))) (.cons (.for_ (.name 3) (.rng (.cons false (.var 1) .nil)) (.cons (.aug 2 .Mult (.var 0)) .nil)) (.cons (.ret (.var 2)) .nil)))⟩
def f_worth : Df := ⟨2, 4, (.cons (.asg (.name 2) (.glob "NOTHING")) (.cons (.for_ (.name 3) (.rng (.cons false (.bi .len (.cons false (.var 0) .nil)) .nil)) (.cons (.asg (.name 2) (.call "plus" (.cons false (.call "times" (.cons false (.var 2) (.cons false (.var 1) .nil))) (.cons false (.idx (.var 0) (.bin .Sub (.bin .Sub (.bi .len (.cons false (.var 0) .nil)) (.con (.int 1))) (.var 3))) .nil)))) .nil)) (.cons (.ret (.var 2)) .nil)))⟩
def f_is_number : Df := ⟨3, 3, (.cons (.ret (.and (.bi .isi (.cons false (.var 0) (.cons false (.ty "int") .nil))) (.and (.not (.bi .isi (.cons false (.var 0) (.cons false (.ty "bool") .nil)))) (.chain .LtE .LtE (.var 1) (.var 0) (.var 2))))) .nil)⟩
def f_check_number : Df := ⟨3, 3, (.cons (.ifs (.not (.val (.call "is_number" (.cons false (.var 0) (.cons false (.var 1) (.cons false (.var 2) .nil)))))) (.cons (.raise_ "raise" .nil) .nil) .nil) .nil)⟩
def f_check_polynomial : Df := ⟨1, 1, (.cons (.ifs (.val (.cmp .Gt (.bi .len (.cons false (.var 0) .nil)) (.glob "MAX_COEFFICIENTS"))) (.cons (.raise_ "raise" .nil) .nil) .nil) .nil)⟩
def f_low_places : Df := ⟨2, 5, (.cons (.asg (.name 2) (.lst .nil)) (.cons (.for_ (.tup (.cons (.name 3) (.cons (.name 4) .nil))) (.enum (.var 0)) (.cons (.ifs (.or (.val (.cmp .Eq (.var 3) (.var 1))) (.val (.cmp .Eq (.idx (.var 4) (.con (.int 1))) (.con (.int 0))))) (.cons (.raise_ "raise" .nil) .nil) .nil) (.cons (.expr (.bm .append (.var 2) (.cons false (.call "lowest" (.cons false (.idx (.var 4) (.con (.int 0))) (.cons false (.idx (.var 4) (.con (.int 1))) .nil))) .nil))) (.cons (.ifs (.and (.val (.cmp .Gt (.var 3) (.con (.int 0)))) (.not (.val (.call "is_less" (.cons false (.idx (.var 2) (.bin .Sub (.var 3) (.con (.int 1)))) (.cons false (.idx (.var 2) (.var 3)) .nil)))))) (.cons (.raise_ "raise" .nil) .nil) .nil) .nil)))) (.cons (.ret (.var 2)) .nil)))⟩
def f_all_places : Df := ⟨1, 2, (.cons (.asg (.name 1) (.call "low_places" (.cons false (.var 0) (.cons false (.glob "MAX_PLACES") .nil)))) (.cons (.ifs (.val (.cmp .Eq (.var 1) (.lst .nil))) (.cons (.raise_ "raise" .nil) .nil) .nil) (.cons (.ret (.var 1)) .nil)))⟩
def f_all_weights : Df := ⟨2, 5, (.cons (.asg (.name 2) (.lst .nil)) (.cons (.for_ (.tup (.cons (.name 3) (.cons (.name 4) .nil))) (.enum (.var 1)) (.cons (.ifs (.or (.val (.cmp .Eq (.var 3) (.bi .len (.cons false (.var 0) .nil)))) (.val (.cmp .Eq (.idx (.var 4) (.con (.int 1))) (.con (.int 0))))) (.cons (.raise_ "raise" .nil) .nil) .nil) (.cons (.expr (.bm .append (.var 2) (.cons false (.call "lowest" (.cons false (.idx (.var 4) (.con (.int 0))) (.cons false (.idx (.var 4) (.con (.int 1))) .nil))) .nil))) .nil))) (.cons (.ifs (.val (.cmp .Lt (.bi .len (.cons false (.var 2) .nil)) (.bi .len (.cons false (.var 0) .nil)))) (.cons (.raise_ "raise" .nil) .nil) .nil) (.cons (.ret (.var 2)) .nil))))⟩
def f_read_by : Df := ⟨3, 6, (.cons (.asg (.name 3) (.glob "NOTHING")) (.cons (.for_ (.tup (.cons (.name 4) (.cons (.name 5) .nil))) (.zip (.var 0) (.var 1)) (.cons (.asg (.name 3) (.call "plus" (.cons false (.var 3) (.cons false (.call "times" (.cons false (.var 5) (.cons false (.call "worth" (.cons false (.var 2) (.cons false (.var 4) .nil))) .nil))) .nil)))) .nil)) (.cons (.ret (.var 3)) .nil)))⟩
def f_check_cut : Df := ⟨3, 3, (.cons (.expr (.call "check_number" (.cons false (.var 0) (.cons false (.bin .Sub (.con (.int 0)) (.glob "FAR")) (.cons false (.glob "FAR") .nil))))) (.cons (.expr (.call "check_number" (.cons false (.var 1) (.cons false (.bin .Sub (.con (.int 0)) (.glob "FAR")) (.cons false (.glob "FAR") .nil))))) (.cons (.ifs (.val (.cmp .LtE (.var 1) (.var 0))) (.cons (.raise_ "raise" .nil) .nil) .nil) (.cons (.expr (.call "check_number" (.cons false (.var 2) (.cons false (.con (.int 1)) (.cons false (.glob "MAX_PARTS") .nil))))) .nil))))⟩
def f_cut_of : Df := ⟨5, 11, (.cons (.asg (.tup (.cons (.name 6) (.cons (.name 7) .nil))) (.tup (.cons false (.call "lowest" (.cons false (.bin .Sub (.var 1) (.var 0)) (.cons false (.bin .Mult (.con (.int 2)) (.var 2)) .nil))) (.cons false (.glob "NOTHING") .nil)))) (.cons (.for_ (.name 5) (.rng (.cons false (.var 2) .nil)) (.cons (.asg (.name 8) (.call "plus" (.cons false (.call "whole" (.cons false (.var 0) .nil)) (.cons false (.call "times" (.cons false (.var 6) (.cons false (.call "whole" (.cons false (.bin .Add (.bin .Mult (.con (.int 2)) (.var 5)) (.con (.int 1))) .nil)) .nil))) .nil)))) (.cons (.asg (.name 9) (.comp [10] (.name 10) (.seq (.idx (.var 3) (.con (.int 0)))) .none (.call "plus" (.cons false (.var 8) (.cons false (.call "times" (.cons false (.var 6) (.cons false (.var 10) .nil))) .nil))))) (.cons (.asg (.name 7) (.call "plus" (.cons false (.var 7) (.cons false (.call "times" (.cons false (.var 6) (.cons false (.call "read_by" (.cons false (.var 9) (.cons false (.idx (.var 3) (.con (.int 1))) (.cons false (.var 4) .nil)))) .nil))) .nil)))) .nil)))) (.cons (.ret (.var 7)) .nil)))⟩
def f_cut_sum : Df := ⟨6, 9, (.cons (.expr (.call "check_cut" (.cons false (.var 0) (.cons false (.var 1) (.cons false (.var 2) .nil))))) (.cons (.asg (.name 6) (.call "all_places" (.cons false (.var 3) .nil))) (.cons (.asg (.name 7) (.tup (.cons false (.var 6) (.cons false (.call "all_weights" (.cons false (.var 6) (.cons false (.var 4) .nil))) .nil)))) (.cons (.expr (.call "check_polynomial" (.cons false (.var 5) .nil))) (.cons (.ret (.call "cut_of" (.cons false (.var 0) (.cons false (.var 1) (.cons false (.var 2) (.cons false (.var 7) (.cons false (.comp [8] (.name 8) (.seq (.var 5)) .none (.call "whole" (.cons false (.var 8) .nil))) .nil))))))) .nil)))))⟩
def f_cut_gap : Df := ⟨6, 10, (.cons (.asg (.name 6) (.call "cut_sum" (.cons false (.var 0) (.cons false (.var 1) (.cons false (.var 2) (.cons false (.var 3) (.cons false (.var 4) (.cons false (.var 5) .nil)))))))) (.cons (.asg (.name 7) (.glob "NOTHING")) (.cons (.for_ (.tup (.cons (.name 8) (.cons (.name 9) .nil))) (.enum (.var 5)) (.cons (.asg (.name 7) (.call "plus" (.cons false (.var 7) (.cons false (.call "lowest" (.cons false (.bin .Mult (.var 9) (.bin .Sub (.call "raised" (.cons false (.var 1) (.cons false (.bin .Add (.var 8) (.con (.int 1))) .nil))) (.call "raised" (.cons false (.var 0) (.cons false (.bin .Add (.var 8) (.con (.int 1))) .nil))))) (.cons false (.bin .Add (.var 8) (.con (.int 1))) .nil))) .nil)))) .nil)) (.cons (.ret (.call "minus" (.cons false (.var 7) (.cons false (.var 6) .nil)))) .nil))))⟩
def f__law_taken : Df := ⟨2, 4, (.cons (.ifs (.val (.cmp .Gt (.idx (.var 0) (.con (.int 3))) (.con (.int 0)))) (.cons (.asg (.name 3) (.bin .Mod (.bi .int (.cons false (.idx (.var 0) (.con (.int 3))) .nil)) (.var 1))) (.cons (.asg (.sub (.var 0) (.con (.int 3))) (.bin .FloorDiv (.idx (.var 0) (.con (.int 3))) (.var 1))) (.cons (.ret (.var 3)) .nil))) .nil) (.cons (.asg (.sub (.var 0) (.con (.int 1))) (.bin .Add (.idx (.var 0) (.con (.int 1))) (.con (.int 1)))) (.cons (.ifs (.val (.cmp .Gt (.idx (.var 0) (.con (.int 1))) (.bi .len (.cons false (.idx (.var 0) (.con (.int 0))) .nil)))) (.cons (.asg (.sub (.var 0) (.con (.int 2))) (.bin .Mod (.bi .int (.cons false (.bin .Add (.bin .Mult (.idx (.var 0) (.con (.int 2))) (.con (.int 48271))) (.con (.int 11))) .nil)) (.con (.int 2147483647)))) (.cons (.ret (.bin .Mod (.bi .int (.cons false (.bin .FloorDiv (.idx (.var 0) (.con (.int 2))) (.con (.int 7))) .nil)) (.var 1))) .nil)) .nil) (.cons (.asg (.name 2) (.idx (.idx (.var 0) (.con (.int 0))) (.bin .Sub (.idx (.var 0) (.con (.int 1))) (.con (.int 1))))) (.cons (.asg (.sub (.var 0) (.con (.int 2))) (.bin .Mod (.bi .int (.cons false (.bin .Add (.bin .Add (.bin .Mult (.idx (.var 0) (.con (.int 2))) (.con (.int 48271))) (.var 2)) (.con (.int 11))) .nil)) (.con (.int 2147483647)))) (.cons (.ifs (.val (.cmp .GtE (.var 2) (.bin .Pow (.con (.int 10)) (.con (.int 18))))) (.cons (.asg (.sub (.var 0) (.con (.int 3))) (.bin .FloorDiv (.var 2) (.var 1))) .nil) .nil) (.cons (.ret (.bin .Mod (.bi .int (.cons false (.var 2) .nil)) (.var 1))) .nil)))))))⟩
def f__law_low : Df := ⟨2, 4, (.cons (.par 2 3 (.bi .abs (.cons false (.var 0) .nil)) (.bi .abs (.cons false (.var 1) .nil))) (.cons (.while_ (.val (.cmp .Gt (.var 3) (.con (.int 0)))) (.cons (.par 2 3 (.var 3) (.bin .Mod (.bi .int (.cons false (.var 2) .nil)) (.var 3))) .nil)) (.cons (.asg (.name 2) (.ife (.val (.cmp .Gt (.var 1) (.con (.int 0)))) (.var 2) (.bin .Sub (.con (.int 0)) (.var 2)))) (.cons (.ret (.tup (.cons false (.bin .FloorDiv (.var 0) (.var 2)) (.cons false (.bin .FloorDiv (.var 1) (.var 2)) .nil)))) .nil))))⟩
def f__law_add : Df := ⟨2, 2, (.cons (.ret (.call "_law_low" (.cons false (.bin .Add (.bin .Mult (.idx (.var 0) (.con (.int 0))) (.idx (.var 1) (.con (.int 1)))) (.bin .Mult (.idx (.var 1) (.con (.int 0))) (.idx (.var 0) (.con (.int 1))))) (.cons false (.bin .Mult (.idx (.var 0) (.con (.int 1))) (.idx (.var 1) (.con (.int 1)))) .nil)))) .nil)⟩
def f__law_times : Df := ⟨2, 2, (.cons (.ret (.call "_law_low" (.cons false (.bin .Mult (.idx (.var 0) (.con (.int 0))) (.idx (.var 1) (.con (.int 0)))) (.cons false (.bin .Mult (.idx (.var 0) (.con (.int 1))) (.idx (.var 1) (.con (.int 1)))) .nil)))) .nil)⟩
def f__law_places : Df := ⟨2, 7, (.cons (.par3 3 4 5 (.lst .nil) (.bin .Add (.con (.int 1)) (.call "_law_taken" (.cons false (.var 0) (.cons false (.con (.int 3)) .nil)))) (.bin .Sub (.call "_law_taken" (.cons false (.var 0) (.cons false (.con (.int 7)) .nil))) (.con (.int 9)))) (.cons (.for_ (.name 2) (.rng (.cons false (.bin .Add (.con (.int 1)) (.call "_law_taken" (.cons false (.var 0) (.cons false (.var 1) .nil)))) .nil)) (.cons (.asg (.name 5) (.bin .Add (.bin .Add (.var 5) (.con (.int 1))) (.call "_law_taken" (.cons false (.var 0) (.cons false (.con (.int 4)) .nil))))) (.cons (.asg (.name 6) (.idx (.lst (.cons false (.con (.int 1)) (.cons false (.con (.int 1)) (.cons false (.con (.int 2)) (.cons false (.bin .Sub (.con (.int 0)) (.con (.int 1))) .nil))))) (.call "_law_taken" (.cons false (.var 0) (.cons false (.con (.int 4)) .nil))))) (.cons (.expr (.bm .append (.var 3) (.cons false (.tup (.cons false (.bin .Mult (.var 5) (.var 6)) (.cons false (.bin .Mult (.var 4) (.var 6)) .nil))) .nil))) .nil)))) (.cons (.ret (.bi .tuple (.cons false (.var 3) .nil))) .nil)))⟩
def f__law_worth : Df := ⟨2, 4, (.cons (.asg (.name 2) (.tup (.cons false (.con (.int 0)) (.cons false (.con (.int 1)) .nil)))) (.cons (.for_ (.name 3) (.rng (.cons false (.bin .Sub (.bi .len (.cons false (.var 0) .nil)) (.con (.int 1))) (.cons false (.bin .Sub (.con (.int 0)) (.con (.int 1))) (.cons false (.bin .Sub (.con (.int 0)) (.con (.int 1))) .nil)))) (.cons (.asg (.name 2) (.call "_law_add" (.cons false (.call "_law_times" (.cons false (.var 2) (.cons false (.var 1) .nil))) (.cons false (.idx (.var 0) (.var 3)) .nil)))) .nil)) (.cons (.ret (.var 2)) .nil)))⟩
def f__law_fractions : Df := ⟨2, 3, (.cons (.ret (.bi .tuple (.cons false (.comp [2] (.name 2) (.rng (.cons false (.var 1) .nil)) .none (.tup (.cons false (.bin .Sub (.call "_law_taken" (.cons false (.var 0) (.cons false (.con (.int 41)) .nil))) (.con (.int 20))) (.cons false (.idx (.lst (.cons false (.con (.int 1)) (.cons false (.con (.int 1)) (.cons false (.con (.int 2)) (.cons false (.con (.int 6)) (.cons false (.bin .Sub (.con (.int 0)) (.con (.int 4))) .nil)))))) (.call "_law_taken" (.cons false (.var 0) (.cons false (.con (.int 5)) .nil)))) .nil)))) .nil))) .nil)⟩
def f_law : Df := ⟨1, 19, (.cons (.asg (.name 1) (.lst (.cons false (.var 0) (.cons false (.con (.int 0)) (.cons false (.con (.int 0)) (.cons false (.con (.int 0)) .nil)))))) (.cons (.for_ (.name 2) (.rng (.cons false (.con (.int 3)) .nil)) (.cons (.asg (.name 3) (.bin .Sub (.call "_law_taken" (.cons false (.var 1) (.cons false (.con (.int 30)) .nil))) (.con (.int 20)))) (.cons (.par 10 11 (.bin .Add (.bin .Add (.var 3) (.con (.int 1))) (.call "_law_taken" (.cons false (.var 1) (.cons false (.bin .Sub (.con (.int 20)) (.var 3)) .nil)))) (.bin .Add (.con (.int 1)) (.call "_law_taken" (.cons false (.var 1) (.cons false (.con (.int 12)) .nil))))) (.cons (.asg (.name 4) (.call "_law_places" (.cons false (.var 1) (.cons false (.con (.int 3)) .nil)))) (.cons (.asg (.name 5) (.call "_law_fractions" (.cons false (.var 1) (.cons false (.bi .len (.cons false (.var 4) .nil)) .nil)))) (.cons (.asg (.name 6) (.bi .tuple (.cons false (.comp [16] (.name 16) (.rng (.cons false (.call "_law_taken" (.cons false (.var 1) (.cons false (.con (.int 6)) .nil))) .nil)) .none (.bin .Sub (.call "_law_taken" (.cons false (.var 1) (.cons false (.con (.int 19)) .nil))) (.con (.int 9)))) .nil))) (.cons (.par3 12 13 14 (.comp [18] (.name 18) (.seq (.var 6)) .none (.tup (.cons false (.var 18) (.cons false (.con (.int 1)) .nil)))) (.tup (.cons false (.con (.int 0)) (.cons false (.con (.int 1)) .nil))) (.call "_law_low" (.cons false (.bin .Sub (.var 10) (.var 3)) (.cons false (.bin .Mult (.con (.int 2)) (.var 11)) .nil)))) (.cons (.for_ (.name 7) (.rng (.cons false (.var 11) .nil)) (.cons (.asg (.name 15) (.call "_law_low" (.cons false (.bin .Add (.bin .Mult (.bin .Mult (.con (.int 2)) (.var 3)) (.var 11)) (.bin .Mult (.bin .Add (.bin .Mult (.con (.int 2)) (.var 7)) (.con (.int 1))) (.bin .Sub (.var 10) (.var 3)))) (.cons false (.bin .Mult (.con (.int 2)) (.var 11)) .nil)))) (.cons (.for_ (.name 16) (.rng (.cons false (.bi .len (.cons false (.var 4) .nil)) .nil)) (.cons (.asg (.name 17) (.call "_law_add" (.cons false (.var 15) (.cons false (.call "_law_times" (.cons false (.var 14) (.cons false (.idx (.var 4) (.var 16)) .nil))) .nil)))) (.cons (.asg (.name 18) (.call "_law_times" (.cons false (.call "_law_times" (.cons false (.idx (.var 5) (.var 16)) (.cons false (.var 14) .nil))) (.cons false (.call "_law_worth" (.cons false (.var 12) (.cons false (.var 17) .nil))) .nil)))) (.cons (.asg (.name 13) (.call "_law_add" (.cons false (.var 13) (.cons false (.var 18) .nil)))) .nil)))) .nil))) (.cons (.ifs (.val (.cmp .NotEq (.call "cut_sum" (.cons false (.var 3) (.cons false (.var 10) (.cons false (.var 11) (.cons false (.var 4) (.cons false (.var 5) (.cons false (.var 6) .nil))))))) (.var 13))) (.cons (.ret (.con (.bool false))) .nil) .nil) (.cons (.asg (.name 8) (.bin .Add (.lst (.cons false (.tup (.cons false (.con (.int 0)) (.cons false (.con (.int 1)) .nil))) .nil)) (.comp [16] (.name 16) (.rng (.cons false (.bi .len (.cons false (.var 6) .nil)) .nil)) .none (.call "_law_low" (.cons false (.idx (.var 6) (.var 16)) (.cons false (.bin .Add (.var 16) (.con (.int 1))) .nil)))))) (.cons (.asg (.name 9) (.call "_law_add" (.cons false (.call "_law_worth" (.cons false (.var 8) (.cons false (.tup (.cons false (.var 10) (.cons false (.con (.int 1)) .nil))) .nil))) (.cons false (.call "_law_times" (.cons false (.tup (.cons false (.bin .Sub (.con (.int 0)) (.con (.int 1))) (.cons false (.con (.int 1)) .nil))) (.cons false (.call "_law_worth" (.cons false (.var 8) (.cons false (.tup (.cons false (.var 3) (.cons false (.con (.int 1)) .nil))) .nil))) .nil))) .nil)))) (.cons (.asg (.name 9) (.call "_law_add" (.cons false (.var 9) (.cons false (.tup (.cons false (.bin .Sub (.con (.int 0)) (.idx (.var 13) (.con (.int 0)))) (.cons false (.idx (.var 13) (.con (.int 1))) .nil))) .nil)))) (.cons (.ifs (.val (.cmp .NotEq (.call "cut_gap" (.cons false (.var 3) (.cons false (.var 10) (.cons false (.var 11) (.cons false (.var 4) (.cons false (.var 5) (.cons false (.var 6) .nil))))))) (.var 9))) (.cons (.ret (.con (.bool false))) .nil) .nil) .nil))))))))))))) (.cons (.ret (.cmp .Eq (.call "cut_gap" (.cons false (.bin .Sub (.con (.int 0)) (.con (.int 20))) (.cons false (.con (.int 20)) (.cons false (.con (.int 12)) (.cons false (.tup (.cons false (.tup (.cons false (.bin .Sub (.con (.int 0)) (.con (.int 1))) (.cons false (.con (.int 1)) .nil))) (.cons false (.tup (.cons false (.con (.int 1)) (.cons false (.con (.int 1)) .nil))) .nil))) (.cons false (.tup (.cons false (.tup (.cons false (.con (.int 1)) (.cons false (.con (.int 1)) .nil))) (.cons false (.tup (.cons false (.con (.int 1)) (.cons false (.con (.int 1)) .nil))) .nil))) (.cons false (.tup (.cons false (.con (.int 5)) (.cons false (.con (.int 3)) .nil))) .nil))))))) (.tup (.cons false (.con (.int 0)) (.cons false (.con (.int 1)) .nil))))) .nil)))⟩
def ents : List Ent := [
  ⟨"lowest", top 8, ["top", "bottom", "sign", "one", "other"], ["top", "bottom"], f_lowest⟩,
  ⟨"whole", top 9, ["number"], ["number"], f_whole⟩,
  ⟨"plus", top 10, ["one", "other"], ["one", "other"], f_plus⟩,
  ⟨"minus", top 11, ["one", "other"], ["one", "other"], f_minus⟩,
  ⟨"times", top 12, ["one", "other"], ["one", "other"], f_times⟩,
  ⟨"is_less", top 13, ["one", "other"], ["one", "other"], f_is_less⟩,
  ⟨"raised", top 14, ["base", "count", "found", "turn"], ["base", "count"], f_raised⟩,
  ⟨"worth", top 15, ["polynomial", "place", "found", "turn"], ["polynomial", "place"], f_worth⟩,
  ⟨"is_number", top 19, ["value", "smallest", "largest"], ["value", "smallest", "largest"], f_is_number⟩,
  ⟨"check_number", top 20, ["value", "smallest", "largest"], ["value", "smallest", "largest"], f_check_number⟩,
  ⟨"check_polynomial", top 21, ["polynomial"], ["polynomial"], f_check_polynomial⟩,
  ⟨"low_places", top 24, ["places", "most", "found", "index", "place"], ["places", "most"], f_low_places⟩,
  ⟨"all_places", top 25, ["places", "found"], ["places"], f_all_places⟩,
  ⟨"all_weights", top 26, ["places", "weights", "found", "index", "weight"], ["places", "weights"], f_all_weights⟩,
  ⟨"read_by", top 27, ["places", "weights", "polynomial", "found", "place", "weight"], ["places", "weights", "polynomial"], f_read_by⟩,
  ⟨"check_cut", top 30, ["low", "high", "parts"], ["low", "high", "parts"], f_check_cut⟩,
  ⟨"cut_of", top 31, ["low", "high", "parts", "rule", "polynomial", "part", "half", "found", "middle", "places", "place"], ["low", "high", "parts", "rule", "polynomial"], f_cut_of⟩,
  ⟨"cut_sum", top 32, ["low", "high", "parts", "places", "weights", "polynomial", "spots", "rule", "one"], ["low", "high", "parts", "places", "weights", "polynomial"], f_cut_sum⟩,
  ⟨"cut_gap", top 33, ["low", "high", "parts", "places", "weights", "polynomial", "found", "due", "index", "one"], ["low", "high", "parts", "places", "weights", "polynomial"], f_cut_gap⟩,
  ⟨"_law_taken", top 35, ["_law_row", "_law_many", "_law_cell", "_law_found"], ["_law_row", "_law_many"], f__law_taken⟩,
  ⟨"_law_low", top 36, ["_law_top", "_law_bottom", "_law_one", "_law_other"], ["_law_top", "_law_bottom"], f__law_low⟩,
  ⟨"_law_add", top 37, ["_law_one", "_law_other"], ["_law_one", "_law_other"], f__law_add⟩,
  ⟨"_law_times", top 38, ["_law_one", "_law_other"], ["_law_one", "_law_other"], f__law_times⟩,
  ⟨"_law_places", top 39, ["_law_row", "_law_most", "_law_k", "_law_found", "_law_bottom", "_law_spot", "_law_scale"], ["_law_row", "_law_most"], f__law_places⟩,
  ⟨"_law_worth", top 40, ["_law_polynomial", "_law_place", "_law_found", "_law_k"], ["_law_polynomial", "_law_place"], f__law_worth⟩,
  ⟨"_law_fractions", top 41, ["_law_row", "_law_count", "_law_k"], ["_law_row", "_law_count"], f__law_fractions⟩,
  ⟨"law", top 42, ["_law_script", "_law_row", "_law_turn", "_law_low_here", "_law_places_here", "_law_weights", "_law_polynomial", "_law_part", "_law_entire", "_law_due", "_law_high", "_law_parts", "_law_some", "_law_summed", "_law_half", "_law_middle", "_law_k", "_law_place", "_law_one"], ["_law_script"], f_law⟩]
def cons : List (Str × Gc) := [("NOTHING", .tup [0, 1]), ("FAR", .int 20), ("MAX_COEFFICIENTS", .int 13), ("MAX_PLACES", .int 6), ("MAX_PARTS", .int 12)]
abbrev tx : Tx := mkTx ents cons (fun _ => none) (2 ^ 9000)
theorem ok_lowest : DefOk tx "lowest" "lowest" (top 8) ["top", "bottom", "sign", "one", "other"] ["top", "bottom"] f_lowest := ⟨⟨rfl, rfl, rfl, by decide +kernel, rfl, by decide +kernel, by decide +kernel⟩, rfl, rfl, (fun _ _ _ _ _ _ us hl => match us, hl with | [_, _], _ => rfl), fun P w K mg base W n cdv A outer s H XKE fa g => (xss_cons (xs_par g (xe_var 0) (xe_var 1)) (xss_cons (xs_while g (xt_cmp g (xe_var 4) xe_int) (xss_cons (xs_par g (xe_var 4) (xe_bin g (xe_bi g (xa_cons (xe_var 3) xa_nil)) (xe_var 4))) xss_nil)) (xss_cons (xs_asg (xe_ife (xt_cmp g (xe_var 1) xe_int) xe_int (xe_neg xe_int)) (xg_name g 2)) (xss_cons (xs_ret (xe_tup (xa_cons (xe_bin g (xe_bin g (xe_var 2) (xe_var 0)) (xe_bi g (xa_cons (xe_var 3) xa_nil))) (xa_cons (xe_bin g (xe_bin g (xe_var 2) (xe_var 1)) (xe_bi g (xa_cons (xe_var 3) xa_nil))) xa_nil)))) xss_nil))))⟩
theorem ok_whole : DefOk tx "whole" "whole" (top 9) ["number"] ["number"] f_whole := ⟨⟨rfl, rfl, rfl, by decide +kernel, rfl, by decide +kernel, by decide +kernel⟩, rfl, rfl, (fun _ _ _ _ _ _ us hl => match us, hl with | [_], _ => rfl), fun P w K mg base W n cdv A outer s H XKE fa g => (xss_cons (xs_ret (xe_tup (xa_cons (xe_var 0) (xa_cons xe_int xa_nil)))) xss_nil)⟩
theorem ok_plus : DefOk tx "plus" "plus" (top 10) ["one", "other"] ["one", "other"] f_plus := ⟨⟨rfl, rfl, rfl, by decide +kernel, rfl, by decide +kernel, by decide +kernel⟩, rfl, rfl, (fun _ _ _ _ _ _ us hl => match us, hl with | [_, _], _ => rfl), fun P w K mg base W n cdv A outer s H XKE fa g => (xss_cons (xs_ret (xe_call g (xa_cons (xe_bin g (xe_bin g (xe_idx g (xe_var 0) xe_int) (xe_idx g (xe_var 1) xe_int)) (xe_bin g (xe_idx g (xe_var 1) xe_int) (xe_idx g (xe_var 0) xe_int))) (xa_cons (xe_bin g (xe_idx g (xe_var 0) xe_int) (xe_idx g (xe_var 1) xe_int)) xa_nil)))) xss_nil)⟩
theorem ok_minus : DefOk tx "minus" "minus" (top 11) ["one", "other"] ["one", "other"] f_minus := ⟨⟨rfl, rfl, rfl, by decide +kernel, rfl, by decide +kernel, by decide +kernel⟩, rfl, rfl, (fun _ _ _ _ _ _ us hl => match us, hl with | [_, _], _ => rfl), fun P w K mg base W n cdv A outer s H XKE fa g => (xss_cons (xs_ret (xe_call g (xa_cons (xe_bin g (xe_bin g (xe_idx g (xe_var 0) xe_int) (xe_idx g (xe_var 1) xe_int)) (xe_bin g (xe_idx g (xe_var 1) xe_int) (xe_idx g (xe_var 0) xe_int))) (xa_cons (xe_bin g (xe_idx g (xe_var 0) xe_int) (xe_idx g (xe_var 1) xe_int)) xa_nil)))) xss_nil)⟩
theorem ok_times : DefOk tx "times" "times" (top 12) ["one", "other"] ["one", "other"] f_times := ⟨⟨rfl, rfl, rfl, by decide +kernel, rfl, by decide +kernel, by decide +kernel⟩, rfl, rfl, (fun _ _ _ _ _ _ us hl => match us, hl with | [_, _], _ => rfl), fun P w K mg base W n cdv A outer s H XKE fa g => (xss_cons (xs_ret (xe_call g (xa_cons (xe_bin g (xe_idx g (xe_var 0) xe_int) (xe_idx g (xe_var 1) xe_int)) (xa_cons (xe_bin g (xe_idx g (xe_var 0) xe_int) (xe_idx g (xe_var 1) xe_int)) xa_nil)))) xss_nil)⟩
theorem ok_is_less : DefOk tx "is_less" "is_less" (top 13) ["one", "other"] ["one", "other"] f_is_less := ⟨⟨rfl, rfl, rfl, by decide +kernel, rfl, by decide +kernel, by decide +kernel⟩, rfl, rfl, (fun _ _ _ _ _ _ us hl => match us, hl with | [_, _], _ => rfl), fun P w K mg base W n cdv A outer s H XKE fa g => (xss_cons (xs_ret (xe_cmp g (xe_bin g (xe_idx g (xe_var 0) xe_int) (xe_idx g (xe_var 1) xe_int)) (xe_bin g (xe_idx g (xe_var 1) xe_int) (xe_idx g (xe_var 0) xe_int)))) xss_nil)⟩
theorem ok_raised : DefOk tx "raised" "raised" (top 14) ["base", "count", "found", "turn"] ["base", "count"] f_raised := ⟨⟨rfl, rfl, rfl, by decide +kernel, rfl, by decide +kernel, by decide +kernel⟩, rfl, rfl, (fun _ _ _ _ _ _ us hl => match us, hl with | [_, _], _ => rfl), fun P w K mg base W n cdv A outer s H XKE fa g => (xss_cons (xs_asg xe_int (xg_name g 2)) (xss_cons (xs_for g (xi_rng1 g (xe_var 1)) (xg_name g 3) (xss_cons (xs_aug g (xe_var 0)) xss_nil)) (xss_cons (xs_ret (xe_var 2)) xss_nil)))⟩
theorem ok_worth : DefOk tx "worth" "worth" (top 15) ["polynomial", "place", "found", "turn"] ["polynomial", "place"] f_worth := ⟨⟨rfl, rfl, rfl, by decide +kernel, rfl, by decide +kernel, by decide +kernel⟩, rfl, rfl, (fun _ _ _ _ _ _ us hl => match us, hl with | [_, _], _ => rfl), fun P w K mg base W n cdv A outer s H XKE fa g => (xss_cons (xs_asg (xe_glob g) (xg_name g 2)) (xss_cons (xs_for g (xi_rng1 g (xe_bi g (xa_cons (xe_var 0) xa_nil))) (xg_name g 3) (xss_cons (xs_asg (xe_call g (xa_cons (xe_call g (xa_cons (xe_var 2) (xa_cons (xe_var 1) xa_nil))) (xa_cons (xe_idx g (xe_var 0) (xe_bin g (xe_bin g (xe_bi g (xa_cons (xe_var 0) xa_nil)) xe_int) (xe_var 3))) xa_nil))) (xg_name g 2)) xss_nil)) (xss_cons (xs_ret (xe_var 2)) xss_nil)))⟩
theorem ok_is_number : DefOk tx "is_number" "is_number" (top 19) ["value", "smallest", "largest"] ["value", "smallest", "largest"] f_is_number := ⟨⟨rfl, rfl, rfl, by decide +kernel, rfl, by decide +kernel, by decide +kernel⟩, rfl, rfl, (fun _ _ _ _ _ _ us hl => match us, hl with | [_, _, _], _ => rfl), fun P w K mg base W n cdv A outer s H XKE fa g => (xss_cons (xs_ret (xe_and (xe_bi g (xa_cons (xe_var 0) (xa_cons (xe_ty g) xa_nil))) (xe_and (xe_not (xe_bi g (xa_cons (xe_var 0) (xa_cons (xe_ty g) xa_nil)))) (xe_one (xe_chain g (xe_var 1) (xe_var 0) (xe_var 2)))))) xss_nil)⟩
theorem ok_check_number : DefOk tx "check_number" "check_number" (top 20) ["value", "smallest", "largest"] ["value", "smallest", "largest"] f_check_number := ⟨⟨rfl, rfl, rfl, by decide +kernel, rfl, by decide +kernel, by decide +kernel⟩, rfl, rfl, (fun _ _ _ _ _ _ us hl => match us, hl with | [_, _, _], _ => rfl), fun P w K mg base W n cdv A outer s H XKE fa g => (xss_cons (xs_if (xt_not (xt_val g (xe_call g (xa_cons (xe_var 0) (xa_cons (xe_var 1) (xa_cons (xe_var 2) xa_nil)))))) (xss_cons xs_never xss_nil) xss_nil) xss_nil)⟩
theorem ok_check_polynomial : DefOk tx "check_polynomial" "check_polynomial" (top 21) ["polynomial"] ["polynomial"] f_check_polynomial := ⟨⟨rfl, rfl, rfl, by decide +kernel, rfl, by decide +kernel, by decide +kernel⟩, rfl, rfl, (fun _ _ _ _ _ _ us hl => match us, hl with | [_], _ => rfl), fun P w K mg base W n cdv A outer s H XKE fa g => (xss_cons (xs_if (xt_cmp g (xe_bi g (xa_cons (xe_var 0) xa_nil)) (xe_glob g)) (xss_cons xs_never xss_nil) xss_nil) xss_nil)⟩
theorem ok_low_places : DefOk tx "low_places" "low_places" (top 24) ["places", "most", "found", "index", "place"] ["places", "most"] f_low_places := ⟨⟨rfl, rfl, rfl, by decide +kernel, rfl, by decide +kernel, by decide +kernel⟩, rfl, rfl, (fun _ _ _ _ _ _ us hl => match us, hl with | [_, _], _ => rfl), fun P w K mg base W n cdv A outer s H XKE fa g => (xss_cons (xs_asg (xe_lst xa_nil) (xg_name g 2)) (xss_cons (xs_for g (xi_enum g (xe_var 0)) (xg_tup g (xgs_cons (xg_name g 3) (xgs_cons (xg_name g 4) xgs_nil))) (xss_cons (xs_if (xt_w (xw_or (xt_cmp g (xe_var 3) (xe_var 1)) (xw_or1 (xt_cmp g (xe_idx g (xe_var 4) xe_int) xe_int)))) (xss_cons xs_never xss_nil) xss_nil) (xss_cons (xs_expr (xe_append g (xe_var 2) (xa_cons (xe_call g (xa_cons (xe_idx g (xe_var 4) xe_int) (xa_cons (xe_idx g (xe_var 4) xe_int) xa_nil))) xa_nil))) (xss_cons (xs_if (xt_w (xw_and (xt_cmp g (xe_var 3) xe_int) (xw_and1 (xt_not (xt_val g (xe_call g (xa_cons (xe_idx g (xe_var 2) (xe_bin g (xe_var 3) xe_int)) (xa_cons (xe_idx g (xe_var 2) (xe_var 3)) xa_nil)))))))) (xss_cons xs_never xss_nil) xss_nil) xss_nil)))) (xss_cons (xs_ret (xe_var 2)) xss_nil)))⟩
theorem ok_all_places : DefOk tx "all_places" "all_places" (top 25) ["places", "found"] ["places"] f_all_places := ⟨⟨rfl, rfl, rfl, by decide +kernel, rfl, by decide +kernel, by decide +kernel⟩, rfl, rfl, (fun _ _ _ _ _ _ us hl => match us, hl with | [_], _ => rfl), fun P w K mg base W n cdv A outer s H XKE fa g => (xss_cons (xs_asg (xe_call g (xa_cons (xe_var 0) (xa_cons (xe_glob g) xa_nil))) (xg_name g 1)) (xss_cons (xs_if (xt_cmp g (xe_var 1) (xe_lst xa_nil)) (xss_cons xs_never xss_nil) xss_nil) (xss_cons (xs_ret (xe_var 1)) xss_nil)))⟩
theorem ok_all_weights : DefOk tx "all_weights" "all_weights" (top 26) ["places", "weights", "found", "index", "weight"] ["places", "weights"] f_all_weights := ⟨⟨rfl, rfl, rfl, by decide +kernel, rfl, by decide +kernel, by decide +kernel⟩, rfl, rfl, (fun _ _ _ _ _ _ us hl => match us, hl with | [_, _], _ => rfl), fun P w K mg base W n cdv A outer s H XKE fa g => (xss_cons (xs_asg (xe_lst xa_nil) (xg_name g 2)) (xss_cons (xs_for g (xi_enum g (xe_var 1)) (xg_tup g (xgs_cons (xg_name g 3) (xgs_cons (xg_name g 4) xgs_nil))) (xss_cons (xs_if (xt_w (xw_or (xt_cmp g (xe_var 3) (xe_bi g (xa_cons (xe_var 0) xa_nil))) (xw_or1 (xt_cmp g (xe_idx g (xe_var 4) xe_int) xe_int)))) (xss_cons xs_never xss_nil) xss_nil) (xss_cons (xs_expr (xe_append g (xe_var 2) (xa_cons (xe_call g (xa_cons (xe_idx g (xe_var 4) xe_int) (xa_cons (xe_idx g (xe_var 4) xe_int) xa_nil))) xa_nil))) xss_nil))) (xss_cons (xs_if (xt_cmp g (xe_bi g (xa_cons (xe_var 2) xa_nil)) (xe_bi g (xa_cons (xe_var 0) xa_nil))) (xss_cons xs_never xss_nil) xss_nil) (xss_cons (xs_ret (xe_var 2)) xss_nil))))⟩
theorem ok_read_by : DefOk tx "read_by" "read_by" (top 27) ["places", "weights", "polynomial", "found", "place", "weight"] ["places", "weights", "polynomial"] f_read_by := ⟨⟨rfl, rfl, rfl, by decide +kernel, rfl, by decide +kernel, by decide +kernel⟩, rfl, rfl, (fun _ _ _ _ _ _ us hl => match us, hl with | [_, _, _], _ => rfl), fun P w K mg base W n cdv A outer s H XKE fa g => (xss_cons (xs_asg (xe_glob g) (xg_name g 3)) (xss_cons (xs_for g (xi_zip g (xe_var 0) (xe_var 1)) (xg_tup g (xgs_cons (xg_name g 4) (xgs_cons (xg_name g 5) xgs_nil))) (xss_cons (xs_asg (xe_call g (xa_cons (xe_var 3) (xa_cons (xe_call g (xa_cons (xe_var 5) (xa_cons (xe_call g (xa_cons (xe_var 2) (xa_cons (xe_var 4) xa_nil))) xa_nil))) xa_nil))) (xg_name g 3)) xss_nil)) (xss_cons (xs_ret (xe_var 3)) xss_nil)))⟩
theorem ok_check_cut : DefOk tx "check_cut" "check_cut" (top 30) ["low", "high", "parts"] ["low", "high", "parts"] f_check_cut := ⟨⟨rfl, rfl, rfl, by decide +kernel, rfl, by decide +kernel, by decide +kernel⟩, rfl, rfl, (fun _ _ _ _ _ _ us hl => match us, hl with | [_, _, _], _ => rfl), fun P w K mg base W n cdv A outer s H XKE fa g => (xss_cons (xs_expr (xe_call g (xa_cons (xe_var 0) (xa_cons (xe_bin g xe_int (xe_glob g)) (xa_cons (xe_glob g) xa_nil))))) (xss_cons (xs_expr (xe_call g (xa_cons (xe_var 1) (xa_cons (xe_bin g xe_int (xe_glob g)) (xa_cons (xe_glob g) xa_nil))))) (xss_cons (xs_if (xt_cmp g (xe_var 1) (xe_var 0)) (xss_cons xs_never xss_nil) xss_nil) (xss_cons (xs_expr (xe_call g (xa_cons (xe_var 2) (xa_cons xe_int (xa_cons (xe_glob g) xa_nil))))) xss_nil))))⟩
theorem ok_cut_of : DefOk tx "cut_of" "cut_of" (top 31) ["low", "high", "parts", "rule", "polynomial", "part", "half", "found", "middle", "places", "place"] ["low", "high", "parts", "rule", "polynomial"] f_cut_of := ⟨⟨rfl, rfl, rfl, by decide +kernel, rfl, by decide +kernel, by decide +kernel⟩, rfl, rfl, (fun _ _ _ _ _ _ us hl => match us, hl with | [_, _, _, _, _], _ => rfl), fun P w K mg base W n cdv A outer s H XKE fa g => (xss_cons (xs_asg (xe_tup (xa_cons (xe_call g (xa_cons (xe_bin g (xe_var 1) (xe_var 0)) (xa_cons (xe_bin g xe_int (xe_var 2)) xa_nil))) (xa_cons (xe_glob g) xa_nil))) (xg_tup g (xgs_cons (xg_name g 6) (xgs_cons (xg_name g 7) xgs_nil)))) (xss_cons (xs_for g (xi_rng1 g (xe_var 2)) (xg_name g 5) (xss_cons (xs_asg (xe_call g (xa_cons (xe_call g (xa_cons (xe_var 0) xa_nil)) (xa_cons (xe_call g (xa_cons (xe_var 6) (xa_cons (xe_call g (xa_cons (xe_bin g (xe_bin g xe_int (xe_var 5)) xe_int) xa_nil)) xa_nil))) xa_nil))) (xg_name g 8)) (xss_cons (xs_asgLc (own := [("place", 10)]) g (xi_seq g (xe_idx g (xe_var 3) xe_int)) (blkOk_by (N := ["low", "high", "parts", "rule", "polynomial", "part", "half", "found", "middle", "places", "place"]) (sc := defScope (top 31)) (by decide +kernel)) (fun _ _ _ _ _ hg => (xn_name hg.gd.nd 10)) (fun _ _ _ _ _ hg => xc_none) (fun _ _ _ _ _ hg => (xe_call hg (xa_cons (xe_var 8) (xa_cons (xe_call hg (xa_cons (xe_var 6) (xa_cons (xe_var 10) xa_nil))) xa_nil))))) (xss_cons (xs_asg (xe_call g (xa_cons (xe_var 7) (xa_cons (xe_call g (xa_cons (xe_var 6) (xa_cons (xe_call g (xa_cons (xe_var 9) (xa_cons (xe_idx g (xe_var 3) xe_int) (xa_cons (xe_var 4) xa_nil)))) xa_nil))) xa_nil))) (xg_name g 7)) xss_nil)))) (xss_cons (xs_ret (xe_var 7)) xss_nil)))⟩
theorem ok_cut_sum : DefOk tx "cut_sum" "cut_sum" (top 32) ["low", "high", "parts", "places", "weights", "polynomial", "spots", "rule", "one"] ["low", "high", "parts", "places", "weights", "polynomial"] f_cut_sum := ⟨⟨rfl, rfl, rfl, by decide +kernel, rfl, by decide +kernel, by decide +kernel⟩, rfl, rfl, (fun _ _ _ _ _ _ us hl => match us, hl with | [_, _, _, _, _, _], _ => rfl), fun P w K mg base W n cdv A outer s H XKE fa g => (xss_cons (xs_expr (xe_call g (xa_cons (xe_var 0) (xa_cons (xe_var 1) (xa_cons (xe_var 2) xa_nil))))) (xss_cons (xs_asg (xe_call g (xa_cons (xe_var 3) xa_nil)) (xg_name g 6)) (xss_cons (xs_asg (xe_tup (xa_cons (xe_var 6) (xa_cons (xe_call g (xa_cons (xe_var 6) (xa_cons (xe_var 4) xa_nil))) xa_nil))) (xg_name g 7)) (xss_cons (xs_expr (xe_call g (xa_cons (xe_var 5) xa_nil))) (xss_cons (xs_ret (xe_call g (xa_cons (xe_var 0) (xa_cons (xe_var 1) (xa_cons (xe_var 2) (xa_cons (xe_var 7) (xa_cons (xe_comp (own := [("one", 8)]) g (xi_seq g (xe_var 5)) (blkOk_by (N := ["low", "high", "parts", "places", "weights", "polynomial", "spots", "rule", "one"]) (sc := defScope (top 32)) (by decide +kernel)) (fun _ _ _ _ _ hg => (xn_name hg.gd.nd 8)) (fun _ _ _ _ _ hg => xc_none) (fun _ _ _ _ _ hg => (xe_call hg (xa_cons (xe_var 8) xa_nil)))) xa_nil))))))) xss_nil)))))⟩
theorem ok_cut_gap : DefOk tx "cut_gap" "cut_gap" (top 33) ["low", "high", "parts", "places", "weights", "polynomial", "found", "due", "index", "one"] ["low", "high", "parts", "places", "weights", "polynomial"] f_cut_gap := ⟨⟨rfl, rfl, rfl, by decide +kernel, rfl, by decide +kernel, by decide +kernel⟩, rfl, rfl, (fun _ _ _ _ _ _ us hl => match us, hl with | [_, _, _, _, _, _], _ => rfl), fun P w K mg base W n cdv A outer s H XKE fa g => (xss_cons (xs_asg (xe_call g (xa_cons (xe_var 0) (xa_cons (xe_var 1) (xa_cons (xe_var 2) (xa_cons (xe_var 3) (xa_cons (xe_var 4) (xa_cons (xe_var 5) xa_nil))))))) (xg_name g 6)) (xss_cons (xs_asg (xe_glob g) (xg_name g 7)) (xss_cons (xs_for g (xi_enum g (xe_var 5)) (xg_tup g (xgs_cons (xg_name g 8) (xgs_cons (xg_name g 9) xgs_nil))) (xss_cons (xs_asg (xe_call g (xa_cons (xe_var 7) (xa_cons (xe_call g (xa_cons (xe_bin g (xe_var 9) (xe_bin g (xe_call g (xa_cons (xe_var 1) (xa_cons (xe_bin g (xe_var 8) xe_int) xa_nil))) (xe_call g (xa_cons (xe_var 0) (xa_cons (xe_bin g (xe_var 8) xe_int) xa_nil))))) (xa_cons (xe_bin g (xe_var 8) xe_int) xa_nil))) xa_nil))) (xg_name g 7)) xss_nil)) (xss_cons (xs_ret (xe_call g (xa_cons (xe_var 7) (xa_cons (xe_var 6) xa_nil)))) xss_nil))))⟩
theorem ok__law_taken : DefOk tx "_law_taken" "_law_taken" (top 35) ["_law_row", "_law_many", "_law_cell", "_law_found"] ["_law_row", "_law_many"] f__law_taken := ⟨⟨rfl, rfl, rfl, by decide +kernel, rfl, by decide +kernel, by decide +kernel⟩, rfl, rfl, (fun _ _ _ _ _ _ us hl => match us, hl with | [_, _], _ => rfl), fun P w K mg base W n cdv A outer s H XKE fa g => (xss_cons (xs_if (xt_cmp g (xe_idx g (xe_var 0) xe_int) xe_int) (xss_cons (xs_asg (xe_bin g (xe_bi g (xa_cons (xe_idx g (xe_var 0) xe_int) xa_nil)) (xe_var 1)) (xg_name g 3)) (xss_cons (xs_asg (xe_bin g (xe_idx g (xe_var 0) xe_int) (xe_var 1)) (xg_sub (xe_var 0) xe_int)) (xss_cons (xs_ret (xe_var 3)) xss_nil))) xss_nil) (xss_cons (xs_asg (xe_bin g (xe_idx g (xe_var 0) xe_int) xe_int) (xg_sub (xe_var 0) xe_int)) (xss_cons (xs_if (xt_cmp g (xe_idx g (xe_var 0) xe_int) (xe_bi g (xa_cons (xe_idx g (xe_var 0) xe_int) xa_nil))) (xss_cons (xs_asg (xe_bin g (xe_bi g (xa_cons (xe_bin g (xe_bin g (xe_idx g (xe_var 0) xe_int) xe_int) xe_int) xa_nil)) xe_int) (xg_sub (xe_var 0) xe_int)) (xss_cons (xs_ret (xe_bin g (xe_bi g (xa_cons (xe_bin g (xe_idx g (xe_var 0) xe_int) xe_int) xa_nil)) (xe_var 1))) xss_nil)) xss_nil) (xss_cons (xs_asg (xe_idx g (xe_idx g (xe_var 0) xe_int) (xe_bin g (xe_idx g (xe_var 0) xe_int) xe_int)) (xg_name g 2)) (xss_cons (xs_asg (xe_bin g (xe_bi g (xa_cons (xe_bin g (xe_bin g (xe_bin g (xe_idx g (xe_var 0) xe_int) xe_int) (xe_var 2)) xe_int) xa_nil)) xe_int) (xg_sub (xe_var 0) xe_int)) (xss_cons (xs_if (xt_cmp g (xe_var 2) (xe_bin g xe_int xe_int)) (xss_cons (xs_asg (xe_bin g (xe_var 2) (xe_var 1)) (xg_sub (xe_var 0) xe_int)) xss_nil) xss_nil) (xss_cons (xs_ret (xe_bin g (xe_bi g (xa_cons (xe_var 2) xa_nil)) (xe_var 1))) xss_nil)))))))⟩
theorem ok__law_low : DefOk tx "_law_low" "_law_low" (top 36) ["_law_top", "_law_bottom", "_law_one", "_law_other"] ["_law_top", "_law_bottom"] f__law_low := ⟨⟨rfl, rfl, rfl, by decide +kernel, rfl, by decide +kernel, by decide +kernel⟩, rfl, rfl, (fun _ _ _ _ _ _ us hl => match us, hl with | [_, _], _ => rfl), fun P w K mg base W n cdv A outer s H XKE fa g => (xss_cons (xs_par g (xe_bi g (xa_cons (xe_var 0) xa_nil)) (xe_bi g (xa_cons (xe_var 1) xa_nil))) (xss_cons (xs_while g (xt_cmp g (xe_var 3) xe_int) (xss_cons (xs_par g (xe_var 3) (xe_bin g (xe_bi g (xa_cons (xe_var 2) xa_nil)) (xe_var 3))) xss_nil)) (xss_cons (xs_asg (xe_ife (xt_cmp g (xe_var 1) xe_int) (xe_var 2) (xe_bin g xe_int (xe_var 2))) (xg_name g 2)) (xss_cons (xs_ret (xe_tup (xa_cons (xe_bin g (xe_var 0) (xe_var 2)) (xa_cons (xe_bin g (xe_var 1) (xe_var 2)) xa_nil)))) xss_nil))))⟩
theorem ok__law_add : DefOk tx "_law_add" "_law_add" (top 37) ["_law_one", "_law_other"] ["_law_one", "_law_other"] f__law_add := ⟨⟨rfl, rfl, rfl, by decide +kernel, rfl, by decide +kernel, by decide +kernel⟩, rfl, rfl, (fun _ _ _ _ _ _ us hl => match us, hl with | [_, _], _ => rfl), fun P w K mg base W n cdv A outer s H XKE fa g => (xss_cons (xs_ret (xe_call g (xa_cons (xe_bin g (xe_bin g (xe_idx g (xe_var 0) xe_int) (xe_idx g (xe_var 1) xe_int)) (xe_bin g (xe_idx g (xe_var 1) xe_int) (xe_idx g (xe_var 0) xe_int))) (xa_cons (xe_bin g (xe_idx g (xe_var 0) xe_int) (xe_idx g (xe_var 1) xe_int)) xa_nil)))) xss_nil)⟩
theorem ok__law_times : DefOk tx "_law_times" "_law_times" (top 38) ["_law_one", "_law_other"] ["_law_one", "_law_other"] f__law_times := ⟨⟨rfl, rfl, rfl, by decide +kernel, rfl, by decide +kernel, by decide +kernel⟩, rfl, rfl, (fun _ _ _ _ _ _ us hl => match us, hl with | [_, _], _ => rfl), fun P w K mg base W n cdv A outer s H XKE fa g => (xss_cons (xs_ret (xe_call g (xa_cons (xe_bin g (xe_idx g (xe_var 0) xe_int) (xe_idx g (xe_var 1) xe_int)) (xa_cons (xe_bin g (xe_idx g (xe_var 0) xe_int) (xe_idx g (xe_var 1) xe_int)) xa_nil)))) xss_nil)⟩
theorem ok__law_places : DefOk tx "_law_places" "_law_places" (top 39) ["_law_row", "_law_most", "_law_k", "_law_found", "_law_bottom", "_law_spot", "_law_scale"] ["_law_row", "_law_most"] f__law_places := ⟨⟨rfl, rfl, rfl, by decide +kernel, rfl, by decide +kernel, by decide +kernel⟩, rfl, rfl, (fun _ _ _ _ _ _ us hl => match us, hl with | [_, _], _ => rfl), fun P w K mg base W n cdv A outer s H XKE fa g => (xss_cons (xs_par3 g (xe_lst xa_nil) (xe_bin g xe_int (xe_call g (xa_cons (xe_var 0) (xa_cons xe_int xa_nil)))) (xe_bin g (xe_call g (xa_cons (xe_var 0) (xa_cons xe_int xa_nil))) xe_int)) (xss_cons (xs_for g (xi_rng1 g (xe_bin g xe_int (xe_call g (xa_cons (xe_var 0) (xa_cons (xe_var 1) xa_nil))))) (xg_name g 2) (xss_cons (xs_asg (xe_bin g (xe_bin g (xe_var 5) xe_int) (xe_call g (xa_cons (xe_var 0) (xa_cons xe_int xa_nil)))) (xg_name g 5)) (xss_cons (xs_asg (xe_idx g (xe_lst (xa_cons xe_int (xa_cons xe_int (xa_cons xe_int (xa_cons (xe_bin g xe_int xe_int) xa_nil))))) (xe_call g (xa_cons (xe_var 0) (xa_cons xe_int xa_nil)))) (xg_name g 6)) (xss_cons (xs_expr (xe_append g (xe_var 3) (xa_cons (xe_tup (xa_cons (xe_bin g (xe_var 5) (xe_var 6)) (xa_cons (xe_bin g (xe_var 4) (xe_var 6)) xa_nil))) xa_nil))) xss_nil)))) (xss_cons (xs_ret (xe_bi g (xa_cons (xe_var 3) xa_nil))) xss_nil)))⟩
theorem ok__law_worth : DefOk tx "_law_worth" "_law_worth" (top 40) ["_law_polynomial", "_law_place", "_law_found", "_law_k"] ["_law_polynomial", "_law_place"] f__law_worth := ⟨⟨rfl, rfl, rfl, by decide +kernel, rfl, by decide +kernel, by decide +kernel⟩, rfl, rfl, (fun _ _ _ _ _ _ us hl => match us, hl with | [_, _], _ => rfl), fun P w K mg base W n cdv A outer s H XKE fa g => (xss_cons (xs_asg (xe_tup (xa_cons xe_int (xa_cons xe_int xa_nil))) (xg_name g 2)) (xss_cons (xs_for g (xi_rng3 g (xe_bin g (xe_bi g (xa_cons (xe_var 0) xa_nil)) xe_int) (xe_bin g xe_int xe_int) (xe_bin g xe_int xe_int)) (xg_name g 3) (xss_cons (xs_asg (xe_call g (xa_cons (xe_call g (xa_cons (xe_var 2) (xa_cons (xe_var 1) xa_nil))) (xa_cons (xe_idx g (xe_var 0) (xe_var 3)) xa_nil))) (xg_name g 2)) xss_nil)) (xss_cons (xs_ret (xe_var 2)) xss_nil)))⟩
theorem ok__law_fractions : DefOk tx "_law_fractions" "_law_fractions" (top 41) ["_law_row", "_law_count", "_law_k"] ["_law_row", "_law_count"] f__law_fractions := ⟨⟨rfl, rfl, rfl, by decide +kernel, rfl, by decide +kernel, by decide +kernel⟩, rfl, rfl, (fun _ _ _ _ _ _ us hl => match us, hl with | [_, _], _ => rfl), fun P w K mg base W n cdv A outer s H XKE fa g => (xss_cons (xs_ret (xe_bi g (xa_cons (xe_comp (own := [("_law_k", 2)]) g (xi_rng1 g (xe_var 1)) (blkOk_by (N := ["_law_row", "_law_count", "_law_k"]) (sc := defScope (top 41)) (by decide +kernel)) (fun _ _ _ _ _ hg => (xn_name hg.gd.nd 2)) (fun _ _ _ _ _ hg => xc_none) (fun _ _ _ _ _ hg => (xe_tup (xa_cons (xe_bin hg (xe_call hg (xa_cons (xe_var 0) (xa_cons xe_int xa_nil))) xe_int) (xa_cons (xe_idx hg (xe_lst (xa_cons xe_int (xa_cons xe_int (xa_cons xe_int (xa_cons xe_int (xa_cons (xe_bin hg xe_int xe_int) xa_nil)))))) (xe_call hg (xa_cons (xe_var 0) (xa_cons xe_int xa_nil)))) xa_nil))))) xa_nil))) xss_nil)⟩
theorem ok_law : DefOk tx "law" "law" (top 42) ["_law_script", "_law_row", "_law_turn", "_law_low_here", "_law_places_here", "_law_weights", "_law_polynomial", "_law_part", "_law_entire", "_law_due", "_law_high", "_law_parts", "_law_some", "_law_summed", "_law_half", "_law_middle", "_law_k", "_law_place", "_law_one"] ["_law_script"] f_law := ⟨⟨rfl, rfl, rfl, by decide +kernel, rfl, by decide +kernel, by decide +kernel⟩, rfl, rfl, (fun _ _ _ _ _ _ us hl => match us, hl with | [_], _ => rfl), fun P w K mg base W n cdv A outer s H XKE fa g => (xss_cons (xs_asg (xe_lst (xa_cons (xe_var 0) (xa_cons xe_int (xa_cons xe_int (xa_cons xe_int xa_nil))))) (xg_name g 1)) (xss_cons (xs_for g (xi_rng1 g xe_int) (xg_name g 2) (xss_cons (xs_asg (xe_bin g (xe_call g (xa_cons (xe_var 1) (xa_cons xe_int xa_nil))) xe_int) (xg_name g 3)) (xss_cons (xs_par g (xe_bin g (xe_bin g (xe_var 3) xe_int) (xe_call g (xa_cons (xe_var 1) (xa_cons (xe_bin g xe_int (xe_var 3)) xa_nil)))) (xe_bin g xe_int (xe_call g (xa_cons (xe_var 1) (xa_cons xe_int xa_nil))))) (xss_cons (xs_asg (xe_call g (xa_cons (xe_var 1) (xa_cons xe_int xa_nil))) (xg_name g 4)) (xss_cons (xs_asg (xe_call g (xa_cons (xe_var 1) (xa_cons (xe_bi g (xa_cons (xe_var 4) xa_nil)) xa_nil))) (xg_name g 5)) (xss_cons (xs_asg (xe_bi g (xa_cons (xe_comp (own := [("_law_k", 16)]) g (xi_rng1 g (xe_call g (xa_cons (xe_var 1) (xa_cons xe_int xa_nil)))) (blkOk_by (N := ["_law_script", "_law_row", "_law_turn", "_law_low_here", "_law_places_here", "_law_weights", "_law_polynomial", "_law_part", "_law_entire", "_law_due", "_law_high", "_law_parts", "_law_some", "_law_summed", "_law_half", "_law_middle", "_law_k", "_law_place", "_law_one"]) (sc := defScope (top 42)) (by decide +kernel)) (fun _ _ _ _ _ hg => (xn_name hg.gd.nd 16)) (fun _ _ _ _ _ hg => xc_none) (fun _ _ _ _ _ hg => (xe_bin hg (xe_call hg (xa_cons (xe_var 1) (xa_cons xe_int xa_nil))) xe_int))) xa_nil)) (xg_name g 6)) (xss_cons (xs_par3 g (xe_comp (own := [("_law_one", 18)]) g (xi_seq g (xe_var 6)) (blkOk_by (N := ["_law_script", "_law_row", "_law_turn", "_law_low_here", "_law_places_here", "_law_weights", "_law_polynomial", "_law_part", "_law_entire", "_law_due", "_law_high", "_law_parts", "_law_some", "_law_summed", "_law_half", "_law_middle", "_law_k", "_law_place", "_law_one"]) (sc := defScope (top 42)) (by decide +kernel)) (fun _ _ _ _ _ hg => (xn_name hg.gd.nd 18)) (fun _ _ _ _ _ hg => xc_none) (fun _ _ _ _ _ hg => (xe_tup (xa_cons (xe_var 18) (xa_cons xe_int xa_nil))))) (xe_tup (xa_cons xe_int (xa_cons xe_int xa_nil))) (xe_call g (xa_cons (xe_bin g (xe_var 10) (xe_var 3)) (xa_cons (xe_bin g xe_int (xe_var 11)) xa_nil)))) (xss_cons (xs_for g (xi_rng1 g (xe_var 11)) (xg_name g 7) (xss_cons (xs_asg (xe_call g (xa_cons (xe_bin g (xe_bin g (xe_bin g xe_int (xe_var 3)) (xe_var 11)) (xe_bin g (xe_bin g (xe_bin g xe_int (xe_var 7)) xe_int) (xe_bin g (xe_var 10) (xe_var 3)))) (xa_cons (xe_bin g xe_int (xe_var 11)) xa_nil))) (xg_name g 15)) (xss_cons (xs_for g (xi_rng1 g (xe_bi g (xa_cons (xe_var 4) xa_nil))) (xg_name g 16) (xss_cons (xs_asg (xe_call g (xa_cons (xe_var 15) (xa_cons (xe_call g (xa_cons (xe_var 14) (xa_cons (xe_idx g (xe_var 4) (xe_var 16)) xa_nil))) xa_nil))) (xg_name g 17)) (xss_cons (xs_asg (xe_call g (xa_cons (xe_call g (xa_cons (xe_idx g (xe_var 5) (xe_var 16)) (xa_cons (xe_var 14) xa_nil))) (xa_cons (xe_call g (xa_cons (xe_var 12) (xa_cons (xe_var 17) xa_nil))) xa_nil))) (xg_name g 18)) (xss_cons (xs_asg (xe_call g (xa_cons (xe_var 13) (xa_cons (xe_var 18) xa_nil))) (xg_name g 13)) xss_nil)))) xss_nil))) (xss_cons (xs_if (xt_cmp g (xe_call g (xa_cons (xe_var 3) (xa_cons (xe_var 10) (xa_cons (xe_var 11) (xa_cons (xe_var 4) (xa_cons (xe_var 5) (xa_cons (xe_var 6) xa_nil))))))) (xe_var 13)) (xss_cons (xs_ret xe_bl) xss_nil) xss_nil) (xss_cons (xs_asg (xe_bin g (xe_lst (xa_cons (xe_tup (xa_cons xe_int (xa_cons xe_int xa_nil))) xa_nil)) (xe_comp (own := [("_law_k", 16)]) g (xi_rng1 g (xe_bi g (xa_cons (xe_var 6) xa_nil))) (blkOk_by (N := ["_law_script", "_law_row", "_law_turn", "_law_low_here", "_law_places_here", "_law_weights", "_law_polynomial", "_law_part", "_law_entire", "_law_due", "_law_high", "_law_parts", "_law_some", "_law_summed", "_law_half", "_law_middle", "_law_k", "_law_place", "_law_one"]) (sc := defScope (top 42)) (by decide +kernel)) (fun _ _ _ _ _ hg => (xn_name hg.gd.nd 16)) (fun _ _ _ _ _ hg => xc_none) (fun _ _ _ _ _ hg => (xe_call hg (xa_cons (xe_idx hg (xe_var 6) (xe_var 16)) (xa_cons (xe_bin hg (xe_var 16) xe_int) xa_nil)))))) (xg_name g 8)) (xss_cons (xs_asg (xe_call g (xa_cons (xe_call g (xa_cons (xe_var 8) (xa_cons (xe_tup (xa_cons (xe_var 10) (xa_cons xe_int xa_nil))) xa_nil))) (xa_cons (xe_call g (xa_cons (xe_tup (xa_cons (xe_bin g xe_int xe_int) (xa_cons xe_int xa_nil))) (xa_cons (xe_call g (xa_cons (xe_var 8) (xa_cons (xe_tup (xa_cons (xe_var 3) (xa_cons xe_int xa_nil))) xa_nil))) xa_nil))) xa_nil))) (xg_name g 9)) (xss_cons (xs_asg (xe_call g (xa_cons (xe_var 9) (xa_cons (xe_tup (xa_cons (xe_bin g xe_int (xe_idx g (xe_var 13) xe_int)) (xa_cons (xe_idx g (xe_var 13) xe_int) xa_nil))) xa_nil))) (xg_name g 9)) (xss_cons (xs_if (xt_cmp g (xe_call g (xa_cons (xe_var 3) (xa_cons (xe_var 10) (xa_cons (xe_var 11) (xa_cons (xe_var 4) (xa_cons (xe_var 5) (xa_cons (xe_var 6) xa_nil))))))) (xe_var 9)) (xss_cons (xs_ret xe_bl) xss_nil) xss_nil) xss_nil))))))))))))) (xss_cons (xs_ret (xe_cmp g (xe_call g (xa_cons (xe_bin g xe_int xe_int) (xa_cons xe_int (xa_cons xe_int (xa_cons (xe_tup (xa_cons (xe_tup (xa_cons (xe_bin g xe_int xe_int) (xa_cons xe_int xa_nil))) (xa_cons (xe_tup (xa_cons xe_int (xa_cons xe_int xa_nil))) xa_nil))) (xa_cons (xe_tup (xa_cons (xe_tup (xa_cons xe_int (xa_cons xe_int xa_nil))) (xa_cons (xe_tup (xa_cons xe_int (xa_cons xe_int xa_nil))) xa_nil))) (xa_cons (xe_tup (xa_cons xe_int (xa_cons xe_int xa_nil))) xa_nil))))))) (xe_tup (xa_cons xe_int (xa_cons xe_int xa_nil))))) xss_nil)))⟩
theorem ok_all : ∀ e ∈ ents, DefOk tx e.name e.name e.st e.N e.ps e.df := by
  unfold ents
  simp only [List.mem_cons, List.not_mem_nil, or_false, forall_eq_or_imp, forall_eq]
  exact ⟨ok_lowest, ok_whole, ok_plus, ok_minus, ok_times, ok_is_less, ok_raised, ok_worth, ok_is_number, ok_check_number, ok_check_polynomial, ok_low_places, ok_all_places, ok_all_weights, ok_read_by, ok_check_cut, ok_cut_of, ok_cut_sum, ok_cut_gap, ok__law_taken, ok__law_low, ok__law_add, ok__law_times, ok__law_places, ok__law_worth, ok__law_fractions, ok_law⟩
theorem law_mem : (⟨"law", top 42, ["_law_script", "_law_row", "_law_turn", "_law_low_here", "_law_places_here", "_law_weights", "_law_polynomial", "_law_part", "_law_entire", "_law_due", "_law_high", "_law_parts", "_law_some", "_law_summed", "_law_half", "_law_middle", "_law_k", "_law_place", "_law_one"], ["_law_script"], f_law⟩ : Ent) ∈ ents := by
  unfold ents
  exact List.mem_cons_of_mem _ (List.mem_cons_of_mem _ (List.mem_cons_of_mem _ (List.mem_cons_of_mem _ (List.mem_cons_of_mem _ (List.mem_cons_of_mem _ (List.mem_cons_of_mem _ (List.mem_cons_of_mem _ (List.mem_cons_of_mem _ (List.mem_cons_of_mem _ (List.mem_cons_of_mem _ (List.mem_cons_of_mem _ (List.mem_cons_of_mem _ (List.mem_cons_of_mem _ (List.mem_cons_of_mem _ (List.mem_cons_of_mem _ (List.mem_cons_of_mem _ (List.mem_cons_of_mem _ (List.mem_cons_of_mem _ (List.mem_cons_of_mem _ (List.mem_cons_of_mem _ (List.mem_cons_of_mem _ (List.mem_cons_of_mem _ (List.mem_cons_of_mem _ (List.mem_cons_of_mem _ (List.mem_cons_of_mem _ (List.mem_cons_self ..))))))))))))))))))))))))))
end K35
set_option maxHeartbeats 0
namespace K35
open PySem PySem.Spec PyProof.Rows L2 Mi
abbrev R : PySem.W.OpenRow := PySem.W.OpenLaw.row PySem.Challenge.rw_fewreadings_k35_cuts_of_stretches
abbrev hk : PySem.W.Hook := hookM 4 ents cons
def ob (s : PySem.W.SharedT) : He.AlD := obsMG 4 ents cons (HandSHeadRun.getT s)
theorem ob_eq (s : PySem.W.SharedT) : ob s = hk.obs s.abs := obsMG_eq (HandSHeadRun.getT_eq s)
def loose : List Str := (["lowest", "whole", "plus", "minus", "times", "is_less", "raised", "worth", "is_number", "check_number", "check_polynomial", "low_places", "all_places", "all_weights", "read_by", "check_cut", "cut_of", "cut_sum", "cut_gap", "_law_taken"] : List Str) ++ (["_law_low", "_law_add", "_law_times", "_law_places", "_law_worth", "_law_fractions", "NOTHING", "FAR", "MAX_COEFFICIENTS", "MAX_PLACES", "MAX_PARTS", "ReadingError", "InvalidNumber", "InvalidPolynomial", "InvalidPlaces", "InvalidWeights"] : List Str)
theorem run (w : World) : HandSHeadRun.RunEq R (PySem.W.view R.prog [42]) hk ob 4000 loose w := by
  intro os
  kernel_rfl
end K35
open PySem PySem.W PySem.Calls PyProof.Rows
set_option autoImplicit false
namespace K35
open Mi PySem Fx
theorem cu : Cu tx where
  w := Nat.le_refl _
  lowest := rfl
  whole := rfl
  plus := rfl
  minus := rfl
  times := rfl
  is_less := rfl
  nothing := rfl
  raised := rfl
  worth := rfl
  is_number := rfl
  check_number := rfl
  check_polynomial := rfl
  low_places := rfl
  all_places := rfl
  all_weights := rfl
  read_by := rfl
  check_cut := rfl
  cut_of := rfl
  cut_sum := rfl
  cut_gap := rfl
  far := rfl
  maxc := rfl
  maxp := rfl
  maxq := rfl
theorem tT : tx.T "_law_taken" = some g_taken := rfl
theorem tL : tx.T "_law_low" = some g_low := rfl
theorem tA : tx.T "_law_add" = some g_add := rfl
theorem tM : tx.T "_law_times" = some g_times := rfl
theorem tW : tx.T "_law_worth" = some g_worth := rfl
theorem tP : tx.T "_law_places" = some f__law_places := rfl
theorem tF : tx.T "_law_fractions" = some f__law_fractions := rfl
theorem tLaw : tx.T "law" = some f_law := rfl
abbrev sp (b : Int) (p : Int × Int) : Int × Int := (p.1 * p.2, b * p.2)
structure Sps (b : Int) (sps : List (Int × Int)) (spot : Int) : Prop where
  sc : ∀ p ∈ sps, p.2 = 1 ∨ p.2 = 2 ∨ p.2 = -1
  le : ∀ p ∈ sps, -9 ≤ p.1 ∧ p.1 ≤ spot
  inc : sps.Pairwise fun p q => p.1 < q.1
  bd : -9 ≤ spot ∧ spot ≤ -3 + 4 * sps.length
theorem sz0 : szOk 0 = true := by decide
theorem sz4 : szOk 4 = true := by decide
theorem sz5 : szOk 5 = true := by decide
theorem p10 : (2 : Nat) ^ 10 = 1024 := by decide
theorem p2 : (2 : Nat) ^ 2 = 4 := by decide
theorem pick {s : Sto} {m : Nat} {xs : List Int} (h : s[m]? = some (.lst (xs.map .int))) {v : Int} (h0 : 0 ≤ v) (h1 : v < xs.length) : ∃ x, x ∈ xs ∧ idxD (.loc m) (.int v) s = some (.int x) := by
  obtain ⟨k, rfl⟩ : ∃ k : Nat, v = k := ⟨v.toNat, by omega⟩
  have hl : k < xs.length := by omega
  refine ⟨xs[k], List.getElem_mem hl, ?_⟩
  exact idx_seq (seq_loc h) (by simp [hl])
theorem places_ok (n : Nat) (st : Sto) (r : Nat) (ns : List Int) (h : RowAt st r ns) : ∃ (ps : List (Int × Int)) (st' : Sto), callN tx (n + 2) "_law_places" [.loc r, .int 3] st = .ok (.tup (ps.map pr)) st' ∧ RowAt st' r ns ∧ Fm r st st' ∧ 1 ≤ ps.length ∧ ps.length ≤ 3 ∧ (∀ p ∈ ps, Rw 5 p) ∧ (∀ (i : Nat) (hi : i + 1 < ps.length), fq ps[i] < fq ps[i + 1]) := by
  have hr := h.lt
  obtain ⟨v1, s1, c1, a1, b1, r1, f1, l1⟩ := taken_ok tT n (st ++ [.lst []]) r ns 3 (h.app _) (by decide) (by decide)
  obtain ⟨v2, s2, c2, a2, b2, r2, f2, l2⟩ := taken_ok tT n s1 r ns 7 r1 (by decide) (by decide)
  obtain ⟨v3, s3, c3, a3, b3, r3, f3, l3⟩ := taken_ok tT n s2 r ns 3 r2 (by decide) (by decide)
  have hl0 : (st ++ [.lst []] : Sto).length = st.length + 1 := by simp
  have hm0 : s3[st.length]? = some (.lst []) := by
    rw [f3.get _ (by omega) (by omega), f2.get _ (by omega) (by omega), f1.get _ (by omega) (by omega)]
    simp
  have hfm : Fm r st s3 := ((Fm.app r st [.lst []]).trans f1).trans (f2.trans f3)
  obtain ⟨N, hN⟩ : ∃ N : Nat, 1 + v3 = (N : Int) := ⟨(1 + v3).toNat, by omega⟩
  have hrng : wkRange [.int (N : Int)] = some (wkRng 0 N) := by simp [wkRange, big_nat N (by omega)]
  have key : ∃ (ps : List (Int × Int)) (st' : Sto), exSs (evN tx (n + 1)) f__law_places.body [some (.loc r), some (.int 3), none, none, none, none, none] st = .rt (.tup (ps.map pr)) st' ∧ RowAt st' r ns ∧ Fm r st st' ∧ 1 ≤ ps.length ∧ ps.length ≤ 3 ∧ (∀ p ∈ ps, Rw 5 p) ∧ (∀ (i : Nat) (hi : i + 1 < ps.length), fq ps[i] < fq ps[i + 1]) := by
    refine ss_nx (fun F => ∃ (ps : List (Int × Int)) (st' : Sto), F = .rt (.tup (ps.map pr)) st' ∧ RowAt st' r ns ∧ Fm r st st' ∧ 1 ≤ ps.length ∧ ps.length ≤ 3 ∧ (∀ p ∈ ps, Rw 5 p) ∧ (∀ (i : Nat) (hi : i + 1 < ps.length), fq ps[i] < fq ps[i + 1])) (lo1 := [some (.loc r), some (.int 3), none, some (.loc st.length), some (.int (1 + v1)), some (.int (v2 - 9)), none]) (st1 := s2) ?_ ?_
    · simp only [s_par3, e_lst, a_nil, a_cons, bind_ok, List.length_nil, sz0, if_true, toFl_ok, e_bin, e_int, e_call, e_var, List.getElem?_cons_zero, List.getElem?_cons_succ, evN_cl, c1, c2, lift_some, b_add, b_sub, List.set]
    refine ss_for (fun F => ∃ (ps : List (Int × Int)) (st' : Sto), F = .rt (.tup (ps.map pr)) st' ∧ RowAt st' r ns ∧ Fm r st st' ∧ 1 ≤ ps.length ∧ ps.length ≤ 3 ∧ (∀ p ∈ ps, Rw 5 p) ∧ (∀ (i : Nat) (hi : i + 1 < ps.length), fq ps[i] < fq ps[i + 1])) (n := N)
      (fun i lo s => ∃ sps spot y2 y6, lo = [some (.loc r), some (.int 3), y2, some (.loc st.length), some (.int (1 + v1)), some (.int spot), y6] ∧ RowAt s r ns ∧ Fm r st s ∧ s[st.length]? = some (.lst ((sps.map (sp (1 + v1))).map pr)) ∧ sps.length = i ∧ Sps (1 + v1) sps spot)
      (st1 := s3) (w := wkRng 0 N) ?_ rfl ⟨[], v2 - 9, none, none, rfl, r3, hfm, by simpa using hm0, rfl, ⟨by simp, by simp, by simp, by simp; omega⟩⟩ ?_ ?_ ?_
    · simp only [i_rng, a_cons, a_nil, e_bin, e_int, e_call, e_var, bind_ok, List.getElem?_cons_zero, List.getElem?_cons_succ, evN_cl, c3, lift_some, b_add, hN, hrng, Option.map_some]
    · rintro i lo s hi ⟨sps, spot, y2, y6, rfl, hrow, hf, hlst, hlen, I⟩
      have hsl : st.length < s.length := (List.getElem?_eq_some_iff.mp hlst).1
      obtain ⟨w1, t1, d1, e1, g1, q1, k1, m1⟩ := taken_ok tT n s r ns 4 hrow (by decide) (by decide)
      obtain ⟨w2, t2, d2, e2, g2, q2, k2, m2⟩ := taken_ok tT n (t1 ++ [.lst [.int 1, .int 1, .int 2, .int (0 - 1)]]) r ns 4 (q1.app _) (by decide) (by decide)
      have hrt : r < t1.length := q1.lt
      have hsc : t2[t1.length]? = some (.lst (([1, 1, 2, 0 - 1] : List Int).map .int)) := by
        rw [k2.get _ (by simp) (by omega)]; simp
      obtain ⟨scl, hsm, hpick⟩ := pick hsc e2 (by simpa using g2)
      have hscl : scl = 1 ∨ scl = 2 ∨ scl = -1 := by simp at hsm; omega
      have hl2 : t2[st.length]? = some (.lst ((sps.map (sp (1 + v1))).map pr)) := by
        rw [k2.get _ (by simp; omega) (by omega), List.getElem?_append_left (by omega), k1.get _ hsl (by omega)]
        exact hlst
      have ib := I.bd
      have hmk1 : mulOk (spot + 1 + w1) scl = true := mulOk_of (a := 10) (b := 2) (by have := p10; omega) (by have := p2; omega) (by decide) (by decide) (by decide)
      have hmk2 : mulOk (1 + v1) scl = true := mulOk_of (a := 10) (b := 2) (by have := p10; omega) (by have := p2; omega) (by decide) (by decide) (by decide)
      have hmt : mtD .append st.length [pr ((spot + 1 + w1) * scl, (1 + v1) * scl)] t2 = some (.non, t2.set st.length (.lst (((sps ++ [(spot + 1 + w1, scl)]).map (sp (1 + v1))).map pr))) := by
        have hz : szOk ((sps.map (sp (1 + v1))).map pr).length = true := by simp [szOk]; omega
        simp only [mtD, asM_of hl2, hz, if_true, setC]
        simp [sp]
      refine ⟨.int (0 + i), by simp [hi], [some (.loc r), some (.int 3), some (.int (0 + i)), some (.loc st.length), some (.int (1 + v1)), some (.int (spot + 1 + w1)), some (.int scl)], t2.set st.length (.lst (((sps ++ [(spot + 1 + w1, scl)]).map (sp (1 + v1))).map pr)), ?_, sps ++ [(spot + 1 + w1, scl)], spot + 1 + w1, _, _, rfl, ?_, ?_, ?_, by simp [hlen], ?_⟩
      · simp only [forB, g_name, List.set, ss_cons, ss_nil, s_asg, s_expr, e_bin, e_idx, e_lst, e_bm, e_tup, e_call, a_cons, a_nil, e_var, e_int, bind_ok, toFl_ok, lift_some, List.getElem?_cons_zero, List.getElem?_cons_succ, b_add, b_sub, evN_cl, d1, d2, List.length_cons, List.length_nil, Nat.zero_add, Nat.reduceAdd, sz4, sz2, if_true, hpick, Option.map_some, asM_of hl2, b_mul hmk1, b_mul hmk2, hmt]
      · obtain ⟨i', s', c', z1, z2⟩ := q2
        exact ⟨i', s', c', by rw [List.getElem?_set_ne (by omega)]; exact z1, z2⟩
      · refine ⟨by simp; have := k2.len; simp at this; omega, fun j hj hjr => ?_⟩
        rw [List.getElem?_set_ne (by omega), k2.get _ (by simp; omega) hjr, List.getElem?_append_left (by omega), k1.get _ (by omega) hjr, hf.get _ hj hjr]
      · rw [List.getElem?_set_self (by have := k2.len; simp at this; omega)]
      · refine ⟨?_, ?_, ?_, by simp; omega⟩
        · intro p hp
          rcases List.mem_append.mp hp with hp | hp
          · exact I.sc p hp
          · simp at hp; subst hp; exact hscl
        · intro p hp
          rcases List.mem_append.mp hp with hp | hp
          · have := I.le p hp; omega
          · simp at hp; subst hp; simp; omega
        · rw [List.pairwise_append]
          refine ⟨I.inc, by simp, ?_⟩
          intro p hp q hq
          simp at hq; subst hq
          have := I.le p hp
          simp; omega
    · rintro lo s ⟨sps, spot, y2, y6, rfl, hrow, hf, hlst, hlen, I⟩; simp
    · rintro lo s ⟨sps, spot, y2, y6, rfl, hrow, hf, hlst, hlen, I⟩
      have ib := I.bd
      refine ⟨sps.map (sp (1 + v1)), s, ?_, hrow, hf, by simp; omega, by simp; omega, ?_, ?_⟩
      · have hbt : biD .tuple [.loc st.length] s = some (.tup ((sps.map (sp (1 + v1))).map pr), s) := by simp only [biD, seq_loc hlst, Option.map_some]
        simp only [ss_cons, ss_nil, s_ret, e_bi, a_cons, a_nil, e_var, bind_ok, List.getElem?_cons_zero, List.getElem?_cons_succ, hbt, lift_some, toFl_ok]
      · intro p hp
        simp only [List.mem_map] at hp
        obtain ⟨q, hq, rfl⟩ := hp
        have h1 := I.le q hq
        have h2 := I.sc q hq
        have e32 : (2 : Nat) ^ 5 = 32 := by decide
        refine ⟨?_, ?_, ?_⟩
        · show (q.1 * q.2).natAbs < 2 ^ 5
          rcases h2 with h2 | h2 | h2 <;> rw [h2] <;> omega
        · show ((1 + v1) * q.2).natAbs < 2 ^ 5
          rcases h2 with h2 | h2 | h2 <;> rw [h2] <;> omega
        · show (1 + v1) * q.2 ≠ 0
          rcases h2 with h2 | h2 | h2 <;> rw [h2] <;> omega
      · intro i hi
        simp only [List.length_map] at hi
        have hp := (List.pairwise_iff_getElem.mp I.inc) i (i + 1) (by omega) hi (by omega)
        have hn : ∀ q ∈ sps, fq (sp (1 + v1) q) = ((q.1 : Int) : Rat) / (((1 + v1) : Int) : Rat) := by
          intro q hq
          have h2 := I.sc q hq
          show Rat.divInt (q.1 * q.2) ((1 + v1) * q.2) = _
          rw [Rat.divInt_mul_right (by omega), Rat.divInt_eq_div]
        simp only [List.getElem_map]
        rw [hn _ (List.getElem_mem _), hn _ (List.getElem_mem _)]
        have hb : (0 : Rat) < (((1 + v1) : Int) : Rat) := Rat.intCast_pos.mpr (by omega)
        rw [Rat.div_lt_iff hb, Rat.div_mul_cancel (Ne.symm (Rat.ne_of_lt hb))]
        exact Rat.intCast_lt_intCast.mpr hp
  obtain ⟨ps, st', h1, h2⟩ := key
  exact ⟨ps, st', by rw [call_eq tP _ _ st rfl]; exact congrArg flR h1, h2⟩
structure Wt (p : Int × Int) : Prop where
  a : -20 ≤ p.1 ∧ p.1 ≤ 20
  b : p.2 = 1 ∨ p.2 = 2 ∨ p.2 = 6 ∨ p.2 = -4
theorem Wt.rw {p : Int × Int} (h : Wt p) : Rw 5 p := by
  have e : (2 : Nat) ^ 5 = 32 := by decide
  have := h.a
  have := h.b
  exact ⟨by omega, by omega, by omega⟩
theorem fractions_ok (n : Nat) (st : Sto) (r : Nat) (ns : List Int) (h : RowAt st r ns) (N : Nat) (hN : N ≤ 3) : ∃ (ws : List (Int × Int)) (st' : Sto), callN tx (n + 2) "_law_fractions" [.loc r, .int (N : Int)] st = .ok (.tup (ws.map pr)) st' ∧ RowAt st' r ns ∧ Fm r st st' ∧ ws.length = N ∧ (∀ p ∈ ws, Rw 5 p) := by
  have hrng : wkRange [.int (N : Int)] = some (wkRng 0 N) := by simp [wkRange, big_nat N (by omega)]
  obtain ⟨acc, s', hcomp, ws, hacc, hwl, hww, hrow, hfm⟩ := ev_comp (E := evN tx (n + 1)) (own := [2]) (t := .name 2) (it := .rng (.cons false (.var 1) .nil)) (c := .none)
    (elt := .tup (.cons false (.bin .Sub (.call "_law_taken" (.cons false (.var 0) (.cons false (.con (.int 41)) .nil))) (.con (.int 20))) (.cons false (.idx (.lst (.cons false (.con (.int 1)) (.cons false (.con (.int 1)) (.cons false (.con (.int 2)) (.cons false (.con (.int 6)) (.cons false (.bin .Sub (.con (.int 0)) (.con (.int 4))) .nil)))))) (.call "_law_taken" (.cons false (.var 0) (.cons false (.con (.int 5)) .nil)))) .nil)))
    (lo := [some (.loc r), some (.int N), none]) (st := st) (st1 := st) (w := wkRng 0 N) (n := N)
    (fun j acc s => ∃ ws : List (Int × Int), acc = ws.map pr ∧ ws.length = j ∧ (∀ p ∈ ws, Wt p) ∧ RowAt s r ns ∧ Fm r st s) (by simp [hrng]) rfl ⟨[], rfl, rfl, by simp, h, Fm.refl ..⟩
    (by
      rintro j acc s hj ⟨ws, rfl, hwl, hww, hrow, hfm⟩
      obtain ⟨w1, t1, d1, e1, g1, q1, k1, m1⟩ := taken_ok tT n s r ns 41 hrow (by decide) (by decide)
      obtain ⟨w2, t2, d2, e2, g2, q2, k2, m2⟩ := taken_ok tT n (t1 ++ [.lst [.int 1, .int 1, .int 2, .int 6, .int (0 - 4)]]) r ns 5 (q1.app _) (by decide) (by decide)
      have hrt : r < t1.length := q1.lt
      have hsc : t2[t1.length]? = some (.lst (([1, 1, 2, 6, 0 - 4] : List Int).map .int)) := by
        rw [k2.get _ (by simp) (by omega)]; simp
      obtain ⟨x, hxm, hpick⟩ := pick hsc e2 (by simpa using g2)
      have hx : x = 1 ∨ x = 2 ∨ x = 6 ∨ x = -4 := by simp at hxm; omega
      refine ⟨.int (0 + j), by simp [hj], .inl ⟨pr (w1 - 20, x), t2, ?_, by simp [szOk]; omega, ws ++ [(w1 - 20, x)], by simp, by simp [hwl], ?_, q2, (hfm.trans k1).trans ((Fm.app ..).trans k2)⟩⟩
      · simp only [compB, wipeD, g_name, List.set, c_none, e_tup, e_bin, e_idx, e_lst, e_call, a_cons, a_nil, e_var, e_int, bind_ok, lift_some, List.getElem?_cons_zero, List.getElem?_cons_succ, b_sub, evN_cl, d1, d2, List.length_cons, List.length_nil, Nat.zero_add, Nat.reduceAdd, sz5, sz2, if_true, hpick, Option.map_some]
      · intro p hp
        rcases List.mem_append.mp hp with hp | hp
        · exact hww p hp
        · simp at hp; subst hp; exact ⟨by simp; omega, hx⟩)
    (by rintro acc s _; simp)
  refine ⟨ws, s' ++ [.lst acc], ?_, hrow.app _, hfm.trans (Fm.app ..), hwl, fun p hp => (hww p hp).rw⟩
  rw [call_eq tF _ _ st rfl]
  have hbt : biD .tuple [.loc s'.length] (s' ++ [.lst acc]) = some (.tup (ws.map pr), s' ++ [.lst acc]) := by rw [hacc]; simp only [biD, seq_loc (get_last s' (.lst (ws.map pr))), Option.map_some]
  simp only [f__law_fractions, List.map_cons, List.map_nil, List.replicate, List.cons_append, List.nil_append, ss_cons, ss_nil, s_ret, e_bi, a_cons, a_nil, bind_ok, hcomp, hbt, lift_some, toFl_ok, flR_rt]
end K35
set_option autoImplicit false
namespace K35
open Mi PySem Fx
theorem low_mid (lo hi : Int) (parts p : Nat) (h : 1 ≤ parts) : Rat.divInt (2 * lo * parts + (2 * (p : Int) + 1) * (hi - lo)) (2 * parts) = mid lo (Rat.divInt (hi - lo) (2 * parts)) p := by
  have hq : ((parts : Int) : Rat) ≠ 0 := by
    intro e
    have : (parts : Int) = 0 := by exact_mod_cast e
    omega
  simp only [mid, Rat.divInt_eq_div]
  simp only [Rat.intCast_add, Rat.intCast_mul, Rat.intCast_sub]
  grind
theorem hor_snoc (e x : Rat) : ∀ es : List Rat, hor (es ++ [e]) x = hor es x + e * x ^ es.length
  | [] => by simp [hor]
  | c :: r => by
    have ih := hor_snoc e x r
    simp only [hor, List.cons_append, List.foldr_cons, List.length_cons] at ih ⊢
    rw [ih, Rat.pow_succ]
    grind
def ents1 (poly : List Int) (i : Nat) : Rat := Rat.divInt (poly.getD i 0) ((i : Int) + 1)
theorem due_hor (lo hi : Int) (poly : List Int) : ∀ i : Nat, hor ((List.range i).map (ents1 poly)) hi * hi - hor ((List.range i).map (ents1 poly)) lo * lo = due lo hi poly i
  | 0 => by simp [hor, due]; grind
  | i + 1 => by
    have ih := due_hor lo hi poly i
    rw [List.range_succ, List.map_append, List.map_singleton, hor_snoc, hor_snoc]
    simp only [List.length_map, List.length_range, due]
    rw [← ih]
    have e : Rat.divInt (poly.getD i 0 * (hi ^ (i + 1) - lo ^ (i + 1))) (i + 1) = ents1 poly i * ((hi : Rat) ^ (i + 1) - (lo : Rat) ^ (i + 1)) := by
      simp only [ents1, Rat.divInt_eq_div, Rat.intCast_mul, Rat.intCast_sub, Rat.intCast_pow]
      grind
    rw [e, Rat.pow_succ, Rat.pow_succ]
    grind
theorem due_law (lo hi : Int) (poly : List Int) : hor (0 :: (List.range poly.length).map (ents1 poly)) hi + (-1) * hor (0 :: (List.range poly.length).map (ents1 poly)) lo = due lo hi poly poly.length := by
  have h := due_hor lo hi poly poly.length
  have e : ∀ (es : List Rat) (x : Rat), hor (0 :: es) x = hor es x * x := fun es x => by simp only [hor, List.foldr_cons]; grind
  rw [e, e, ← h]
  grind
theorem rd_snoc (l : List (Rat × Rat)) (q : Rat × Rat) (cs : List Rat) : rd (l ++ [q]) cs = rd l cs + q.2 * hor cs q.1 := by
  simp only [rd, List.foldl_append, List.foldl_cons, List.foldl_nil]
theorem last_gap : due (-20) 20 [5, 3] 2 - CS (-20) 20 12 [(-1, 1), (1, 1)] [(1, 1), (1, 1)] [5, 3] = 0 := by decide +kernel
end K35
set_option autoImplicit false
namespace K35
open Mi PySem Fx
def LawP (ns : List Int) (lo : Lo) (s : Sto) : Prop := ∃ y2 y3 y4 y5 y6 y7 y8 y9 y10 y11 y12 y13 y14 y15 y16 y17 y18, lo = [some (.fz ns), some (.loc 0), y2, y3, y4, y5, y6, y7, y8, y9, y10, y11, y12, y13, y14, y15, y16, y17, y18] ∧ RowAt s 0 ns
abbrev LawC (ns : List Int) : Fl → Prop := fun F => ∃ lo st, F = .nx lo st ∧ LawP ns lo st
abbrev lawBody : Sms := (.cons (.asg (.name 3) (.bin .Sub (.call "_law_taken" (.cons false (.var 1) (.cons false (.con (.int 30)) .nil))) (.con (.int 20)))) (.cons (.par 10 11 (.bin .Add (.bin .Add (.var 3) (.con (.int 1))) (.call "_law_taken" (.cons false (.var 1) (.cons false (.bin .Sub (.con (.int 20)) (.var 3)) .nil)))) (.bin .Add (.con (.int 1)) (.call "_law_taken" (.cons false (.var 1) (.cons false (.con (.int 12)) .nil))))) (.cons (.asg (.name 4) (.call "_law_places" (.cons false (.var 1) (.cons false (.con (.int 3)) .nil)))) (.cons (.asg (.name 5) (.call "_law_fractions" (.cons false (.var 1) (.cons false (.bi .len (.cons false (.var 4) .nil)) .nil)))) (.cons (.asg (.name 6) (.bi .tuple (.cons false (.comp [16] (.name 16) (.rng (.cons false (.call "_law_taken" (.cons false (.var 1) (.cons false (.con (.int 6)) .nil))) .nil)) .none (.bin .Sub (.call "_law_taken" (.cons false (.var 1) (.cons false (.con (.int 19)) .nil))) (.con (.int 9)))) .nil))) (.cons (.par3 12 13 14 (.comp [18] (.name 18) (.seq (.var 6)) .none (.tup (.cons false (.var 18) (.cons false (.con (.int 1)) .nil)))) (.tup (.cons false (.con (.int 0)) (.cons false (.con (.int 1)) .nil))) (.call "_law_low" (.cons false (.bin .Sub (.var 10) (.var 3)) (.cons false (.bin .Mult (.con (.int 2)) (.var 11)) .nil)))) (.cons (.for_ (.name 7) (.rng (.cons false (.var 11) .nil)) (.cons (.asg (.name 15) (.call "_law_low" (.cons false (.bin .Add (.bin .Mult (.bin .Mult (.con (.int 2)) (.var 3)) (.var 11)) (.bin .Mult (.bin .Add (.bin .Mult (.con (.int 2)) (.var 7)) (.con (.int 1))) (.bin .Sub (.var 10) (.var 3)))) (.cons false (.bin .Mult (.con (.int 2)) (.var 11)) .nil)))) (.cons (.for_ (.name 16) (.rng (.cons false (.bi .len (.cons false (.var 4) .nil)) .nil)) (.cons (.asg (.name 17) (.call "_law_add" (.cons false (.var 15) (.cons false (.call "_law_times" (.cons false (.var 14) (.cons false (.idx (.var 4) (.var 16)) .nil))) .nil)))) (.cons (.asg (.name 18) (.call "_law_times" (.cons false (.call "_law_times" (.cons false (.idx (.var 5) (.var 16)) (.cons false (.var 14) .nil))) (.cons false (.call "_law_worth" (.cons false (.var 12) (.cons false (.var 17) .nil))) .nil)))) (.cons (.asg (.name 13) (.call "_law_add" (.cons false (.var 13) (.cons false (.var 18) .nil)))) .nil)))) .nil))) (.cons (.ifs (.val (.cmp .NotEq (.call "cut_sum" (.cons false (.var 3) (.cons false (.var 10) (.cons false (.var 11) (.cons false (.var 4) (.cons false (.var 5) (.cons false (.var 6) .nil))))))) (.var 13))) (.cons (.ret (.con (.bool false))) .nil) .nil) (.cons (.asg (.name 8) (.bin .Add (.lst (.cons false (.tup (.cons false (.con (.int 0)) (.cons false (.con (.int 1)) .nil))) .nil)) (.comp [16] (.name 16) (.rng (.cons false (.bi .len (.cons false (.var 6) .nil)) .nil)) .none (.call "_law_low" (.cons false (.idx (.var 6) (.var 16)) (.cons false (.bin .Add (.var 16) (.con (.int 1))) .nil)))))) (.cons (.asg (.name 9) (.call "_law_add" (.cons false (.call "_law_worth" (.cons false (.var 8) (.cons false (.tup (.cons false (.var 10) (.cons false (.con (.int 1)) .nil))) .nil))) (.cons false (.call "_law_times" (.cons false (.tup (.cons false (.bin .Sub (.con (.int 0)) (.con (.int 1))) (.cons false (.con (.int 1)) .nil))) (.cons false (.call "_law_worth" (.cons false (.var 8) (.cons false (.tup (.cons false (.var 3) (.cons false (.con (.int 1)) .nil))) .nil))) .nil))) .nil)))) (.cons (.asg (.name 9) (.call "_law_add" (.cons false (.var 9) (.cons false (.tup (.cons false (.bin .Sub (.con (.int 0)) (.idx (.var 13) (.con (.int 0)))) (.cons false (.idx (.var 13) (.con (.int 1))) .nil))) .nil)))) (.cons (.ifs (.val (.cmp .NotEq (.call "cut_gap" (.cons false (.var 3) (.cons false (.var 10) (.cons false (.var 11) (.cons false (.var 4) (.cons false (.var 5) (.cons false (.var 6) .nil))))))) (.var 9))) (.cons (.ret (.con (.bool false))) .nil) .nil) .nil))))))))))))
theorem p6 : (2 : Nat) ^ 6 = 64 := by decide
theorem p5 : (2 : Nat) ^ 5 = 32 := by decide
theorem p11 : (2 : Nat) ^ 11 = 2048 := by decide
theorem p4 : (2 : Nat) ^ 4 = 16 := by decide
theorem turn_ok (ns : List Int) (i : Nat) (s : Sto) (y2 y3 y4 y5 y6 y7 y8 y9 y10 y11 y12 y13 y14 y15 y16 y17 y18 : Option D) (hrow : RowAt s 0 ns) (hi : i < 3) : LawC ns (forB (evN tx 29) (.name 2) lawBody (.int (0 + i)) [some (.fz ns), some (.loc 0), y2, y3, y4, y5, y6, y7, y8, y9, y10, y11, y12, y13, y14, y15, y16, y17, y18] s) := by
  obtain ⟨v1, s1, c1, a1, b1, r1, f1, l1⟩ := taken_ok tT 28 s 0 ns 30 hrow (by decide) (by decide)
  obtain ⟨lw, hlw⟩ : ∃ lw : Int, v1 - 20 = lw := ⟨_, rfl⟩
  obtain ⟨v2, s2, c2, a2, b2, r2, f2, l2⟩ := taken_ok tT 28 s1 0 ns (20 - lw) r1 (by omega) (by omega)
  obtain ⟨v3, s3, c3, a3, b3, r3, f3, l3⟩ := taken_ok tT 28 s2 0 ns 12 r2 (by decide) (by decide)
  obtain ⟨hg, hhg⟩ : ∃ hg : Int, lw + 1 + v2 = hg := ⟨_, rfl⟩
  obtain ⟨q, hq⟩ : ∃ q : Nat, 1 + v3 = (q : Int) := ⟨(1 + v3).toNat, by omega⟩
  obtain ⟨ps, s4, c4, r4, f4, pl1, pl2, prw, pinc⟩ := places_ok 27 s3 0 ns r3
  obtain ⟨ws, s5, c5, r5, f5, wl, wrw⟩ := fractions_ok 27 s4 0 ns r4 ps.length pl2
  simp only [Nat.reduceAdd] at c1 c2 c3 c4 c5
  obtain ⟨v6, s6, c6, a6, b6, r6, f6, l6⟩ := taken_ok tT 28 s5 0 ns 6 r5 (by decide) (by decide)
  simp only [Nat.reduceAdd] at c6
  obtain ⟨m, hm⟩ : ∃ m : Nat, v6 = (m : Int) := ⟨v6.toNat, by omega⟩
  have hrngm : wkRange [.int (m : Int)] = some (wkRng 0 m) := by simp [wkRange, big_nat m (by omega)]
  simp only [forB, g_name, List.set]
  refine ss_nx (LawC ns) (lo1 := [some (.fz ns), some (.loc 0), some (.int (0 + (i : Int))), some (.int lw), y4, y5, y6, y7, y8, y9, y10, y11, y12, y13, y14, y15, y16, y17, y18]) (st1 := s1) ?_ ?_
  · simp only [bind_ok, toFl_ok, lift_some, List.set, List.getElem?_cons_zero, List.getElem?_cons_succ, evN_cl, Option.map_some, s_asg, s_par, s_par3, s_ifs, s_ret, e_call, e_bi, e_bin, e_idx, e_tup, e_lst, e_cmp, t_val, e_var, e_int, a_cons, a_nil, g_name, b_add, b_sub, idx0, idx1, List.length_cons, List.length_nil, Nat.zero_add, Nat.reduceAdd, sz2, sz1, if_true, tru_bl, c1, hlw]
  refine ss_nx (LawC ns) (lo1 := [some (.fz ns), some (.loc 0), some (.int (0 + (i : Int))), some (.int lw), y4, y5, y6, y7, y8, y9, some (.int hg), some (.int (q : Int)), y12, y13, y14, y15, y16, y17, y18]) (st1 := s3) ?_ ?_
  · simp only [bind_ok, toFl_ok, lift_some, List.set, List.getElem?_cons_zero, List.getElem?_cons_succ, evN_cl, Option.map_some, s_asg, s_par, s_par3, s_ifs, s_ret, e_call, e_bi, e_bin, e_idx, e_tup, e_lst, e_cmp, t_val, e_var, e_int, a_cons, a_nil, g_name, b_add, b_sub, idx0, idx1, List.length_cons, List.length_nil, Nat.zero_add, Nat.reduceAdd, sz2, sz1, if_true, tru_bl, c2, c3, hhg, hq]
  refine ss_nx (LawC ns) (lo1 := [some (.fz ns), some (.loc 0), some (.int (0 + (i : Int))), some (.int lw), some (.tup (ps.map pr)), y5, y6, y7, y8, y9, some (.int hg), some (.int (q : Int)), y12, y13, y14, y15, y16, y17, y18]) (st1 := s4) ?_ ?_
  · simp only [bind_ok, toFl_ok, lift_some, List.set, List.getElem?_cons_zero, List.getElem?_cons_succ, evN_cl, Option.map_some, s_asg, s_par, s_par3, s_ifs, s_ret, e_call, e_bi, e_bin, e_idx, e_tup, e_lst, e_cmp, t_val, e_var, e_int, a_cons, a_nil, g_name, b_add, b_sub, idx0, idx1, List.length_cons, List.length_nil, Nat.zero_add, Nat.reduceAdd, sz2, sz1, if_true, tru_bl, c4]
  have hlenp : ∀ s : Sto, biD .len [.tup (ps.map pr)] s = some (.int (ps.length : Int), s) := fun s => by simpa using len_seq (st := s) (d := .tup (ps.map pr)) (xs := ps.map pr) rfl
  refine ss_nx (LawC ns) (lo1 := [some (.fz ns), some (.loc 0), some (.int (0 + (i : Int))), some (.int lw), some (.tup (ps.map pr)), some (.tup (ws.map pr)), y6, y7, y8, y9, some (.int hg), some (.int (q : Int)), y12, y13, y14, y15, y16, y17, y18]) (st1 := s5) ?_ ?_
  · simp only [bind_ok, toFl_ok, lift_some, List.set, List.getElem?_cons_zero, List.getElem?_cons_succ, evN_cl, Option.map_some, s_asg, s_par, s_par3, s_ifs, s_ret, e_call, e_bi, e_bin, e_idx, e_tup, e_lst, e_cmp, t_val, e_var, e_int, a_cons, a_nil, g_name, b_add, b_sub, idx0, idx1, List.length_cons, List.length_nil, Nat.zero_add, Nat.reduceAdd, sz2, sz1, if_true, tru_bl, hlenp, c5]
  obtain ⟨acc, s7, hcomp, poly, hacc, hpl, hpc, r7, f7⟩ := ev_comp (E := evN tx 29) (own := [16]) (t := .name 16) (it := .rng (.cons false (.call "_law_taken" (.cons false (.var 1) (.cons false (.con (.int 6)) .nil))) .nil)) (c := .none)
    (elt := .bin .Sub (.call "_law_taken" (.cons false (.var 1) (.cons false (.con (.int 19)) .nil))) (.con (.int 9)))
    (lo := [some (.fz ns), some (.loc 0), some (.int (0 + (i : Int))), some (.int lw), some (.tup (ps.map pr)), some (.tup (ws.map pr)), y6, y7, y8, y9, some (.int hg), some (.int (q : Int)), y12, y13, y14, y15, y16, y17, y18]) (st := s5) (st1 := s6) (w := wkRng 0 m) (n := m)
    (fun j acc s => ∃ poly : List Int, acc = poly.map .int ∧ poly.length = j ∧ (∀ c ∈ poly, -9 ≤ c ∧ c ≤ 9) ∧ RowAt s 0 ns ∧ Fm 0 s6 s) (by simp only [bind_ok, toFl_ok, lift_some, List.set, List.getElem?_cons_zero, List.getElem?_cons_succ, evN_cl, Option.map_some, s_asg, s_par, s_par3, s_ifs, s_ret, e_call, e_bi, e_bin, e_idx, e_tup, e_lst, e_cmp, t_val, e_var, e_int, a_cons, a_nil, g_name, b_add, b_sub, idx0, idx1, List.length_cons, List.length_nil, Nat.zero_add, Nat.reduceAdd, sz2, sz1, if_true, tru_bl, i_rng, c6, hm, hrngm]) rfl ⟨[], rfl, rfl, by simp, r6, Fm.refl ..⟩
    (by
      rintro j acc s hj ⟨poly, rfl, hpl, hpc, hrow', hfm⟩
      obtain ⟨w1, t1, d1, e1, g1, q1, k1, m1⟩ := taken_ok tT 28 s 0 ns 19 hrow' (by decide) (by decide)
      simp only [Nat.reduceAdd] at d1
      refine ⟨.int (0 + j), by simp [hj], .inl ⟨.int (w1 - 9), t1, ?_, by simp [szOk]; omega, poly ++ [w1 - 9], by simp, by simp [hpl], ?_, q1, hfm.trans k1⟩⟩
      · simp only [compB, wipeD, c_none, bind_ok, toFl_ok, lift_some, List.set, List.getElem?_cons_zero, List.getElem?_cons_succ, evN_cl, Option.map_some, s_asg, s_par, s_par3, s_ifs, s_ret, e_call, e_bi, e_bin, e_idx, e_tup, e_lst, e_cmp, t_val, e_var, e_int, a_cons, a_nil, g_name, b_add, b_sub, idx0, idx1, List.length_cons, List.length_nil, Nat.zero_add, Nat.reduceAdd, sz2, sz1, if_true, tru_bl, d1]
      · intro c hc
        rcases List.mem_append.mp hc with hc | hc
        · exact hpc c hc
        · simp at hc; omega)
    (by rintro acc s _; simp)
  subst hacc
  have hbt : biD .tuple [.loc s7.length] (s7 ++ [.lst (poly.map .int)]) = some (.tup (poly.map .int), s7 ++ [.lst (poly.map .int)]) := by simp only [biD, seq_loc (get_last s7 (.lst (poly.map .int))), Option.map_some]
  have r8 := r7.app [.lst (poly.map .int)]
  refine ss_nx (LawC ns) (lo1 := [some (.fz ns), some (.loc 0), some (.int (0 + (i : Int))), some (.int lw), some (.tup (ps.map pr)), some (.tup (ws.map pr)), some (.tup (poly.map .int)), y7, y8, y9, some (.int hg), some (.int (q : Int)), y12, y13, y14, y15, y16, y17, y18]) (st1 := s7 ++ [.lst (poly.map .int)]) ?_ ?_
  · simp only [bind_ok, toFl_ok, lift_some, List.set, List.getElem?_cons_zero, List.getElem?_cons_succ, evN_cl, Option.map_some, s_asg, s_par, s_par3, s_ifs, s_ret, e_call, e_bi, e_bin, e_idx, e_tup, e_lst, e_cmp, t_val, e_var, e_int, a_cons, a_nil, g_name, b_add, b_sub, idx0, idx1, List.length_cons, List.length_nil, Nat.zero_add, Nat.reduceAdd, sz2, sz1, if_true, tru_bl, hcomp, hbt]
  generalize s7 ++ [.lst (poly.map .int)] = s8 at r8
  obtain ⟨acc2, s9, hcomp2, hacc2, hs9⟩ := ev_comp (E := evN tx 29) (own := [18]) (t := .name 18) (it := .seq (.var 6)) (c := .none) (elt := .tup (.cons false (.var 18) (.cons false (.con (.int 1)) .nil)))
    (lo := [some (.fz ns), some (.loc 0), some (.int (0 + (i : Int))), some (.int lw), some (.tup (ps.map pr)), some (.tup (ws.map pr)), some (.tup (poly.map .int)), y7, y8, y9, some (.int hg), some (.int (q : Int)), y12, y13, y14, y15, y16, y17, y18]) (st := s8) (st1 := s8) (w := wkTup (poly.map .int)) (n := poly.length)
    (fun j acc s => acc = (poly.take j).map (fun c : Int => frac (c : Rat)) ∧ s = s8) (by simp [wkSeq]) (by simp [wkTup]) ⟨by simp, rfl⟩
    (by
      rintro j acc s hj ⟨hacc, rfl⟩
      refine ⟨.int poly[j], by simp [wkTup, hj], .inl ⟨frac (poly[j] : Rat), s, ?_, ?_, ?_, rfl⟩⟩
      · simp [compB, wipeD]
      · rw [hacc]; simp [szOk]; omega
      · rw [hacc, List.take_succ_eq_append_getElem hj, List.map_append]; rfl)
    (by rintro acc s ⟨_, rfl⟩; simp [wkTup])
  subst hs9
  have hacc2 : acc2 = (poly.map fun c : Int => (c : Rat)).map frac := by rw [hacc2, List.take_length]; simp
  subst hacc2
  have hb1 : (hg - lw).natAbs < 2 ^ 6 := by have := p6; omega
  have hb2 : (2 * (q : Int)).natAbs < 2 ^ 6 := by have := p6; omega
  have hb3 : (2 * (q : Int)) ≠ 0 := by omega
  have mq : mulOk 2 (q : Int) = true := mulOk_of (a := 2) (b := 6) (by decide) (by have := p6; omega) (by decide) (by decide) (by decide)
  have r10 := r8.app [.lst ((poly.map fun c : Int => (c : Rat)).map frac)]
  have hsm : ∀ more : Sto, seqOf (s9 ++ [.lst ((poly.map fun c : Int => (c : Rat)).map frac)] ++ more) (.loc s9.length) = some ((poly.map fun c : Int => (c : Rat)).map frac) := fun more => seq_loc (by rw [List.append_assoc]; simp)
  have hsm0 := hsm []
  rw [List.append_nil] at hsm0
  have hlow : ∀ s : Sto, callN tx 29 "_law_low" [.int (hg - lw), .int (2 * (q : Int))] s = .ok (frac (Rat.divInt (hg - lw) (2 * q))) s := fun s => lawlow_ok tL cu.w 28 (hg - lw) (2 * q) s hb1 hb2 hb3 (by decide) (by decide)
  have hh : Bd 6 (Rat.divInt (hg - lw) (2 * q)) := Bd.divInt hb1 hb2 hb3
  obtain ⟨h, hhd⟩ : ∃ h, h = Rat.divInt (hg - lw) (2 * q) := ⟨_, rfl⟩
  rw [← hhd] at hh
  simp only [← hhd] at hlow
  refine ss_nx (LawC ns) (lo1 := [some (.fz ns), some (.loc 0), some (.int (0 + (i : Int))), some (.int lw), some (.tup (ps.map pr)), some (.tup (ws.map pr)), some (.tup (poly.map .int)), y7, y8, y9, some (.int hg), some (.int (q : Int)), some (.loc s9.length), some (.tup [.int 0, .int 1]), some (frac h), y15, y16, y17, y18]) (st1 := s9 ++ [.lst ((poly.map fun c : Int => (c : Rat)).map frac)]) ?_ ?_
  · simp only [bind_ok, toFl_ok, lift_some, List.set, List.getElem?_cons_zero, List.getElem?_cons_succ, evN_cl, Option.map_some, s_asg, s_par, s_par3, s_ifs, s_ret, e_call, e_bi, e_bin, e_idx, e_tup, e_lst, e_cmp, t_val, e_var, e_int, a_cons, a_nil, g_name, b_add, b_sub, idx0, idx1, List.length_cons, List.length_nil, Nat.zero_add, Nat.reduceAdd, sz2, sz1, if_true, tru_bl, hcomp2, b_mul mq, hlow]
  generalize hS10 : s9 ++ [.lst ((poly.map fun c : Int => (c : Rat)).map frac)] = s10 at r10 hsm0
  have hCut : CutIn lw hg q ps ws poly 5 4 := {
    lo1 := by omega
    hi1 := by omega
    lt := by omega
    parts1 := by omega
    len := by omega
    ne := by intro e; rw [e] at pl1; simp at pl1
    leq := by omega
    den := fun p hp => (prw p hp).nz
    dew := fun p hp => (wrw p hp).nz
    sz := fun p hp => ⟨(prw p hp).a, (prw p hp).b⟩
    szw := fun p hp => ⟨(wrw p hp).a, (wrw p hp).b⟩
    inc := pinc
    pl := by omega
    pc := fun c hc => by have := hpc c hc; have := p4; omega
    k0 := by decide
    kc0 := by decide
    big := by
      have hq12 : q ≤ 12 := by omega
      have h5 : poly.length ≤ 5 := by omega
      have e1 : poly.length * (5 + 24 + 4 + 1) ≤ 5 * 34 := Nat.mul_le_mul h5 (by decide)
      have e2 : ps.length * (5 + (poly.length * (5 + 24 + 4 + 1) + 1) + 1) ≤ 3 * 177 := Nat.mul_le_mul pl2 (by omega)
      have e3 : q * ((1 + ps.length * (5 + (poly.length * (5 + 24 + 4 + 1) + 1) + 1)) + 7) ≤ 12 * 539 := Nat.mul_le_mul hq12 (by omega)
      have e4 : poly.length * (4 + 67) ≤ 5 * 71 := Nat.mul_le_mul h5 (by decide)
      omega }
  obtain ⟨hl, hc, hlen⟩ := hCut.bds
  obtain ⟨l, hld⟩ : ∃ l, l = rule ps ws := ⟨_, rfl⟩
  obtain ⟨cs, hcsd⟩ : ∃ cs, cs = poly.map fun c : Int => (c : Rat) := ⟨_, rfl⟩
  have hcsl : cs.length = poly.length := by rw [hcsd]; simp
  rw [← hld] at hl hlen
  rw [← hcsd] at hc hsm0 hS10
  have hlg : ∀ (k : Nat) (hk : k < ps.length), l[k]? = some (fq ps[k], fq (ws[k]'(by rw [wl]; exact hk))) := by
    intro k hk
    rw [hld]
    have hk2 : k < ws.length := by omega
    simp [Fx.rule, List.getElem?_zip_eq_some, hk, hk2]
  have hrngq : wkRange [.int (q : Int)] = some (wkRng 0 q) := by simp [wkRange, big_nat q (by omega)]
  have hrngp : wkRange [.int (ps.length : Int)] = some (wkRng 0 ps.length) := by simp [wkRange, big_nat ps.length (by omega)]
  have hcutb := fun p hp => cutS_bd (lo := lw) (l := l) (cs := cs) (by omega) hh hl hc p hp
  rw [hlen] at hcutb
  have h5c : cs.length * (5 + 24 + 4 + 1) ≤ 5 * 34 := Nat.mul_le_mul (by omega) (by decide)
  have h3c : ps.length * (5 + (cs.length * (5 + 24 + 4 + 1) + 1) + 1) ≤ 3 * 177 := Nat.mul_le_mul pl2 (by omega)
  refine ss_for (LawC ns) (n := q) (fun p lo s => s = s10 ∧ ∃ z7 z15 z16 z17 z18, lo = [some (.fz ns), some (.loc 0), some (.int (0 + (i : Int))), some (.int lw), some (.tup (ps.map pr)), some (.tup (ws.map pr)), some (.tup (poly.map .int)), z7, y8, y9, some (.int hg), some (.int (q : Int)), some (.loc s9.length), some (frac (cutS lw h l cs p)), some (frac h), z15, z16, z17, z18]) (st1 := s10) (w := wkRng 0 q) ?_ rfl ⟨rfl, y7, y15, y16, y17, y18, rfl⟩ ?_ ?_ ?_
  · simp only [bind_ok, toFl_ok, lift_some, List.set, List.getElem?_cons_zero, List.getElem?_cons_succ, evN_cl, Option.map_some, s_asg, s_par, s_par3, s_ifs, s_ret, e_call, e_bi, e_bin, e_idx, e_tup, e_lst, e_cmp, t_val, e_var, e_int, a_cons, a_nil, g_name, b_add, b_sub, idx0, idx1, List.length_cons, List.length_nil, Nat.zero_add, Nat.reduceAdd, sz2, sz1, if_true, tru_bl, i_rng, hrngq]
  · rintro p lo s hp ⟨rfl, z7, z15, z16, z17, z18, rfl⟩
    have hp12 : p < 12 := by omega
    have hmb := mid_bd (lo := lw) (by omega) hh hp12
    have n1 : (2 * lw * q + (2 * (p : Int) + 1) * (hg - lw)).natAbs < 2 ^ 11 := by
      have e := p11
      have x1 : (2 * lw * q).natAbs ≤ 40 * 12 := by rw [Int.natAbs_mul]; exact Nat.mul_le_mul (by omega) (by omega)
      have x2 : ((2 * (p : Int) + 1) * (hg - lw)).natAbs ≤ 23 * 40 := by rw [Int.natAbs_mul]; exact Nat.mul_le_mul (by omega) (by omega)
      have x3 := Int.natAbs_add_le (2 * lw * q) ((2 * (p : Int) + 1) * (hg - lw))
      omega
    have n2 : (2 * (q : Int)).natAbs < 2 ^ 11 := by have := p11; omega
    have cm : callN tx 29 "_law_low" [.int (2 * lw * q + (2 * (p : Int) + 1) * (hg - lw)), .int (2 * (q : Int))] s = .ok (frac (mid lw h p)) s := by
      rw [hhd, ← low_mid lw hg q p (by omega)]
      exact lawlow_ok tL cu.w 28 _ _ s n1 n2 hb3 (by decide) (by decide)
    have m1 : mulOk 2 lw = true := mulOk_of (a := 2) (b := 6) (by decide) (by have := p6; omega) (by decide) (by decide) (by decide)
    have m2 : mulOk (2 * lw) (q : Int) = true := mulOk_of (a := 6) (b := 6) (by have := p6; omega) (by have := p6; omega) (by decide) (by decide) (by decide)
    have m3 : mulOk 2 (p : Int) = true := mulOk_of (a := 2) (b := 6) (by decide) (by have := p6; omega) (by decide) (by decide) (by decide)
    have m4 : mulOk (2 * (p : Int) + 1) (hg - lw) = true := mulOk_of (a := 6) (b := 6) (by have := p6; omega) (by have := p6; omega) (by decide) (by decide) (by decide)
    refine ⟨.int (p : Int), by simp [hp], ?_⟩
    simp only [forB, g_name, List.set]
    refine ss_nx (fun F => ∃ lo' st', F = .nx lo' st' ∧ (st' = s ∧ ∃ z7 z15 z16 z17 z18, lo' = [some (.fz ns), some (.loc 0), some (.int (0 + (i : Int))), some (.int lw), some (.tup (ps.map pr)), some (.tup (ws.map pr)), some (.tup (poly.map .int)), z7, y8, y9, some (.int hg), some (.int (q : Int)), some (.loc s9.length), some (frac (cutS lw h l cs (p + 1))), some (frac h), z15, z16, z17, z18])) (lo1 := [some (.fz ns), some (.loc 0), some (.int (0 + (i : Int))), some (.int lw), some (.tup (ps.map pr)), some (.tup (ws.map pr)), some (.tup (poly.map .int)), some (.int (p : Int)), y8, y9, some (.int hg), some (.int (q : Int)), some (.loc s9.length), some (frac (cutS lw h l cs p)), some (frac h), some (frac (mid lw h p)), z16, z17, z18]) (st1 := s) ?_ ?_
    · simp only [bind_ok, toFl_ok, lift_some, List.set, List.getElem?_cons_zero, List.getElem?_cons_succ, evN_cl, Option.map_some, s_asg, s_par, s_par3, s_ifs, s_ret, e_call, e_bi, e_bin, e_idx, e_tup, e_lst, e_cmp, t_val, e_var, e_int, a_cons, a_nil, g_name, b_add, b_sub, idx0, idx1, List.length_cons, List.length_nil, Nat.zero_add, Nat.reduceAdd, sz2, sz1, if_true, tru_bl, b_mul m1, b_mul m2, b_mul m3, b_mul m4, b_mul mq, cm]
    refine ss_for (fun F => ∃ lo' st', F = .nx lo' st' ∧ (st' = s ∧ ∃ z7 z15 z16 z17 z18, lo' = [some (.fz ns), some (.loc 0), some (.int (0 + (i : Int))), some (.int lw), some (.tup (ps.map pr)), some (.tup (ws.map pr)), some (.tup (poly.map .int)), z7, y8, y9, some (.int hg), some (.int (q : Int)), some (.loc s9.length), some (frac (cutS lw h l cs (p + 1))), some (frac h), z15, z16, z17, z18])) (n := ps.length) (fun k lo s' => s' = s ∧ ∃ w16 w17 w18, lo = [some (.fz ns), some (.loc 0), some (.int (0 + (i : Int))), some (.int lw), some (.tup (ps.map pr)), some (.tup (ws.map pr)), some (.tup (poly.map .int)), some (.int (p : Int)), y8, y9, some (.int hg), some (.int (q : Int)), some (.loc s9.length), some (frac (cutS lw h l cs p + h * rd (cutl lw h (l.take k) p) cs)), some (frac h), some (frac (mid lw h p)), w16, w17, w18]) (st1 := s) (w := wkRng 0 ps.length) ?_ rfl ⟨rfl, z16, z17, z18, ?_⟩ ?_ ?_ ?_
    · simp only [bind_ok, toFl_ok, lift_some, List.set, List.getElem?_cons_zero, List.getElem?_cons_succ, evN_cl, Option.map_some, s_asg, s_par, s_par3, s_ifs, s_ret, e_call, e_bi, e_bin, e_idx, e_tup, e_lst, e_cmp, t_val, e_var, e_int, a_cons, a_nil, g_name, b_add, b_sub, idx0, idx1, List.length_cons, List.length_nil, Nat.zero_add, Nat.reduceAdd, sz2, sz1, if_true, tru_bl, i_rng, hlenp, hrngp]
    · have e0 : cutS lw h l cs p + h * rd (cutl lw h (l.take 0) p) cs = cutS lw h l cs p := by simp only [List.take_zero, cutl, List.map_nil, rd, List.foldl_nil]; grind
      rw [e0]
    · rintro k lo s' hk ⟨rfl, w16, w17, w18, rfl⟩
      have hk2 : k < ws.length := by omega
      have hpk := prw ps[k] (List.getElem_mem hk)
      have hwk := wrw ws[k] (List.getElem_mem hk2)
      have hx : idxD (.tup (ps.map pr)) (.int (k : Int)) s' = some (pr ps[k]) := idx_seq (xs := ps.map pr) rfl (by simp [hk])
      have hwx : idxD (.tup (ws.map pr)) (.int (k : Int)) s' = some (pr ws[k]) := idx_seq (xs := ws.map pr) rfl (by simp [hk2])
      have ct := lawtimes_raw cu.w tL tM 27 _ _ s' hh.rw hpk (by decide)
      rw [fq_frac] at ct
      have bt := Bd.mul hh hpk.bd
      have ca := lawadd_ok cu.w tL tA 27 _ _ s' hmb bt (by decide)
      have ba := Bd.add hmb bt
      have cw := lawtimes_raw cu.w tL tM 27 _ _ s' hwk hh.rw (by decide)
      rw [fq_frac] at cw
      have bw := Bd.mul hwk.bd hh
      have hcl34 : cs.length * (17 + (6 + 5) + 1 + 4 + 1) ≤ 5 * 34 := Nat.mul_le_mul (by omega) (by decide)
      have co := lawworth_ok cu.w tL tA tM tW 26 s' (cs := cs) hsm0 (by omega) ba hc (by omega)
      have bo := hor_bd ba hc
      have c1 := lawtimes_ok cu.w tL tM 27 _ _ s' bw bo (by omega)
      have b1 := Bd.mul bw bo
      have hrk : Bd (1 + k * (5 + (cs.length * (5 + 24 + 4 + 1) + 1) + 1)) (rd (cutl lw h (l.take k) p) cs) := by
        have := rdc_bd (lo := lw) (l := l.take k) (cs := cs) (kx := 5) (kw := 5) (kc := 4) (by omega) hh (fun p hp => hl p (List.mem_of_mem_take hp)) hc hp12
        rw [List.length_take, Nat.min_eq_left (by omega)] at this
        exact this
      have hkm : k * (5 + (cs.length * (5 + 24 + 4 + 1) + 1) + 1) ≤ 3 * 177 := Nat.mul_le_mul (by omega) (by omega)
      have hcp := hcutb p (by omega)
      have hpm : p * ((1 + ps.length * (5 + (cs.length * (5 + 24 + 4 + 1) + 1) + 1)) + 7) ≤ 12 * 539 := Nat.mul_le_mul (by omega) (by omega)
      have bs := Bd.add hcp (Bd.mul hh hrk)
      have cs2 := lawadd_ok cu.w tL tA 27 _ _ s' bs b1 (by omega)
      simp only [Nat.reduceAdd] at ct ca cw co c1 cs2
      have hstep : cutS lw h l cs p + h * rd (cutl lw h (l.take (k + 1)) p) cs = cutS lw h l cs p + h * rd (cutl lw h (l.take k) p) cs + fq ws[k] * h * hor cs (mid lw h p + h * fq ps[k]) := by
        have hkl : k < l.length := by omega
        have e := hlg k hk
        rw [List.getElem?_eq_getElem hkl] at e
        rw [List.take_succ_eq_append_getElem hkl, Option.some.inj e, cutl, List.map_append, List.map_singleton, rd_snoc]
        simp only [cutl]
        grind
      refine ⟨.int (k : Int), by simp [hk], [some (.fz ns), some (.loc 0), some (.int (0 + (i : Int))), some (.int lw), some (.tup (ps.map pr)), some (.tup (ws.map pr)), some (.tup (poly.map .int)), some (.int (p : Int)), y8, y9, some (.int hg), some (.int (q : Int)), some (.loc s9.length), some (frac (cutS lw h l cs p + h * rd (cutl lw h (l.take (k + 1)) p) cs)), some (frac h), some (frac (mid lw h p)), some (.int (k : Int)), some (frac (mid lw h p + h * fq ps[k])), some (frac (fq ws[k] * h * hor cs (mid lw h p + h * fq ps[k])))], s', ?_, rfl, _, _, _, rfl⟩
      rw [hstep]
      simp only [forB, ss_cons, ss_nil, bind_ok, toFl_ok, lift_some, List.set, List.getElem?_cons_zero, List.getElem?_cons_succ, evN_cl, Option.map_some, s_asg, s_par, s_par3, s_ifs, s_ret, e_call, e_bi, e_bin, e_idx, e_tup, e_lst, e_cmp, t_val, e_var, e_int, a_cons, a_nil, g_name, b_add, b_sub, idx0, idx1, List.length_cons, List.length_nil, Nat.zero_add, Nat.reduceAdd, sz2, sz1, if_true, tru_bl, hx, ct, ca, hwx, cw, co, c1, cs2]
    · rintro lo s' ⟨rfl, w16, w17, w18, rfl⟩; simp
    · rintro lo s' ⟨rfl, w16, w17, w18, rfl⟩
      have e0 : cutS lw h l cs p + h * rd (cutl lw h (l.take ps.length) p) cs = cutS lw h l cs (p + 1) := by rw [← hlen, List.take_length]; rfl
      rw [e0]
      exact ⟨_, s', ss_nil _ _ _, rfl, _, _, _, _, _, rfl⟩
  · rintro lo s ⟨rfl, z7, z15, z16, z17, z18, rfl⟩; simp
  rintro lo s ⟨rfl, z7, z15, z16, z17, z18, rfl⟩
  have hCS : CS lw hg q ps ws poly = cutS lw h l cs q := by rw [CS, ← hhd, ← hld, ← hcsd]
  obtain ⟨more1, k1⟩ := cut_sum_ok cu hCut 23 s
  rw [hCS] at k1
  simp only [Nat.reduceAdd] at k1
  refine ss_nx (LawC ns) (lo1 := [some (.fz ns), some (.loc 0), some (.int (0 + (i : Int))), some (.int lw), some (.tup (ps.map pr)), some (.tup (ws.map pr)), some (.tup (poly.map .int)), z7, y8, y9, some (.int hg), some (.int (q : Int)), some (.loc s9.length), some (frac (cutS lw h l cs q)), some (frac h), z15, z16, z17, z18]) (st1 := s ++ more1) ?_ ?_
  · simp only [bind_ok, toFl_ok, lift_some, List.set, List.getElem?_cons_zero, List.getElem?_cons_succ, evN_cl, Option.map_some, s_asg, s_par, s_par3, s_ifs, s_ret, e_call, e_bi, e_bin, e_idx, e_tup, e_lst, e_cmp, t_val, e_var, e_int, a_cons, a_nil, g_name, b_add, b_sub, idx0, idx1, List.length_cons, List.length_nil, Nat.zero_add, Nat.reduceAdd, sz2, sz1, if_true, tru_bl, k1, ne_frac, decide_true, Bool.not_true, ss_nil]
  have r11 := r10.app more1
  generalize s ++ more1 = s11 at r11
  have hlenpo : ∀ s : Sto, biD .len [.tup (poly.map .int)] s = some (.int (poly.length : Int), s) := fun s => by simpa using len_seq (st := s) (d := .tup (poly.map .int)) (xs := poly.map .int) rfl
  have hrngl : wkRange [.int (poly.length : Int)] = some (wkRng 0 poly.length) := by simp [wkRange, big_nat poly.length (by omega)]
  have hpg : ∀ (k : Nat) (hk : k < poly.length), poly.getD k 0 = poly[k] := fun k hk => by simp [hk]
  obtain ⟨acc3, s12, hcomp3, hacc3, hs12⟩ := ev_comp (E := evN tx 29) (own := [16]) (t := .name 16) (it := .rng (.cons false (.bi .len (.cons false (.var 6) .nil)) .nil)) (c := .none)
    (elt := .call "_law_low" (.cons false (.idx (.var 6) (.var 16)) (.cons false (.bin .Add (.var 16) (.con (.int 1))) .nil)))
    (lo := [some (.fz ns), some (.loc 0), some (.int (0 + (i : Int))), some (.int lw), some (.tup (ps.map pr)), some (.tup (ws.map pr)), some (.tup (poly.map .int)), z7, y8, y9, some (.int hg), some (.int (q : Int)), some (.loc s9.length), some (frac (cutS lw h l cs q)), some (frac h), z15, z16, z17, z18]) (st := s11 ++ [.lst [.tup [.int 0, .int 1]]]) (st1 := s11 ++ [.lst [.tup [.int 0, .int 1]]]) (w := wkRng 0 poly.length) (n := poly.length)
    (fun j acc s => acc = ((List.range j).map (ents1 poly)).map frac ∧ s = s11 ++ [.lst [.tup [.int 0, .int 1]]]) (by simp only [bind_ok, toFl_ok, lift_some, List.set, List.getElem?_cons_zero, List.getElem?_cons_succ, evN_cl, Option.map_some, s_asg, s_par, s_par3, s_ifs, s_ret, e_call, e_bi, e_bin, e_idx, e_tup, e_lst, e_cmp, t_val, e_var, e_int, a_cons, a_nil, g_name, b_add, b_sub, idx0, idx1, List.length_cons, List.length_nil, Nat.zero_add, Nat.reduceAdd, sz2, sz1, if_true, tru_bl, i_rng, hlenpo, hrngl]) rfl ⟨by simp, rfl⟩
    (by
      rintro j acc s hj ⟨hacc, rfl⟩
      have hpj := hpc poly[j] (List.getElem_mem hj)
      have hx : idxD (.tup (poly.map .int)) (.int (j : Int)) (s11 ++ [.lst [.tup [.int 0, .int 1]]]) = some (.int poly[j]) := idx_seq (xs := poly.map .int) rfl (by simp [hj])
      have cl := lawlow_ok tL cu.w 28 poly[j] ((j : Int) + 1) (s11 ++ [.lst [.tup [.int 0, .int 1]]]) (k := 4) (by have := p4; omega) (by have := p4; omega) (by omega) (by decide) (by decide)
      simp only [Nat.reduceAdd] at cl
      refine ⟨.int (j : Int), by simp [hj], .inl ⟨frac (ents1 poly j), s11 ++ [.lst [.tup [.int 0, .int 1]]], ?_, ?_, ?_, rfl⟩⟩
      · rw [ents1, hpg j hj]
        simp only [compB, wipeD, c_none, bind_ok, toFl_ok, lift_some, List.set, List.getElem?_cons_zero, List.getElem?_cons_succ, evN_cl, Option.map_some, s_asg, s_par, s_par3, s_ifs, s_ret, e_call, e_bi, e_bin, e_idx, e_tup, e_lst, e_cmp, t_val, e_var, e_int, a_cons, a_nil, g_name, b_add, b_sub, idx0, idx1, List.length_cons, List.length_nil, Nat.zero_add, Nat.reduceAdd, sz2, sz1, if_true, tru_bl, hx, cl]
      · rw [hacc]; simp [szOk]; omega
      · rw [hacc, List.range_succ, List.map_append, List.map_append]; rfl)
    (by rintro acc s ⟨_, rfl⟩; simp)
  subst hs12 hacc3
  obtain ⟨es, hesd⟩ : ∃ es, es = (List.range poly.length).map (ents1 poly) := ⟨_, rfl⟩
  rw [← hesd] at hcomp3
  have hesl : es.length = poly.length := by rw [hesd]; simp
  have hesb : ∀ e ∈ (0 : Rat) :: es, Bd 4 e := by
    intro e he
    rcases List.mem_cons.mp he with rfl | he
    · exact Bd.zero.mono (by decide)
    · rw [hesd] at he
      simp only [List.mem_map, List.mem_range] at he
      obtain ⟨j, hj, rfl⟩ := he
      rw [ents1, hpg j hj]
      have hpj := hpc poly[j] (List.getElem_mem hj)
      exact Bd.divInt (by have := p4; omega) (by have := p4; omega) (by omega)
  have hcat : binD .Add (.loc s11.length) (.loc (s11 ++ [.lst [.tup [.int 0, .int 1]]] : Sto).length) (s11 ++ [.lst [.tup [.int 0, .int 1]]] ++ [.lst (es.map frac)]) = some (.loc (s11 ++ [.lst [.tup [.int 0, .int 1]]] ++ [.lst (es.map frac)] : Sto).length, s11 ++ [.lst [.tup [.int 0, .int 1]]] ++ [.lst (es.map frac)] ++ [.lst (((0 : Rat) :: es).map frac)]) := by
    have g1 : (s11 ++ [.lst [.tup [.int 0, .int 1]]] ++ [.lst (es.map frac)] : Sto)[s11.length]? = some (.lst [.tup [.int 0, .int 1]]) := by rw [List.append_assoc]; simp
    have g2 : (s11 ++ [.lst [.tup [.int 0, .int 1]]] ++ [.lst (es.map frac)] : Sto)[(s11 ++ [.lst [.tup [.int 0, .int 1]]] : Sto).length]? = some (.lst (es.map frac)) := get_last ..
    have hz : szOk (([.tup [.int 0, .int 1]] : List D).length + (es.map frac).length) = true := by simp [szOk, hesl]; omega
    simp only [binD, asM_of g1, asM_of g2, hz, if_true]
    rfl
  have r13 := r11.app ([.lst [.tup [.int 0, .int 1]]] ++ [.lst (es.map frac)] ++ [.lst (((0 : Rat) :: es).map frac)])
  have hS13 : s11 ++ ([.lst [.tup [.int 0, .int 1]]] ++ [.lst (es.map frac)] ++ [.lst (((0 : Rat) :: es).map frac)]) = s11 ++ [.lst [.tup [.int 0, .int 1]]] ++ [.lst (es.map frac)] ++ [.lst (((0 : Rat) :: es).map frac)] := by simp
  rw [hS13] at r13
  refine ss_nx (LawC ns) (lo1 := [some (.fz ns), some (.loc 0), some (.int (0 + (i : Int))), some (.int lw), some (.tup (ps.map pr)), some (.tup (ws.map pr)), some (.tup (poly.map .int)), z7, some (.loc (s11 ++ [.lst [.tup [.int 0, .int 1]]] ++ [.lst (es.map frac)] : Sto).length), y9, some (.int hg), some (.int (q : Int)), some (.loc s9.length), some (frac (cutS lw h l cs q)), some (frac h), z15, z16, z17, z18]) (st1 := s11 ++ [.lst [.tup [.int 0, .int 1]]] ++ [.lst (es.map frac)] ++ [.lst (((0 : Rat) :: es).map frac)]) ?_ ?_
  · simp only [bind_ok, toFl_ok, lift_some, List.set, List.getElem?_cons_zero, List.getElem?_cons_succ, evN_cl, Option.map_some, s_asg, s_par, s_par3, s_ifs, s_ret, e_call, e_bi, e_bin, e_idx, e_tup, e_lst, e_cmp, t_val, e_var, e_int, a_cons, a_nil, g_name, b_add, b_sub, idx0, idx1, List.length_cons, List.length_nil, Nat.zero_add, Nat.reduceAdd, sz2, sz1, if_true, tru_bl, hcomp3, hcat]
  have hse : seqOf (s11 ++ [.lst [.tup [.int 0, .int 1]]] ++ [.lst (es.map frac)] ++ [.lst (((0 : Rat) :: es).map frac)]) (.loc (s11 ++ [.lst [.tup [.int 0, .int 1]]] ++ [.lst (es.map frac)] : Sto).length) = some (((0 : Rat) :: es).map frac) := seq_loc (get_last ..)
  generalize (s11 ++ [.lst [.tup [.int 0, .int 1]]] ++ [.lst (es.map frac)] : Sto).length = L13 at hse ⊢
  generalize s11 ++ [.lst [.tup [.int 0, .int 1]]] ++ [.lst (es.map frac)] ++ [.lst (((0 : Rat) :: es).map frac)] = s13 at r13 hse ⊢
  have bhg : Bd 5 ((hg : Int) : Rat) := Bd.int (by have := p5; omega) (by decide)
  have blw : Bd 5 ((lw : Int) : Rat) := Bd.int (by have := p5; omega) (by decide)
  have hel : ((0 : Rat) :: es).length * (5 + 4 + 1) ≤ 6 * 10 := Nat.mul_le_mul (by simp; omega) (by decide)
  have w1 := lawworth_ok cu.w tL tA tM tW 26 s13 hse (by simp; omega) bhg hesb (by omega)
  have w2 := lawworth_ok cu.w tL tA tM tW 26 s13 hse (by simp; omega) blw hesb (by omega)
  have bw1 := (hor_bd bhg hesb).mono (show _ ≤ 61 by omega)
  have bw2 := (hor_bd blw hesb).mono (show _ ≤ 61 by omega)
  have bm1 : Bd 1 (-1 : Rat) := ⟨by decide, by decide⟩
  have w3 := lawtimes_ok cu.w tL tM 27 _ _ s13 bm1 bw2 (by decide)
  have w4 := lawadd_ok cu.w tL tA 27 _ _ s13 bw1 (Bd.mul bm1 bw2) (by decide)
  rw [hesd, due_law lw hg poly] at w4
  rw [← hesd] at w4
  simp only [Nat.reduceAdd] at w1 w2 w3 w4
  have ehg : (.tup [.int hg, .int 1] : D) = frac ((hg : Int) : Rat) := rfl
  have elw : (.tup [.int lw, .int 1] : D) = frac ((lw : Int) : Rat) := rfl
  have em1 : (.tup [.int (0 - 1), .int 1] : D) = frac (-1 : Rat) := rfl
  refine ss_nx (LawC ns) (lo1 := [some (.fz ns), some (.loc 0), some (.int (0 + (i : Int))), some (.int lw), some (.tup (ps.map pr)), some (.tup (ws.map pr)), some (.tup (poly.map .int)), z7, some (.loc L13), some (frac (due lw hg poly poly.length)), some (.int hg), some (.int (q : Int)), some (.loc s9.length), some (frac (cutS lw h l cs q)), some (frac h), z15, z16, z17, z18]) (st1 := s13) ?_ ?_
  · simp only [bind_ok, toFl_ok, lift_some, List.set, List.getElem?_cons_zero, List.getElem?_cons_succ, evN_cl, Option.map_some, s_asg, s_par, s_par3, s_ifs, s_ret, e_call, e_bi, e_bin, e_idx, e_tup, e_lst, e_cmp, t_val, e_var, e_int, a_cons, a_nil, g_name, b_add, b_sub, idx0, idx1, List.length_cons, List.length_nil, Nat.zero_add, Nat.reduceAdd, sz2, sz1, if_true, tru_bl, ehg, elw, em1, w1, w2, w3, w4]
  have bdue := due_bd hCut poly.length (Nat.le_refl _)
  have hcq := hcutb q (by omega)
  have hqm : q * ((1 + ps.length * (5 + (cs.length * (5 + 24 + 4 + 1) + 1) + 1)) + 7) ≤ 12 * 539 := Nat.mul_le_mul (by omega) (by omega)
  have hdm : poly.length * (4 + 68) ≤ 5 * 72 := Nat.mul_le_mul (by omega) (by decide)
  have bneg : Bd (1 + q * ((1 + ps.length * (5 + (cs.length * (5 + 24 + 4 + 1) + 1) + 1)) + 7)) (-(cutS lw h l cs q)) := ⟨by rw [Rat.neg_num, Int.natAbs_neg]; exact hcq.num, by rw [Rat.neg_den]; exact hcq.den⟩
  have w5 := lawadd_ok cu.w tL tA 27 _ _ s13 bdue bneg (by omega)
  simp only [Nat.reduceAdd] at w5
  have eneg : (.tup [.int (0 - (cutS lw h l cs q).num), .int ((cutS lw h l cs q).den : Int)] : D) = frac (-(cutS lw h l cs q)) := by
    show _ = D.tup [.int (-(cutS lw h l cs q).num), .int ((cutS lw h l cs q).den : Int)]
    rw [Int.zero_sub]
  rw [show due lw hg poly poly.length + -(cutS lw h l cs q) = due lw hg poly poly.length - cutS lw h l cs q by grind] at w5
  refine ss_nx (LawC ns) (lo1 := [some (.fz ns), some (.loc 0), some (.int (0 + (i : Int))), some (.int lw), some (.tup (ps.map pr)), some (.tup (ws.map pr)), some (.tup (poly.map .int)), z7, some (.loc L13), some (frac (due lw hg poly poly.length - cutS lw h l cs q)), some (.int hg), some (.int (q : Int)), some (.loc s9.length), some (frac (cutS lw h l cs q)), some (frac h), z15, z16, z17, z18]) (st1 := s13) ?_ ?_
  · simp only [bind_ok, toFl_ok, lift_some, List.set, List.getElem?_cons_zero, List.getElem?_cons_succ, evN_cl, Option.map_some, s_asg, s_par, s_par3, s_ifs, s_ret, e_call, e_bi, e_bin, e_idx, e_tup, e_lst, e_cmp, t_val, e_var, e_int, a_cons, a_nil, g_name, b_add, b_sub, idx0, idx1, List.length_cons, List.length_nil, Nat.zero_add, Nat.reduceAdd, sz2, sz1, if_true, tru_bl, eneg, w5]
  obtain ⟨more2, k2⟩ := cut_gap_ok cu hCut 22 s13
  rw [hCS] at k2
  simp only [Nat.reduceAdd] at k2
  refine ss_nx (LawC ns) (lo1 := [some (.fz ns), some (.loc 0), some (.int (0 + (i : Int))), some (.int lw), some (.tup (ps.map pr)), some (.tup (ws.map pr)), some (.tup (poly.map .int)), z7, some (.loc L13), some (frac (due lw hg poly poly.length - cutS lw h l cs q)), some (.int hg), some (.int (q : Int)), some (.loc s9.length), some (frac (cutS lw h l cs q)), some (frac h), z15, z16, z17, z18]) (st1 := s13 ++ more2) ?_ ?_
  · simp only [bind_ok, toFl_ok, lift_some, List.set, List.getElem?_cons_zero, List.getElem?_cons_succ, evN_cl, Option.map_some, s_asg, s_par, s_par3, s_ifs, s_ret, e_call, e_bi, e_bin, e_idx, e_tup, e_lst, e_cmp, t_val, e_var, e_int, a_cons, a_nil, g_name, b_add, b_sub, idx0, idx1, List.length_cons, List.length_nil, Nat.zero_add, Nat.reduceAdd, sz2, sz1, if_true, tru_bl, k2, ne_frac, decide_true, Bool.not_true, ss_nil]
  exact ⟨_, _, ss_nil _ _ _, _, _, _, _, _, _, _, _, _, _, _, _, _, _, _, _, _, rfl, r13.app more2⟩
theorem law_true : ∀ ns : List Int, ns.length ≤ 63 → (∀ z ∈ ns, Builtin.Int.intBits z ≤ 1048576) → ∃ st, callN tx 30 "law" [.fz ns] [] = .ok (.bl true) st := by
  intro ns _ _
  have key : ∃ st, exSs (evN tx 29) f_law.body [some (.fz ns), none, none, none, none, none, none, none, none, none, none, none, none, none, none, none, none, none, none] [] = .rt (.bl true) st := by
    refine ss_nx (fun F => ∃ st, F = .rt (.bl true) st) (lo1 := [some (.fz ns), some (.loc 0), none, none, none, none, none, none, none, none, none, none, none, none, none, none, none, none, none]) (st1 := [.lst [.fz ns, .int 0, .int 0, .int 0]]) ?_ ?_
    · simp only [bind_ok, toFl_ok, lift_some, List.set, List.getElem?_cons_zero, List.getElem?_cons_succ, evN_cl, Option.map_some, s_asg, s_par, s_par3, s_ifs, s_ret, e_call, e_bi, e_bin, e_idx, e_tup, e_lst, e_cmp, t_val, e_var, e_int, a_cons, a_nil, g_name, b_add, b_sub, idx0, idx1, List.length_cons, List.length_nil, Nat.zero_add, Nat.reduceAdd, sz2, sz1, if_true, tru_bl, sz4]
      rfl
    refine ss_for (fun F => ∃ st, F = .rt (.bl true) st) (n := 3) (fun i lo s => LawP ns lo s) (st1 := [.lst [.fz ns, .int 0, .int 0, .int 0]]) (w := wkRng 0 3) ?_ rfl ⟨_, _, _, _, _, _, _, _, _, _, _, _, _, _, _, _, _, rfl, 0, 0, 0, rfl, by decide, by decide⟩ ?_ ?_ ?_
    · simp only [bind_ok, toFl_ok, lift_some, List.set, List.getElem?_cons_zero, List.getElem?_cons_succ, evN_cl, Option.map_some, s_asg, s_par, s_par3, s_ifs, s_ret, e_call, e_bi, e_bin, e_idx, e_tup, e_lst, e_cmp, t_val, e_var, e_int, a_cons, a_nil, g_name, b_add, b_sub, idx0, idx1, List.length_cons, List.length_nil, Nat.zero_add, Nat.reduceAdd, sz2, sz1, if_true, tru_bl, i_rng]
      rfl
    · rintro i lo s hi ⟨y2, y3, y4, y5, y6, y7, y8, y9, y10, y11, y12, y13, y14, y15, y16, y17, y18, rfl, hrow⟩
      exact ⟨.int (0 + i), by simp [hi], turn_ok ns i s y2 y3 y4 y5 y6 y7 y8 y9 y10 y11 y12 y13 y14 y15 y16 y17 y18 hrow hi⟩
    · rintro lo s _; simp
    · rintro lo s ⟨y2, y3, y4, y5, y6, y7, y8, y9, y10, y11, y12, y13, y14, y15, y16, y17, y18, rfl, hrow⟩
      have hCut : CutIn (-20) 20 12 [(-1, 1), (1, 1)] [(1, 1), (1, 1)] [5, 3] 5 4 := {
        lo1 := by decide
        hi1 := by decide
        lt := by decide
        parts1 := by decide
        len := by decide
        ne := by decide
        leq := by decide
        den := by decide
        dew := by decide
        sz := by decide
        szw := by decide
        inc := by
          intro i hi
          have : i = 0 := by simp at hi; omega
          subst this
          show fq (-1, 1) < fq (1, 1)
          decide +kernel
        pl := by decide
        pc := by decide
        k0 := by decide
        kc0 := by decide
        big := by decide }
      obtain ⟨more, k⟩ := cut_gap_ok cu hCut 22 s
      simp only [Nat.reduceAdd] at k
      have hz := last_gap
      have e2 : ([5, 3] : List Int).length = 2 := rfl
      rw [e2, hz] at k
      have k' : callN tx 29 "cut_gap" [.int (0 - 20), .int 20, .int 12, .tup [.tup [.int (0 - 1), .int 1], .tup [.int 1, .int 1]], .tup [.tup [.int 1, .int 1], .tup [.int 1, .int 1]], .tup [.int 5, .int 3]] s = .ok (frac 0) (s ++ more) := k
      have e0 : (.tup [.int 0, .int 1] : D) = frac 0 := rfl
      refine ⟨s ++ more, ?_⟩
      simp only [ss_cons, ss_nil, bind_ok, toFl_ok, lift_some, List.set, List.getElem?_cons_zero, List.getElem?_cons_succ, evN_cl, Option.map_some, s_asg, s_par, s_par3, s_ifs, s_ret, e_call, e_bi, e_bin, e_idx, e_tup, e_lst, e_cmp, t_val, e_var, e_int, a_cons, a_nil, g_name, b_add, b_sub, idx0, idx1, List.length_cons, List.length_nil, Nat.zero_add, Nat.reduceAdd, sz2, sz1, if_true, tru_bl, k', e0, eq_frac, decide_true]
  obtain ⟨st, key⟩ := key
  exact ⟨st, by rw [show (30 : Nat) = 29 + 1 from rfl, call_eq tLaw 29 _ [] rfl]; exact congrArg flR key⟩
end K35
theorem PySem.Challenge.cw_fewreadings_k35_cuts_of_stretches_holds : PySem.Challenge.rw_fewreadings_k35_cuts_of_stretches.Holds := by
  w_on; o_law
  refine HandSHeadRun.head_any (r := OpenLaw.row PySem.Challenge.rw_fewreadings_k35_cuts_of_stretches) (q := view (OpenLaw.row PySem.Challenge.rw_fewreadings_k35_cuts_of_stretches).prog [42]) (H := K35.hk) (ob := K35.ob) (M := 4000) (loose := K35.loose) (d := HandSHeadRun.topDef (OpenLaw.row PySem.Challenge.rw_fewreadings_k35_cuts_of_stretches).prog 42) (kwd := []) K35.ob_eq
    (by kernel_rfl) (fun s => by kernel_rfl) K35.run (by kernel_rfl) (by kernel_rfl) (by kernel_rfl) (by rfl) (by first | assumption | decide +kernel) (by decide +kernel) ⟨rfl, rfl, rfl, rfl, rfl, by decide +kernel⟩ ?hw ?hc
  case hw => w_witness2
  case hc =>
    exact Mi.walk_M (l := PySem.Challenge.rw_fewreadings_k35_cuts_of_stretches) (n := 63) (k := 29) (m := 4) (x := "_law_script") (f := "law") (es := K35.ents) (gs := K35.cons) (C := fun _ => none) (wb := 2 ^ 9000) rfl (by decide) (by kernel_rfl) ⟨rfl, by decide, by decide⟩ K35.ok_all (by kernel_rfl) ⟨_, K35.law_mem, rfl, rfl, rfl⟩ K35.law_true
