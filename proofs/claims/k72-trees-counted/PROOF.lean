import PyProof.Rows.All
import Wide.All
import OpenK.AllK
import Wide.FinOn
import HandS.ForExc
import HandS.Comp
import HandS.Iter
import HandS.Zip
import HandS.Flow
import HandS.TupAny
import HandS.TupMul
import HandS.IsInst
import HandS.TryMany
import HandS.Defaults
import HandS.Walk
import HandS.Words
import HandS.WordsExc
import HandS.Head0
import HandS.Head1
import HandS.Head2
import HandS.HeadEnd
import HandS.HeadHook1
import HandS.HeadHook2
import KE.KStateDown
import HandS.Style
import HandS.CallSlots
import PySem.Challenge.RW_boxeskept_k72_trees_counted
set_option Elab.async false
set_option linter.all false
set_option maxRecDepth 100000
set_option maxHeartbeats 4000000
namespace BX
open PySem PySem.Spec PyProof.Rows L2

/-! ## 1. data, and a small machine over data -/
inductive D where
  | non | bl (b : Bool) | int (i : Int) | str (x : Str) | tup (l : List D) | lst (l : List D) | frz (l : List Int) | dl (c : Bool)

structure DS where
  cells : List Int
  big : Int
  mix : Int

inductive SV where
  | no | own (d : D) | pin (n : Nat) (d : D) | lck (n : Nat) (d : D)

inductive Res (α : Type) where
  | ok (a : α) (s : Option DS)
  | er (c : Nat) (s : Option DS)
  | bad

def Res.bd {α β : Type} (r : Res α) (f : α → Option DS → Res β) : Res β :=
  match r with
  | .ok a s => f a s
  | .er c s => .er c s
  | .bad => .bad

inductive Ty where
  | int | bool | str | tuple | list

inductive Op1 where
  | neg | notV | len | isN | ntN | isB (b neg : Bool) | isi (t : Ty) | tuple | list | int | sum | any | all | min | max

inductive Op2 where
  | add | sub | mul | fdiv | mod | pow | shl | shr | band | bor | lt | le | gt | ge | eq | ne | inn | nin | ix | index | min | max

inductive Tg where
  | nm (i : Nat) | nl | cn (a b : Tg) | tp (a : Tg)

inductive Ex where
  | lit (d : D) | var (i : Nat) | tup (es : Ex) | lst (es : Ex)
  | op1 (o : Op1) (a : Ex) | op2 (o : Op2) (a b : Ex) | chn (o p : Op2) (a b c : Ex)
  | nt (a : Ex) | an (a b : Ex) | orr (a b : Ex) | ife (c a b : Ex)
  | slc (a lo hi : Ex) | call (k : Nat) (es : Ex) | pcl (k : Nat) (es : Ex) | dg (a : Ex) (k : Int) | dq (o : Op2) (a b : Ex)
  | cmp (elt : Ex) (tg : Tg) (src : Ex) (cond : Ex)
  | nil | cons (e es : Ex)
  -- what is walked
  | sq (e : Ex) | r1 (e : Ex) | r2 (a b : Ex) | r3 (a b c : Ex) | zp (a b : Ex) | en (a : Ex)
  -- no condition
  | yes

inductive Sm where
  | skip | seq (a b : Sm)
  | asg (t : Tg) (e : Ex) | mov (i j : Nat)
  | aug (i : Nat) (o : Op2) (e : Ex)
  | setI (i : Nat) (ix e : Ex)
  | app (i : Nat) (e : Ex) | ext (i : Nat) (e : Ex)
  | dset (a : Ex) (k : Int) (e : Ex) | dpop (t : Tg) (a ix : Ex)
  | popA (t : Tg) (i : Nat) | popAt (t : Tg) (i : Nat) (ix : Ex) | appPop (i j : Nat) (ix : Ex)
  | expr (e : Ex) | ret (e : Ex) | retN
  | ife (c : Ex) (a b : Sm) | forS (t : Tg) (src : Ex) (b : Sm) | lock (i : Nat) (b : Sm) | wh (c : Ex) (b : Sm)
  | brk | cont | rais (c : Nat)
  | tryS (b : Sm) (hs : Sm) | hnil | hcons (c : Nat) (s : Sm) (rest : Sm)

/-! ### lists within data -/
mutual
def noL : D → Bool
  | .lst _ => false
  | .tup l => noLs l
  | _ => true
def noLs : List D → Bool
  | [] => true
  | d :: r => noL d && noLs r
end

/-! ### as the library's data -/
mutual
def toP : D → Option PyData
  | .non => some .none
  | .bl b => some (.bool b)
  | .int i => some (.int i)
  | .str x => some (.str x)
  | .tup l => (toPs l).map .tuple
  | .lst l => (toPs l).map .list
  | .frz _ => none
  | .dl _ => none
def toPs : List D → Option (List PyData)
  | [] => some []
  | d :: r => match toP d, toPs r with
    | some x, some y => some (x :: y)
    | _, _ => none
end
/-- == of data -/
def eqD (a b : D) : Option Bool :=
  match toP a, toP b with
  | some x, some y => if SeqAt.shaped x && SeqAt.shaped y then some (PyData.eqv x y) else none
  | _, _ => none

def truD : D → Option Bool
  | .non => some false
  | .bl b => some b
  | .int i => some (i != 0)
  | .tup l => some (!l.isEmpty)
  | .lst l => some (!l.isEmpty)
  | .frz l => some (!l.isEmpty)
  | .str x => if x.length ≤ sizeLine then some ((x.length : Int) != 0) else none
  | .dl _ => none

def isTy : Ty → D → Option Bool
  | _, .dl _ => none
  | _, .frz _ => none
  | .int, .int _ => some true
  | .int, .bl _ => some true
  | .int, _ => some false
  | .bool, .bl _ => some true
  | .bool, _ => some false
  | .str, .str _ => some true
  | .str, _ => some false
  | .tuple, .tup _ => some true
  | .tuple, _ => some false
  | .list, .lst _ => some true
  | .list, _ => some false

def intsOf : List D → Option (List Int)
  | [] => some []
  | .int i :: r => (intsOf r).map (i :: ·)
  | _ :: _ => none
def blsOf : List D → Option (List Bool)
  | [] => some []
  | .bl i :: r => (blsOf r).map (i :: ·)
  | _ :: _ => none
def maxI : Int → List Int → Int
  | m, [] => m
  | m, x :: r => maxI (if x > m then x else m) r
def minI : Int → List Int → Int
  | m, [] => m
  | m, x :: r => minI (if x < m then x else m) r
def seqOf : D → Option (List D)
  | .tup l => some l
  | .lst l => some l
  | .frz l => some (l.map .int)
  | _ => none
def fitL (l : List D) : Option (List D) := if l.length ≤ sizeLine then some l else none

def f1 : Op1 → D → Option D
  | .neg, .int i => some (.int (-i))
  | .notV, .bl b => some (.bl (!b))
  | .len, .tup l => some (.int l.length)
  | .len, .lst l => some (.int l.length)
  | .len, .frz l => some (.int l.length)
  | .len, .str x => if x.length ≤ sizeLine then some (.int x.length) else none
  | .isN, .dl _ => none
  | .isN, .non => some (.bl true)
  | .isN, _ => some (.bl false)
  | .ntN, .dl _ => none
  | .ntN, .non => some (.bl false)
  | .ntN, _ => some (.bl true)
  | .isB b neg, .bl c => some (.bl (if neg then b != c else b == c))
  | .isi t, d => (isTy t d).map .bl
  | .tuple, .lst l => some (.tup l)
  | .tuple, .tup l => some (.tup l)
  | .list, .lst l => some (.lst l)
  | .list, .tup l => some (.lst l)
  | .int, .int i => some (.int i)
  | .int, .bl b => some (.int (if b then 1 else 0))
  | .sum, .lst l => (intsOf l).map fun ns => .int ns.sum
  | .any, .lst l => (blsOf l).map fun bs => .bl (bs.any id)
  | .all, .lst l => (blsOf l).map fun bs => .bl (bs.all id)
  | .max, .lst l => match intsOf l with
    | some (m :: r) => some (.int (maxI m r))
    | _ => none
  | .min, .lst l => match intsOf l with
    | some (m :: r) => some (.int (minI m r))
    | _ => none
  | _, _ => none

def p64 : Int := 18446744073709551616
def mulOk (i j : Int) : Bool := (decide (-p64 < j) && decide (j < p64)) || (decide (-p64 < i) && decide (i < p64))
/-- where an index leads -/
def ixD (l : List D) (i : Int) : Option D := atI l i
def inD (x : D) : List D → Option Bool
  | [] => some false
  | y :: r => match eqD y x with
    | some true => some true
    | some false => inD x r
    | none => none
def idxD (x : D) : List D → Nat → Option Nat
  | [], _ => none
  | y :: r, n => match eqD y x with
    | some true => some n
    | some false => idxD x r (n + 1)
    | none => none

def f2 : Op2 → D → D → Option D
  | .add, .int i, .int j => some (.int (i + j))
  | .add, .tup a, .tup b => if a.length + b.length ≤ sizeLine then some (.tup (a ++ b)) else none
  | .add, .lst a, .lst b => if a.length + b.length ≤ sizeLine then some (.lst (a ++ b)) else none
  | .sub, .int i, .int j => some (.int (i - j))
  | .mul, .int i, .int j => if mulOk i j then some (.int (i * j)) else none
  | .mul, .tup a, .int k => if a ≠ [] ∧ 1 ≤ k ∧ k ≤ 1000 ∧ a.length ≤ 1000 then some (.tup (List.replicate k.toNat a).flatten) else none
  | .mul, .lst a, .int k => if 0 ≤ k ∧ k ≤ 1000000 ∧ a.length * k.toNat ≤ sizeLine then some (.lst (List.replicate k.toNat a).flatten) else none
  | .fdiv, .int i, .int j => if j ≠ 0 ∧ j.natAbs < 1073741824 then some (.int (i.fdiv j)) else none
  | .mod, .int i, .int j => if j ≠ 0 then some (.int (i.fmod j)) else none
  | .pow, .int i, .int j => if 0 ≤ j ∧ j ≤ 1000000 ∧ i.natAbs < 2 ^ 64 then some (.int (i ^ j.toNat)) else none
  | .shl, .int i, .int j => if 0 ≤ j ∧ j ≤ 1000000 ∧ i.natAbs < 2 ^ 64 then some (.int (i * 2 ^ j.toNat)) else none
  | .shr, .int i, .int j => if 0 ≤ j then some (.int (i / 2 ^ j.toNat)) else none
  | .band, .int i, .int j => some (.int (Builtin.bitAnd i j))
  | .bor, .int i, .int j => some (.int (Builtin.bitOr i j))
  | .lt, .int i, .int j => some (.bl (decide (i < j)))
  | .le, .int i, .int j => some (.bl (decide (i ≤ j)))
  | .gt, .int i, .int j => some (.bl (decide (j < i)))
  | .ge, .int i, .int j => some (.bl (decide (j ≤ i)))
  | .eq, a, b => (eqD a b).map .bl
  | .ne, a, b => (eqD a b).map fun c => .bl (!c)
  | .ix, .tup l, .int i => ixD l i
  | .ix, .lst l, .int i => ixD l i
  | .min, .int i, .int j => some (.int (if j < i then j else i))
  | .max, .int i, .int j => some (.int (if j > i then j else i))
  | _, _, _ => none

def cutD (l : List D) (lo hi : Option Int) : List D := (l.drop (HT.sIx l.length 0 lo)).take (HT.sIx l.length l.length hi - HT.sIx l.length 0 lo)
def partOf : List D → Option (Option Int)
  | [] => some none
  | [.int i] => some (some i)
  | _ => none
def f3 (a : D) (lo hi : List D) : Option D :=
  match partOf lo, partOf hi with
  | some l, some h => match a with
    | .tup xs => some (.tup (cutD xs l h))
    | .lst xs => some (.lst (cutD xs l h))
    | .frz xs => some (.lst (cutD (xs.map .int) l h))
    | _ => none
  | _, _ => none

/-! ### what is around the machine: the callees, the draw -/
structure Gm where
  fn : Nat → List D → Option DS → Res D

/-- a call without the deal -/
def dropS (r : Res D) (s : Option DS) : Res D :=
  match r with
  | .ok d _ => .ok d s
  | .er c _ => .er c s
  | .bad => .bad
def ofO (o : Option D) (s : Option DS) : Res D :=
  match o with
  | some d => .ok d s
  | none => .bad
def fin (m : Bool) (d : D) (s : Option DS) : Res D :=
  match m with
  | false => .ok d s
  | true => match truD d with
    | some b => .ok (.bl b) s
    | none => .bad

def slot (v : List SV) (i : Nat) : Option D :=
  match v[i]? with
  | some (.own d) => some d
  | some (.pin _ d) => some d
  | some (.lck _ d) => some d
  | _ => none
/-- within a comprehension nothing is owned -/
def pinS : SV → SV
  | .no => .no
  | .own d => .pin 0 d
  | .pin _ d => .pin 0 d
  | .lck _ d => .pin 0 d
/-- the names of a target -/
def tgN : Tg → List Nat
  | .nm i => [i]
  | .cn a b => tgN a ++ tgN b
  | .tp a => tgN a
  | .nl => []
def wipV (v : List SV) : List Nat → List SV
  | [] => v
  | i :: r => (wipV v r).set i .no
/-! targets: each name gets its part -/
mutual
def bindG (mk : D → SV) : Tg → D → List SV → Option (List SV)
  | .nm i, d, v => if i < v.length then some (v.set i (mk d)) else none
  | .tp a, .tup l, v => bindGs mk a l v
  | _, _, _ => none
def bindGs (mk : D → SV) : Tg → List D → List SV → Option (List SV)
  | .nl, [], v => some v
  | .cn a b, x :: r, v => match bindG mk a x v with
    | some v' => bindGs mk b r v'
    | none => none
  | _, _, _ => none
end
def bindP (n : Nat) : Tg → D → List SV → Option (List SV) := bindG (.pin n)
def bindT : Tg → D → List SV → Option (List SV) := bindG .own
/-- the items of a comprehension, one by one; what is raised within is bad -/
def compL (f : D → Option DS → Res (Option D)) : List D → Option DS → Res (List D)
  | [], s => .ok [] s
  | x :: r, s => match f x s with
    | .ok o s1 => match compL f r s1 with
      | .ok l s2 => .ok (match o with | some d => d :: l | none => l) s2
      | .er _ _ => .bad
      | .bad => .bad
    | .er _ _ => .bad
    | .bad => .bad

def rng (lo : Int) (n : Nat) : List D := (List.range n).map fun (i : Nat) => .int (lo + (i : Int))
def rngC (lo c : Int) (n : Nat) : List D := (List.range n).map fun (i : Nat) => .int (lo + (i : Int) * c)
def zipD (a b : List D) : List D := (a.zip b).map fun p => .tup [p.1, p.2]
def enumD (n : Nat) : List D → List D
  | [] => []
  | d :: r => .tup [.int n, d] :: enumD (n + 1) r
def p62 : Int := 4611686018427387904
def rOk (i : Int) : Bool := decide (-p62 ≤ i) && decide (i < p62)
def itR1 : D → Option (List D)
  | .int n => if rOk n then some (rng 0 n.toNat) else none
  | _ => none
def itR2 : D → D → Option (List D)
  | .int a, .int b => if rOk a && rOk b then some (rng a (b - a).toNat) else none
  | _, _ => none
/-- downwards by one -/
def itR3 : D → D → D → Option (List D)
  | .int a, .int b, .int c => if rOk a && rOk b && decide (c = -1) then some (rngC a (-1) (a - b).toNat) else none
  | _, _, _ => none
def itZ : D → D → Option (List D)
  | .tup x, .tup y => some (zipD x y)
  | .lst x, .lst y => some (zipD x y)
  | _, _ => none
def itE : D → Option (List D)
  | .lst l => some (enumD 0 l)
  | _ => none
def ofL (o : Option (List D)) (s : Option DS) : Res (List D) :=
  match o with
  | some d => .ok d s
  | none => .bad
def ofI (o : Option (Option Int)) (s : Option DS) : Res (Option Int) :=
  match o with
  | some d => .ok d s
  | none => .bad
/-- what a source gives, by its arguments' values -/
def itD : Ex → List D → Option (List D)
  | .sq _, [x] => seqOf x
  | .r1 _, [x] => itR1 x
  | .r2 _ _, [x, y] => itR2 x y
  | .r3 _ _ _, [x, y, z] => itR3 x y z
  | .zp _ _, [x, y] => itZ x y
  | .en _, [x] => itE x
  | _, _ => none
def hd2 : List D → Option (D × List D)
  | [] => none
  | d :: r => some (d, r)

/-! whether all lists of a value are new: it may be stored without a second name for them -/
mutual
def frD : Ex → D → Bool
  | .call _ _, _ => true
  | .pcl _ _, _ => true
  | .lst es, .lst l => noLs l || frDs es l
  | .tup es, .tup l => noLs l || frDs es l
  | .cmp _ _ _ _, .lst _ => true
  | .op2 .add _ _, .lst l => noLs l
  | .op2 .mul _ _, .lst l => noLs l
  | .slc _ _ _, .lst l => noLs l
  | .op1 .list _, .lst l => noLs l
  | .ife _ a b, d => noL d || (frD a d && frD b d)
  | _, d => noL d
def frDs : Ex → List D → Bool
  | .nil, [] => true
  | .cons e es, d :: r => frD e d && frDs es r
  | _, _ => false
end

/-! expressions: m asks for the truth of the value -/
mutual
def ev (G : Gm) : Ex → Bool → List SV → Option DS → Res D
  | .lit d, m, _, s => fin m d s
  | .var i, m, v, s => (ofO (slot v i) s).bd (fin m)
  | .tup es, m, v, s => (evA G es v s).bd fun l s => (ofO ((fitL l).map .tup) s).bd (fin m)
  | .lst es, m, v, s => (evA G es v s).bd fun l s => (ofO ((fitL l).map .lst) s).bd (fin m)
  | .op1 o a, m, v, s => (ev G a false v s).bd fun x s => (ofO (f1 o x) s).bd (fin m)
  | .op2 o a b, m, v, s => (ev G a false v s).bd fun x s => (ev G b false v s).bd fun y s => (ofO (f2 o x y) s).bd (fin m)
  | .chn o p a b c, m, v, s => (ev G a false v s).bd fun x s => (ev G b false v s).bd fun y s => (ofO (f2 o x y) s).bd fun z s =>
      match z with
      | .bl true => (ev G c false v s).bd fun w s => (ofO (f2 p y w) s).bd (fin m)
      | .bl false => fin m (.bl false) s
      | _ => .bad
  | .nt a, true, v, s => (ev G a true v s).bd fun x s => ofO (f1 .notV x) s
  | .nt a, false, v, s => (ev G a false v s).bd fun x s => ofO (f1 .notV x) s
  | .an a b, m, v, s => (ev G a m v s).bd fun x s =>
      match x with
      | .bl true => ev G b m v s
      | .bl false => .ok (.bl false) s
      | _ => .bad
  | .orr a b, m, v, s => (ev G a m v s).bd fun x s =>
      match x with
      | .bl true => .ok (.bl true) s
      | .bl false => ev G b m v s
      | _ => .bad
  | .ife c a b, m, v, s => (ev G c true v s).bd fun x s =>
      match x with
      | .bl true => (ev G a false v s).bd (fin m)
      | .bl false => (ev G b false v s).bd (fin m)
      | _ => .bad
  | .slc a lo hi, m, v, s => (ev G a false v s).bd fun x s => (evA G lo v s).bd fun y s => (ofI (partOf y) s).bd fun _ s => (evA G hi v s).bd fun z s => (ofO (f3 x y z) s).bd (fin m)
  | .call k es, m, v, s => (evA G es v s).bd fun l s => (G.fn k l s).bd (fin m)
  | .pcl k es, m, v, s => (evA G es v s).bd fun l s => (dropS (G.fn k l none) s).bd (fin m)
  | .dg a k, m, v, s => (ev G a false v s).bd fun x s =>
      match x, s with
      | .dl false, some ds => if k = 0 then fin m (.dl true) s else if k = 1 then fin m (.int ds.big) s else if k = 2 then fin m (.int ds.mix) s else .bad
      | _, _ => .bad
  | .dq o a b, m, v, s => (ev G a false v s).bd fun x s => (ev G b false v s).bd fun y s =>
      match x, s with
      | .dl true, some ds => (match f2 o (.lst (ds.cells.map .int)) y with
        | some (.bl r) => fin m (.bl r) s
        | _ => .bad)
      | _, _ => .bad
  | .cmp elt tg src cond, m, v, s => (evA G src v s).bd fun l s => (ofL (itD src l) s).bd fun its s => (compL (fun x s =>
      match bindP 0 tg x (wipV (v.map pinS) (tgN tg)) with
      | some v' => (ev G cond true v' s).bd fun c s =>
          match c with
          | .bl true => (ev G elt false v' s).bd fun d s => if frD elt d then .ok (some d) s else .bad
          | .bl false => .ok none s
          | _ => .bad
      | none => .bad) its s).bd fun l s => (ofO ((fitL l).map .lst) s).bd (fin m)
  | .yes, _, _, s => .ok (.bl true) s
  | _, _, _, _ => .bad
def evA (G : Gm) : Ex → List SV → Option DS → Res (List D)
  | .nil, _, s => .ok [] s
  | .cons e es, v, s => (ev G e false v s).bd fun x s => (evA G es v s).bd fun l s => .ok (x :: l) s
  | .sq e, v, s => (ev G e false v s).bd fun x s => .ok [x] s
  | .r1 a, v, s => (ev G a false v s).bd fun x s => .ok [x] s
  | .r2 a b, v, s => (ev G a false v s).bd fun x s => (ev G b false v s).bd fun y s => .ok [x, y] s
  | .r3 a b c, v, s => (ev G a false v s).bd fun x s => (ev G b false v s).bd fun y s => (ev G c false v s).bd fun z s => .ok [x, y, z] s
  | .zp a b, v, s => (ev G a false v s).bd fun x s => (ev G b false v s).bd fun y s => .ok [x, y] s
  | .en a, v, s => (ev G a false v s).bd fun x s => .ok [x] s
  | _, _, _ => .bad
end

/-! ### statements -/
structure Ms where
  v : List SV
  s : Option DS
  lv : Nat

inductive RS where
  | nx (m : Ms) | rt (d : D) (s : Option DS) | bk (m : Ms) | ct (m : Ms) | er (c : Nat) (m : Ms) | bad

/-- a slot's own list -/
def ownL (v : List SV) (i : Nat) : Option (List D) :=
  match v[i]? with
  | some (.own (.lst l)) => some l
  | _ => none
def put (v : List SV) (i : Nat) (d : D) : List SV := v.set i (.own d)

/-- what is handed back: data without lists, new lists, or the slot's own list -/
def retOk (e : Ex) (d : D) (v : List SV) : Bool :=
  frD e d || (match e with
    | .var i => (match v[i]? with | some (.own _) => true | _ => false)
    | _ => false)

/-- behind a loop or a lock of level n: what was pinned by it -/
def unp (n : Nat) : SV → SV
  | .pin k d => if n ≤ k then (if noL d then .own d else .no) else .pin k d
  | .lck k d => if n ≤ k then (if noL d then .own d else .no) else .lck k d
  | x => x
def unpM (n : Nat) (m : Ms) : Ms := { m with v := m.v.map (unp n), lv := n }
def unlM (i n : Nat) (m : Ms) : Ms :=
  match m.v[i]? with
  | some (.lck k d) => if k = n then { m with v := (m.v.map (unp n)).set i (.own d), lv := n } else unpM n m
  | _ => unpM n m
def RS.mp (f : Ms → Ms) : RS → RS
  | .nx m => .nx (f m)
  | .er c m => .er c (f m)
  | .bk m => .bk (f m)
  | .ct m => .ct (f m)
  | r => r

/-- what a for may walk: no lists but new ones, or a pinned name's -/
def pinned (v : List SV) (i : Nat) : Bool :=
  match v[i]? with
  | some (.pin _ _) => true
  | some (.lck _ _) => true
  | some (.own d) => noL d
  | _ => false
def pth (v : List SV) : Ex → Bool
  | .var i => pinned v i
  | .op2 .ix a _ => pth v a
  | _ => false
def okI (v : List SV) (e : Ex) (d : D) : Bool := noL d || pth v e || frD e d
def frI (v : List SV) : Ex → List D → Bool
  | .r1 _, _ => true
  | .r2 _ _, _ => true
  | .r3 _ _ _, _ => true
  | .sq e, [x] => okI v e x
  | .zp a b, [x, y] => okI v a x && okI v b y
  | .en a, [x] => okI v a x
  | _, _ => false

def forL (t : Tg) (n : Nat) (b : Ms → RS) : List D → Ms → RS
  | [], m => .nx m
  | x :: r, m => match bindP n t x m.v with
    | none => .bad
    | some v' => match b { m with v := v' } with
      | .nx m' => forL t n b r m'
      | .ct m' => forL t n b r m'
      | .bk m' => .nx m'
      | .rt d s => .rt d s
      | .er c m' => .er c m'
      | .bad => .bad
def whL (c : Ms → Res D) (b : Ms → RS) : Nat → Ms → RS
  | 0, _ => .bad
  | f + 1, m => match c m with
    | .ok (.bl true) s => (match b { m with s := s } with
      | .nx m' => whL c b f m'
      | .ct m' => whL c b f m'
      | .bk m' => .nx m'
      | .rt d s => .rt d s
      | .er c m' => .er c m'
      | .bad => .bad)
    | .ok (.bl false) s => .nx { m with s := s }
    | .er c s => .er c { m with s := s }
    | _ => .bad
def Res.st {α : Type} (r : Res α) (m : Ms) (f : α → Ms → RS) : RS :=
  match r with
  | .ok a s => f a { m with s := s }
  | .er c s => .er c { m with s := s }
  | .bad => .bad
def RS.sq (r : RS) (f : Ms → RS) : RS :=
  match r with
  | .nx m => f m
  | r => r
def fuelW : Nat := 100000
def popL (l : List D) (i : Int) : Option (D × List D) :=
  match seqIndex? i l.length with
  | some k => match l[k]? with
    | some d => if decide (-(2 ^ 63) ≤ i) && decide (i < 2 ^ 63) then some (d, l.eraseIdx k) else none
    | none => none
  | none => none

def exs (G : Gm) : Sm → Ms → RS
  | .skip, m => .nx m
  | .seq a b, m => (exs G a m).sq (exs G b)
  | .asg t e, m => (ev G e false m.v m.s).st m fun d m =>
      if frD e d then (match bindT t d m.v with
        | some v' => .nx { m with v := v' }
        | none => .bad) else .bad
  | .mov i j, m => match m.v[j]? with
      | some (.own d) => if decide (i < m.v.length) && decide (i ≠ j) then .nx { m with v := (m.v.set j .no).set i (.own d) } else .bad
      | _ => .bad
  | .aug i o e, m => match slot m.v i with
      | some (.int x) => (ev G e false m.v m.s).st m fun d m =>
          match d with
          | .int y => (match f2 o (.int x) (.int y) with
            | some (.int z) => .nx { m with v := put m.v i (.int z) }
            | _ => .bad)
          | _ => .bad
      | _ => .bad
  | .setI i ix e, m => (ev G e false m.v m.s).st m fun d m => match ownL m.v i with
      | some l => (ev G ix false m.v m.s).st m fun k m =>
        match k with
        | .int k => (match ixN l.length k with
          | some j => if frD e d then .nx { m with v := put m.v i (.lst (l.set j d)) } else .bad
          | none => .bad)
        | _ => .bad
      | none => .bad
  | .dset a k e, m => (ev G e false m.v m.s).st m fun d m => (ev G a false m.v m.s).st m fun x m =>
      match d, x, m.s with
      | .int z, .dl false, some ds => if k = 1 then .nx { m with s := some { ds with big := z } } else if k = 2 then .nx { m with s := some { ds with mix := z } } else .bad
      | _, _, _ => .bad
  | .dpop t a ix, m => (ev G a false m.v m.s).st m fun x m =>
      match x, m.s with
      | .dl true, some _ => (ev G ix false m.v m.s).st m fun k m =>
          (match k, m.s with
          | .int k, some ds => (match ds.cells with
            | z :: r => if k = 0 then (match bindT t (.int z) m.v with
              | some v' => .nx { m with v := v', s := some { ds with cells := r } }
              | none => .bad) else .bad
            | [] => .bad)
          | _, _ => .bad)
      | _, _ => .bad
  | .app i e, m => match ownL m.v i with
      | some l => (ev G e false m.v m.s).st m fun d m =>
          if frD e d && decide (l.length < sizeLine) then .nx { m with v := put m.v i (.lst (l ++ [d])) } else .bad
      | none => .bad
  | .ext i e, m => match ownL m.v i with
      | some l => (ev G e false m.v m.s).st m fun d m =>
          match d with
          | .lst r => if frD e (.lst r) && decide (l.length + r.length ≤ sizeLine) then .nx { m with v := put m.v i (.lst (l ++ r)) } else .bad
          | _ => .bad
      | none => .bad
  | .popA t i, m => match ownL m.v i with
      | some l => (match l.getLast? with
        | some d => if noL d then (match bindT t d (put m.v i (.lst l.dropLast)) with
          | some v' => .nx { m with v := v' }
          | none => .bad) else .bad
        | none => .bad)
      | none => .bad
  | .popAt t i ix, m => match ownL m.v i with
      | some l => (ev G ix false m.v m.s).st m fun k m =>
        match k with
        | .int k => (match popL l k with
          | some (d, r) => if noL d then (match bindT t d (put m.v i (.lst r)) with
            | some v' => .nx { m with v := v' }
            | none => .bad) else .bad
          | none => .bad)
        | _ => .bad
      | none => .bad
  | .appPop i j ix, m => match ownL m.v i, ownL m.v j with
      | some a, some l => (ev G ix false m.v m.s).st m fun k m =>
        match k with
        | .int k => (match popL l k with
          | some (d, r) => if noL d && decide (i ≠ j) && decide (a.length < sizeLine) then .nx { m with v := put (put m.v j (.lst r)) i (.lst (a ++ [d])) } else .bad
          | none => .bad)
        | _ => .bad
      | _, _ => .bad
  | .expr e, m => (ev G e false m.v m.s).st m fun _ m => .nx m
  | .ret e, m => (ev G e false m.v m.s).st m fun d m => if retOk e d m.v then .rt d m.s else .bad
  | .retN, m => .rt .non m.s
  | .ife c a b, m => (ev G c true m.v m.s).st m fun x m =>
      match x with
      | .bl true => exs G a m
      | .bl false => exs G b m
      | _ => .bad
  | .forS t src b, m => (evA G src m.v m.s).st m fun l m =>
      match itD src l with
      | some its => if frI m.v src l then (forL t m.lv (exs G b) its { m with lv := m.lv + 1 }).mp (unpM m.lv) else .bad
      | none => .bad
  | .lock i b, m => match m.v[i]? with
      | some (.own d) => (exs G b { m with v := m.v.set i (.lck m.lv d), lv := m.lv + 1 }).mp (unlM i m.lv)
      | _ => exs G b m
  | .wh c b, m => whL (fun m => ev G c true m.v m.s) (exs G b) fuelW m
  | .brk, m => .bk m
  | .cont, m => .ct m
  | .rais c, m => .er c m
  | .tryS b hs, m => match exs G b m with
      | .er c m' => hdl G hs c m'
      | r => r
  | _, _ => .bad
where
  /-- the clauses: class 0 is that of all -/
  hdl (G : Gm) : Sm → Nat → Ms → RS
  | .hcons c s rest, k, m => if c = 0 ∨ c = k then (match exs G s m with
      | .er _ _ => .bad
      | r => r) else hdl G rest k m
  | _, k, m => .er k m

structure Fd where
  body : Sm
  n : Nat
  np : Nat
def runF (G : Gm) (f : Fd) (a : List D) (s : Option DS) : Res D :=
  if a.length = f.np then
    (match exs G f.body ⟨a.map (.pin 0) ++ List.replicate (f.n - a.length) .no, s, 1⟩ with
    | .rt d s => .ok d s
    | .nx m => .ok .non m.s
    | .er c m => .er c m.s
    | _ => .bad)
  else .bad
def Fn (tbl : Nat → Option Fd) : Nat → Nat → List D → Option DS → Res D
  | 0, _, _, _ => .bad
  | n + 1, k, a, s => match tbl k with
    | some f => runF ⟨Fn tbl n⟩ f a s
    | none => .bad
end BX

set_option Elab.async false
set_option linter.all false
set_option maxRecDepth 100000
set_option maxHeartbeats 4000000
namespace BX
open PySem PySem.Spec PyProof.Rows L2

/-! ## 2. how data lies in the heap -/
/-- a list that nobody changes -/
def FzL (K : PySem.W.Frag) (H : Hp) (a : Addr) (xs : List V) : Prop := (∃ o, H a = some (.frz o (.lst xs))) ∨ ∀ H', SqL K H' a xs
theorem FzL.sq {K : PySem.W.Frag} {H : Hp} {a : Addr} {xs : List V} (h : FzL K H a xs) : SqL K H a xs := by
  rcases h with ⟨o, h⟩ | h
  · exact .inl (.inr ⟨o, h⟩)
  · exact h H
mutual
def Rp (K : PySem.W.Frag) (a0 : Addr × Addr) (H : Hp) : D → V → List Addr → Prop
  | .non, v, f => v = .non ∧ f = []
  | .bl b, v, f => v = .bl b ∧ f = []
  | .int i, v, f => v = .int i ∧ f = []
  | .str x, v, f => v = .str x ∧ f = []
  | .tup l, v, f => ∃ a vs, v = .ref a ∧ SqT K H a vs ∧ Rps K a0 H l vs f
  | .lst l, v, f => ∃ a vs g, v = .ref a ∧ H a = some (.lst vs) ∧ f = a :: g ∧ Rps K a0 H l vs g
  | .frz l, v, f => (∃ a, v = .ref a ∧ FzL K H a (l.map V.int)) ∧ f = []
  | .dl c, v, f => v = .ref (if c then a0.2 else a0.1) ∧ f = []
def Rps (K : PySem.W.Frag) (a0 : Addr × Addr) (H : Hp) : List D → List V → List Addr → Prop
  | [], vs, f => vs = [] ∧ f = []
  | d :: r, vs, f => ∃ v ws f1 f2, vs = v :: ws ∧ f = f1 ++ f2 ∧ Rp K a0 H d v f1 ∧ Rps K a0 H r ws f2
end

def Xt (ex : List Addr) (H H' : Hp) : Prop := ∀ b o, H b = some o → b ∉ ex → H' b = some o
theorem Xt.refl {ex : List Addr} {H : Hp} : Xt ex H H := fun _ _ h _ => h
theorem Xt.trans {ex : List Addr} {H H1 H2 : Hp} (a : Xt ex H H1) (b : Xt ex H1 H2) : Xt ex H H2 := fun c o h n => b c o (a c o h n) n
theorem Xt.of_same {ex : List Addr} {H H' : Hp} (a : Same H H') : Xt ex H H' := fun c o h _ => a c o h
theorem Xt.free {ex : List Addr} {H H' : Hp} (x : Xt ex H H') {a : Addr} (n : a ∉ ex) (h : H' a = none) : H a = none := by
  cases q : H a with
  | none => rfl
  | some o =>
    have z := x a o q n
    rw [h] at z
    cases z
theorem same_new {H : Hp} {p : Addr} {o : HO} (h : H p = none) : Same H (upd H p o) := fun b x e => by
  rw [upd_ne (ne_of_none e h)]
  exact e
/-- where the deal lies: only lists are left out -/
def ExL (ex : List Addr) (H : Hp) : Prop := ∀ b, b ∈ ex → ∀ o, H b = some o → ∃ xs, o = .lst xs
def Out (ex f : List Addr) : Prop := ∀ a, a ∈ f → a ∉ ex
theorem Out.nil {ex : List Addr} : Out ex [] := fun _ h => nomatch h
theorem Out.app {ex f g : List Addr} (a : Out ex f) (b : Out ex g) : Out ex (f ++ g) := fun x h => (List.mem_append.mp h).elim (a x) (b x)
theorem Out.left {ex f g : List Addr} (a : Out ex (f ++ g)) : Out ex f := fun x h => a x (List.mem_append_left _ h)
theorem Out.right {ex f g : List Addr} (a : Out ex (f ++ g)) : Out ex g := fun x h => a x (List.mem_append_right _ h)

/-- the deal's two lists -/
def DR (dx : Addr × Addr) (ex : List Addr) (s : Option DS) (H : Hp) : Prop :=
  match s with
  | none => ex = []
  | some ds => ex = [dx.1, dx.2] ∧ dx.1 ≠ dx.2 ∧ H dx.1 = some (.lst [.ref dx.2, .int ds.big, .int ds.mix]) ∧ H dx.2 = some (.lst (ds.cells.map V.int))
theorem DR.exl {dx : Addr × Addr} {ex : List Addr} {s : Option DS} {H : Hp} (h : DR dx ex s H) : ExL ex H := by
  intro b hb o ho
  cases s with
  | none =>
    have e : ex = [] := h
    rw [e] at hb
    cases hb
  | some ds =>
    obtain ⟨e, _, h1, h2⟩ := h
    rw [e] at hb
    rcases List.mem_cons.mp hb with q | hb
    · rw [q, h1] at ho
      cases ho
      exact ⟨_, rfl⟩
    · have q := List.mem_singleton.mp hb
      rw [q, h2] at ho
      cases ho
      exact ⟨_, rfl⟩
theorem DR.same {dx : Addr × Addr} {ex : List Addr} {s : Option DS} {H H' : Hp} (h : DR dx ex s H) (x : Same H H') : DR dx ex s H' := by
  cases s with
  | none => exact h
  | some ds =>
    obtain ⟨e, n, h1, h2⟩ := h
    exact ⟨e, n, x _ _ h1, x _ _ h2⟩

section
variable {K : PySem.W.Frag} {a0 : Addr × Addr} {ex : List Addr} {H H' : Hp}
theorem Xt.seqT (x : Xt ex H H') (e : ExL ex H) {a : Addr} {vs : List V} (h : SqT K H a vs) : SqT K H' a vs := by
  rcases h with (h | ⟨o, h⟩) | h
  · refine .inl (.inl (x _ _ h fun m => ?_))
    obtain ⟨xs, q⟩ := e _ m _ h
    cases q
  · refine .inl (.inr ⟨o, x _ _ h fun m => ?_⟩)
    obtain ⟨xs, q⟩ := e _ m _ h
    cases q
  · exact .inr h
mutual
theorem Rp.mono (x : Xt ex H H') (e : ExL ex H) : ∀ {d : D} {v : V} {f : List Addr}, Out ex f → Rp K a0 H d v f → Rp K a0 H' d v f
  | .non, _, _, _, h => h
  | .bl _, _, _, _, h => h
  | .int _, _, _, _, h => h
  | .str _, _, _, _, h => h
  | .dl _, _, _, _, h => h
  | .frz l, v, f, _, h => by
    obtain ⟨⟨a, ev, hs⟩, hf⟩ := h
    rcases hs with ⟨o, hs⟩ | hs
    · exact ⟨⟨a, ev, .inl ⟨o, x _ _ hs fun m => by
        obtain ⟨xs, q⟩ := e _ m _ hs
        cases q⟩⟩, hf⟩
    · exact ⟨⟨a, ev, .inr hs⟩, hf⟩
  | .tup l, v, f, o, h => by
    obtain ⟨a, vs, ev, hs, hr⟩ := h
    exact ⟨a, vs, ev, x.seqT e hs, Rps.mono x e o hr⟩
  | .lst l, v, f, o, h => by
    obtain ⟨a, vs, g, ev, hs, hf, hr⟩ := h
    subst hf
    exact ⟨a, vs, g, ev, x _ _ hs (o a List.mem_cons_self), rfl, Rps.mono x e (fun b hb => o b (List.mem_cons_of_mem _ hb)) hr⟩
theorem Rps.mono (x : Xt ex H H') (e : ExL ex H) : ∀ {l : List D} {vs : List V} {f : List Addr}, Out ex f → Rps K a0 H l vs f → Rps K a0 H' l vs f
  | [], _, _, _, h => h
  | d :: r, vs, f, o, h => by
    obtain ⟨v, ws, f1, f2, ev, ef, h1, h2⟩ := h
    subst ef
    exact ⟨v, ws, f1, f2, ev, rfl, Rp.mono x e o.left h1, Rps.mono x e o.right h2⟩
end
mutual
theorem Rp.dom : ∀ {d : D} {v : V} {f : List Addr}, Rp K a0 H d v f → ∀ a, a ∈ f → ∃ xs, H a = some (.lst xs)
  | .non, _, _, h, a, ha => by rw [h.2] at ha; cases ha
  | .bl _, _, _, h, a, ha => by rw [h.2] at ha; cases ha
  | .int _, _, _, h, a, ha => by rw [h.2] at ha; cases ha
  | .str _, _, _, h, a, ha => by rw [h.2] at ha; cases ha
  | .dl _, _, _, h, a, ha => by rw [h.2] at ha; cases ha
  | .frz l, v, f, h, a, ha => by rw [h.2] at ha; cases ha
  | .tup l, v, f, h, a, ha => by
    obtain ⟨b, vs, ev, hs, hr⟩ := h
    exact Rps.dom hr a ha
  | .lst l, v, f, h, a, ha => by
    obtain ⟨b, vs, g, ev, hs, hf, hr⟩ := h
    subst hf
    rcases List.mem_cons.mp ha with e | ha
    · rw [e]; exact ⟨vs, hs⟩
    · exact Rps.dom hr a ha
theorem Rps.dom : ∀ {l : List D} {vs : List V} {f : List Addr}, Rps K a0 H l vs f → ∀ a, a ∈ f → ∃ xs, H a = some (.lst xs)
  | [], _, _, h, a, ha => by rw [h.2] at ha; cases ha
  | d :: r, vs, f, h, a, ha => by
    obtain ⟨v, ws, f1, f2, ev, ef, h1, h2⟩ := h
    subst ef
    rcases List.mem_append.mp ha with ha | ha
    · exact Rp.dom h1 a ha
    · exact Rps.dom h2 a ha
end
mutual
theorem Rp.noL : ∀ {d : D} {v : V} {f : List Addr}, noL d = true → Rp K a0 H d v f → f = []
  | .non, _, _, _, h => h.2
  | .bl _, _, _, _, h => h.2
  | .int _, _, _, _, h => h.2
  | .str _, _, _, _, h => h.2
  | .dl _, _, _, _, h => h.2
  | .frz l, v, f, _, h => h.2
  | .tup l, v, f, n, h => by
    obtain ⟨b, vs, ev, hs, hr⟩ := h
    exact Rps.noL (by simpa [BX.noL] using n) hr
  | .lst l, v, f, n, h => by simp [BX.noL] at n
theorem Rps.noL : ∀ {l : List D} {vs : List V} {f : List Addr}, noLs l = true → Rps K a0 H l vs f → f = []
  | [], _, _, _, h => h.2
  | d :: r, vs, f, n, h => by
    obtain ⟨v, ws, f1, f2, ev, ef, h1, h2⟩ := h
    simp only [noLs, Bool.and_eq_true] at n
    rw [ef, Rp.noL n.1 h1, Rps.noL n.2 h2]
    rfl
end
theorem Rps.len : ∀ {l : List D} {vs : List V} {f : List Addr}, Rps K a0 H l vs f → vs.length = l.length
  | [], _, _, h => by rw [h.1]; rfl
  | d :: r, vs, f, h => by
    obtain ⟨v, ws, f1, f2, ev, ef, h1, h2⟩ := h
    rw [ev, List.length_cons, List.length_cons, Rps.len h2]
theorem Rps.app : ∀ {l r : List D} {vs ws : List V} {f g : List Addr}, Rps K a0 H l vs f → Rps K a0 H r ws g → Rps K a0 H (l ++ r) (vs ++ ws) (f ++ g)
  | [], r, vs, ws, f, g, h, h' => by
    rw [h.1, h.2]
    exact h'
  | d :: l, r, vs, ws, f, g, h, h' => by
    obtain ⟨v, us, f1, f2, ev, ef, h1, h2⟩ := h
    refine ⟨v, us ++ ws, f1, f2 ++ g, by rw [ev]; rfl, by rw [ef, List.append_assoc], h1, Rps.app h2 h'⟩
theorem Rps.get : ∀ {l : List D} {vs : List V} {f : List Addr} {i : Nat} {d : D}, Rps K a0 H l vs f → l[i]? = some d → ∃ v g, vs[i]? = some v ∧ Rp K a0 H d v g ∧ ∀ a, a ∈ g → a ∈ f
  | [], _, _, _, _, h, e => by simp at e
  | x :: r, vs, f, 0, d, h, e => by
    obtain ⟨v, us, f1, f2, ev, ef, h1, h2⟩ := h
    simp at e
    subst e
    exact ⟨v, f1, by rw [ev]; rfl, h1, fun a ha => by rw [ef]; exact List.mem_append_left _ ha⟩
  | x :: r, vs, f, i + 1, d, h, e => by
    obtain ⟨v, us, f1, f2, ev, ef, h1, h2⟩ := h
    obtain ⟨w, g, e1, e2, e3⟩ := Rps.get (i := i) h2 (by simpa using e)
    exact ⟨w, g, by rw [ev]; simpa using e1, e2, fun a ha => by rw [ef]; exact List.mem_append_right _ (e3 a ha)⟩
/-- a part of a list -/
theorem Rps.drop : ∀ {l : List D} {vs : List V} {f : List Addr} (n : Nat), Rps K a0 H l vs f → ∃ g, Rps K a0 H (l.drop n) (vs.drop n) g ∧ ∀ a, a ∈ g → a ∈ f
  | l, vs, f, 0, h => ⟨f, h, fun _ x => x⟩
  | [], vs, f, n + 1, h => ⟨[], by rw [h.1]; exact ⟨rfl, rfl⟩, fun _ x => nomatch x⟩
  | d :: l, vs, f, n + 1, h => by
    obtain ⟨v, us, f1, f2, ev, ef, h1, h2⟩ := h
    obtain ⟨g, g1, g2⟩ := Rps.drop n h2
    exact ⟨g, by rw [ev]; exact g1, fun a ha => by rw [ef]; exact List.mem_append_right _ (g2 a ha)⟩
theorem Rps.take : ∀ {l : List D} {vs : List V} {f : List Addr} (n : Nat), Rps K a0 H l vs f → ∃ g, Rps K a0 H (l.take n) (vs.take n) g ∧ ∀ a, a ∈ g → a ∈ f
  | l, vs, f, 0, h => ⟨[], ⟨rfl, rfl⟩, fun _ x => nomatch x⟩
  | [], vs, f, n + 1, h => ⟨[], by rw [h.1]; exact ⟨rfl, rfl⟩, fun _ x => nomatch x⟩
  | d :: l, vs, f, n + 1, h => by
    obtain ⟨v, us, f1, f2, ev, ef, h1, h2⟩ := h
    obtain ⟨g, g1, g2⟩ := Rps.take n h2
    refine ⟨f1 ++ g, by rw [ev]; exact ⟨v, _, f1, g, rfl, rfl, h1, g1⟩, fun a ha => ?_⟩
    rw [ef]
    rcases List.mem_append.mp ha with ha | ha
    · exact List.mem_append_left _ ha
    · exact List.mem_append_right _ (g2 a ha)
theorem Rps.rep {l : List D} {vs : List V} {f : List Addr} (h : Rps K a0 H l vs f) : ∀ n : Nat, ∃ g, Rps K a0 H (List.replicate n l).flatten (List.replicate n vs).flatten g ∧ ∀ a, a ∈ g → a ∈ f
  | 0 => ⟨[], ⟨rfl, rfl⟩, fun _ x => nomatch x⟩
  | n + 1 => by
    obtain ⟨g, g1, g2⟩ := Rps.rep h n
    refine ⟨f ++ g, ?_, fun a ha => (List.mem_append.mp ha).elim id (g2 a)⟩
    rw [List.replicate_succ, List.replicate_succ, List.flatten_cons, List.flatten_cons]
    exact h.app g1
end

theorem Rps.ints {K : PySem.W.Frag} {a0 : Addr × Addr} {H : Hp} : ∀ l : List Int, Rps K a0 H (l.map D.int) (l.map V.int) []
  | [] => ⟨rfl, rfl⟩
  | i :: r => ⟨.int i, _, [], [], rfl, rfl, ⟨rfl, rfl⟩, Rps.ints r⟩

/-! ### the slots -/
/-- Pt: the lists that each level of loops keeps from being changed; level 0: those of the arguments -/
def SlOk (K : PySem.W.Frag) (a0 : Addr × Addr) (ex : List Addr) (Pt : List (Addr → Prop)) (H : Hp) : SV → Option V → List Addr → Prop
  | .no, _, f => f = []
  | .own d, o, f => ∃ v, o = some v ∧ Rp K a0 H d v f
  | .pin n d, o, f => f = [] ∧ ∃ v g P, o = some v ∧ Rp K a0 H d v g ∧ Out ex g ∧ Pt[n]? = some P ∧ ∀ a, a ∈ g → P a
  | .lck n d, o, f => f = [] ∧ ∃ v g P, o = some v ∧ Rp K a0 H d v g ∧ Out ex g ∧ Pt[n]? = some P ∧ (∀ a, a ∈ g → P a) ∧ g.Nodup
def Sls (K : PySem.W.Frag) (a0 : Addr × Addr) (ex : List Addr) (Pt : List (Addr → Prop)) (H : Hp) : List SV → L2.St → List Addr → Prop
  | [], σ, f => σ = [] ∧ f = []
  | x :: r, σ, f => ∃ o τ f1 f2, σ = o :: τ ∧ f = f1 ++ f2 ∧ SlOk K a0 ex Pt H x o f1 ∧ Sls K a0 ex Pt H r τ f2
structure SR (K : PySem.W.Frag) (dx : Addr × Addr) (ex : List Addr) (base : Hp) (Pt : List (Addr → Prop)) (m : Ms) (σ : L2.St) (H : Hp) (own : List Addr) : Prop where
  xt : Xt ex base H
  dr : DR dx ex m.s H
  lv : Pt.length = m.lv
  sl : Sls K dx ex Pt H m.v σ own
  nd : own.Nodup
  out : Out ex own
  new : ∀ a, a ∈ own → base a = none
  pt : ∀ P, P ∈ Pt → ∀ a, P a → a ∉ own ∧ a ∉ ex ∧ ∃ xs, H a = some (.lst xs)

section
variable {K : PySem.W.Frag} {a0 : Addr × Addr} {dx : Addr × Addr} {ex : List Addr} {base H H' : Hp} {Pt : List (Addr → Prop)} {m : Ms} {σ : L2.St} {own : List Addr}
theorem SlOk.mono (x : Xt ex H H') (e : ExL ex H) : ∀ {sv : SV} {o : Option V} {f : List Addr}, Out ex f → SlOk K a0 ex Pt H sv o f → SlOk K a0 ex Pt H' sv o f
  | .no, _, _, _, h => h
  | .own d, o, f, ou, h => by
    obtain ⟨v, e1, r⟩ := h
    exact ⟨v, e1, r.mono x e ou⟩
  | .pin n d, o, f, _, h => by
    obtain ⟨hf, v, g, P, e1, r, og, hP, hg⟩ := h
    exact ⟨hf, v, g, P, e1, r.mono x e og, og, hP, hg⟩
  | .lck n d, o, f, _, h => by
    obtain ⟨hf, v, g, P, e1, r, og, hP⟩ := h
    exact ⟨hf, v, g, P, e1, r.mono x e og, og, hP⟩
theorem Sls.mono (x : Xt ex H H') (e : ExL ex H) : ∀ {v : List SV} {σ : L2.St} {f : List Addr}, Out ex f → Sls K a0 ex Pt H v σ f → Sls K a0 ex Pt H' v σ f
  | [], _, _, _, h => h
  | s :: r, σ, f, ou, h => by
    obtain ⟨o, τ, f1, f2, e1, e2, h1, h2⟩ := h
    subst e2
    exact ⟨o, τ, f1, f2, e1, rfl, SlOk.mono x e ou.left h1, Sls.mono x e ou.right h2⟩
theorem SR.step {s' : Option DS} (S : SR K dx ex base Pt m σ H own) (x : Xt ex H H') (d : DR dx ex s' H') : SR K dx ex base Pt { m with s := s' } σ H' own :=
  ⟨S.xt.trans x, d, S.lv, S.sl.mono x S.dr.exl S.out, S.nd, S.out, S.new, fun P hP a ha => by
    obtain ⟨h1, h2, xs, h3⟩ := S.pt P hP a ha
    exact ⟨h1, h2, xs, x _ _ h3 h2⟩⟩
theorem Sls.len : ∀ {v : List SV} {σ : L2.St} {f : List Addr}, Sls K a0 ex Pt H v σ f → σ.length = v.length
  | [], _, _, h => by rw [h.1]; rfl
  | s :: r, σ, f, h => by
    obtain ⟨o, τ, f1, f2, e1, e2, h1, h2⟩ := h
    rw [e1, List.length_cons, List.length_cons, Sls.len h2]
/-- one slot, and the others around it -/
theorem Sls.at_ : ∀ {v : List SV} {σ : L2.St} {f : List Addr} {i : Nat} {x : SV}, Sls K a0 ex Pt H v σ f → v[i]? = some x →
    ∃ o p g q, σ[i]? = some o ∧ f = p ++ (g ++ q) ∧ SlOk K a0 ex Pt H x o g ∧ ∀ Pt' H' x' o' g', (∀ y o f', (∀ a, a ∈ f' → a ∈ p ++ q) → SlOk K a0 ex Pt H y o f' → SlOk K a0 ex Pt' H' y o f') → SlOk K a0 ex Pt' H' x' o' g' → Sls K a0 ex Pt' H' (v.set i x') (σ.set i o') (p ++ (g' ++ q))
  | [], _, _, _, _, h, e => by simp at e
  | s :: r, σ, f, 0, x, h, e => by
    obtain ⟨o, τ, f1, f2, e1, e2, h1, h2⟩ := h
    simp at e
    subst e
    refine ⟨o, [], f1, f2, by rw [e1]; rfl, by rw [e2]; rfl, h1, fun Pt' H' x' o' g' hm h' => ?_⟩
    rw [e1]
    refine ⟨o', τ, g', f2, rfl, rfl, h', ?_⟩
    clear e2 e1 h1 h'
    induction r generalizing τ f2 with
    | nil => exact h2
    | cons y r ih =>
      obtain ⟨o, τ, f1, f3, e1, e2, h1, h2⟩ := h2
      refine ⟨o, τ, f1, f3, e1, e2, hm y o f1 (fun a ha => by rw [e2]; simp [ha]) h1, ih _ _ h2 fun y o f' hf => hm y o f' fun a ha => ?_⟩
      have z := hf a ha
      rw [e2]
      simp only [List.nil_append] at z ⊢
      exact List.mem_append_right _ z
  | s :: r, σ, f, i + 1, x, h, e => by
    obtain ⟨o, τ, f1, f2, e1, e2, h1, h2⟩ := h
    obtain ⟨o', p, g, q, q1, q2, q3, q4⟩ := Sls.at_ (i := i) h2 (by simpa using e)
    refine ⟨o', f1 ++ p, g, q, by rw [e1]; simpa using q1, by rw [e2, q2, List.append_assoc], q3, fun Pt' H' x' o2 g' hm h' => ?_⟩
    rw [e1]
    refine ⟨o, τ.set i o2, f1, p ++ (g' ++ q), rfl, by rw [List.append_assoc], hm s o f1 (fun a ha => by simp [ha]) h1, q4 Pt' H' x' o2 g' (fun y o f' hf => hm y o f' fun a ha => ?_) h'⟩
    have z := hf a ha
    rw [List.append_assoc]
    exact List.mem_append_right _ z
theorem SR.slot {i : Nat} {d : D} (S : SR K dx ex base Pt m σ H own) (h : slot m.v i = some d) : ∃ v g, σ[i]? = some (some v) ∧ Rp K dx H d v g ∧ Out ex g := by
  unfold BX.slot at h
  split at h
  · rename_i d' e
    cases h
    obtain ⟨o, p, g, q, q1, q2, ⟨v, e1, r⟩, q3⟩ := S.sl.at_ e
    exact ⟨v, g, by rw [q1, e1], r, fun a ha => S.out a (by rw [q2]; simp [ha])⟩
  · rename_i n d' e
    cases h
    obtain ⟨o, p, g, q, q1, q2, ⟨_, v, f, P, e1, r, ou, _⟩, q3⟩ := S.sl.at_ e
    exact ⟨v, f, by rw [q1, e1], r, ou⟩
  · rename_i n d' e
    cases h
    obtain ⟨o, p, g, q, q1, q2, ⟨_, v, f, P, e1, r, ou, _⟩, q3⟩ := S.sl.at_ e
    exact ⟨v, f, by rw [q1, e1], r, ou⟩
  · cases h
end

/-! ### the readings by the machine -/
/-- what is to hold of an answer; of an error the wish W -/
def Gd {α : Type} (cl : Nat → Value) (W : WX) (dx : Addr × Addr) (ex : List Addr) (σ : L2.St) (H : Hp) (r : Res α) (P : α → Option DS → Prop) : Prop :=
  match r with
  | .ok a s => P a s
  | .er c s => ∀ H', Xt ex H H' → DR dx ex s H' → W (cl c) none σ H'
  | .bad => False
/-- new lists -/
def New (H : Hp) (f : List Addr) : Prop := f.Nodup ∧ ∀ a, a ∈ f → H a = none
theorem New.nil {H : Hp} : New H [] := ⟨List.nodup_nil, fun _ z => nomatch z⟩
theorem New.back {ex f : List Addr} {H H1 : Hp} (n : New H1 f) (x : Xt ex H H1) (o : Out ex f) : New H f := ⟨n.1, fun a ha => x.free (o a ha) (n.2 a ha)⟩
def PyE (K : PySem.W.Frag) (dx : Addr × Addr) (ex : List Addr) (fr : D → Bool) (H : Hp) (Q : VK) : D → Option DS → Prop := fun d s =>
  ∀ v H' f, Xt ex H H' → DR dx ex s H' → Rp K dx H' d v f → Out ex f → (fr d = true → New H f) → Q v H'
def PyT (dx : Addr × Addr) (ex : List Addr) (H : Hp) (Q : Bool → Hp → Prop) : D → Option DS → Prop := fun d s =>
  ∃ b, d = .bl b ∧ ∀ H', Xt ex H H' → DR dx ex s H' → Q b H'
def PyA (K : PySem.W.Frag) (dx : Addr × Addr) (ex : List Addr) (fr : List D → Bool) (H : Hp) (Q : List V → Hp → Prop) : List D → Option DS → Prop := fun l s =>
  ∀ vs H' f, Xt ex H H' → DR dx ex s H' → Rps K dx H' l vs f → Out ex f → (fr l = true → New H f) → Q vs H'
section
variable {α β : Type} {K : PySem.W.Frag} {cl : Nat → Value} {W : WX} {dx : Addr × Addr} {ex : List Addr} {σ : L2.St} {H H1 : Hp}
theorem Gd.seq {r : Res α} {k : α → Option DS → Res β} {P : β → Option DS → Prop} {P' : α → Option DS → Prop} (g : Gd cl W dx ex σ H (r.bd k) P) (h : ∀ x s, r = .ok x s → Gd cl W dx ex σ H (k x s) P → P' x s) : Gd cl W dx ex σ H r P' := by
  cases r with
  | bad => exact g
  | er c s => exact g
  | ok x s => exact h x s rfl g
theorem Gd.back {r : Res α} {P P' : α → Option DS → Prop} (g : Gd cl W dx ex σ H r P) (x : Xt ex H H1) (h : ∀ a s, r = .ok a s → P a s → P' a s) : Gd cl W dx ex σ H1 r P' := by
  cases r with
  | bad => exact g
  | er c s => exact fun H' y d => g H' (x.trans y) d
  | ok d s => exact h d s rfl g
theorem Gd.at {r : Res α} {P : α → Option DS → Prop} (g : Gd cl W dx ex σ H r P) (x : Xt ex H H1) : Gd cl W dx ex σ H1 r P := g.back x fun _ _ _ p => p
theorem PyE.back {fr : D → Bool} {Q : VK} {d : D} {s : Option DS} (p : PyE K dx ex fr H Q d s) (x : Xt ex H H1) : PyE K dx ex fr H1 Q d s :=
  fun v H' f y dr rp o q => p v H' f (x.trans y) dr rp o fun z => (q z).back x o
theorem PyT.back {Q : Bool → Hp → Prop} {d : D} {s : Option DS} (p : PyT dx ex H Q d s) (x : Xt ex H H1) : PyT dx ex H1 Q d s := by
  obtain ⟨b, e, h⟩ := p
  exact ⟨b, e, fun H' y dr => h H' (x.trans y) dr⟩
theorem PyA.back {fr : List D → Bool} {Q : List V → Hp → Prop} {d : List D} {s : Option DS} (p : PyA K dx ex fr H Q d s) (x : Xt ex H H1) : PyA K dx ex fr H1 Q d s :=
  fun v H' f y dr rp o q => p v H' f (x.trans y) dr rp o fun z => (q z).back x o
theorem Gd.ofO {o : Option D} {s : Option DS} {k : D → Option DS → Res β} {P : β → Option DS → Prop} (g : Gd cl W dx ex σ H ((ofO o s).bd k) P) : ∃ d, o = some d ∧ Gd cl W dx ex σ H (k d s) P := by
  cases o with
  | none => exact g.elim
  | some d => exact ⟨d, rfl, g⟩
theorem DR.notin {s : Option DS} (d : DR dx ex s H) {p : Addr} (hp : H p = none) : p ∉ ex := fun hx => by
  cases s with
  | none =>
    have q' : ex = [] := d
    rw [q'] at hx
    cases hx
  | some ds =>
    obtain ⟨e, _, h1, h2⟩ := d
    rw [e] at hx
    rcases List.mem_cons.mp hx with e1 | hx
    · rw [e1, h1] at hp; cases hp
    · rw [List.mem_singleton.mp hx, h2] at hp; cases hp
end
/-- the machine's state lies in the slots and the heap -/
def Sta (K : PySem.W.Frag) (σ : L2.St) (H : Hp) (P : Addr × Addr → List Addr → Ms → Prop) : Prop := ∃ dx ex base Pt m own, SR K dx ex base Pt m σ H own ∧ P dx ex m
section
variable (K : PySem.W.Frag) (cl : Nat → Value) (G : Gm) (W : WX)
def tE (e : Ex) : TE := fun σ H Q => Sta K σ H fun dx ex m => Gd cl W dx ex σ H (ev G e false m.v m.s) (PyE K dx ex (frD e) H Q)
def tT (e : Ex) : TT := fun σ H Q => Sta K σ H fun dx ex m => Gd cl W dx ex σ H (ev G e true m.v m.s) (PyT dx ex H Q)
def tA (e : Ex) : TA := fun σ H Q => Sta K σ H fun dx ex m => Gd cl W dx ex σ H (evA G e m.v m.s) (PyA K dx ex (frDs e) H Q)
end
section
variable {X : Cx}
theorem _root_.L2.PE.imp {e : Expr} {t t' : TE} (h : PE X e t) (i : ∀ σ H Q, t' σ H Q → t σ H Q) : PE X e t' := ⟨fun pins s σ H Q I q => h.run pins s σ H Q I (i σ H Q q)⟩
theorem _root_.L2.PT.imp {e : Expr} {t t' : TT} (h : PT X e t) (i : ∀ σ H Q, t' σ H Q → t σ H Q) : PT X e t' := ⟨fun pins s σ H Q I q => h.run pins s σ H Q I (i σ H Q q)⟩
theorem _root_.L2.PW.imp {e : Expr} {t t' : TT} (h : PW X e t) (i : ∀ σ H Q, t' σ H Q → t σ H Q) : PW X e t' := ⟨fun wh pins s σ H Q I q => h.run wh pins s σ H Q I (i σ H Q q)⟩
theorem _root_.L2.PA.imp {e : List Expr} {t t' : TA} (h : PA X e t) (i : ∀ σ H Q, t' σ H Q → t σ H Q) : PA X e t' := ⟨fun pos pins s σ H Q I q => h.run pos pins s σ H Q I (i σ H Q q)⟩
end

/-! ### names, constants, displays -/
section
variable {X : Cx} {cl : Nat → Value} {G : Gm} {W : WX} {pos : Pos}
/-- data that needs no heap -/
theorem good_lit {K : PySem.W.Frag} {dx : Addr × Addr} {ex : List Addr} {fr : D → Bool} {H : Hp} {d : D} {s : Option DS} {Q : VK} {v : V} (h : PyE K dx ex fr H Q d s) (dr : DR dx ex s H) (r : Rp K dx H d v []) : Q v H :=
  h v H [] Xt.refl dr r .nil fun _ => .nil
theorem me_int {i : Int} {j : Nat} : PE X (.Constant (.int i) j pos) (tE X.K cl G W (.lit (.int i))) :=
  pe_int.imp fun _ _ _ ⟨_, _, _, _, _, _, S, g⟩ => good_lit g S.dr ⟨rfl, rfl⟩
theorem me_bl {b : Bool} {j : Nat} : PE X (.Constant (.bool b) j pos) (tE X.K cl G W (.lit (.bl b))) :=
  pe_bl.imp fun _ _ _ ⟨_, _, _, _, _, _, S, g⟩ => good_lit g S.dr ⟨rfl, rfl⟩
theorem me_non {j : Nat} : PE X (.Constant .none j pos) (tE X.K cl G W (.lit .non)) :=
  pe_non.imp fun _ _ _ ⟨_, _, _, _, _, _, S, g⟩ => good_lit g S.dr ⟨rfl, rfl⟩
theorem me_str {x : Str} {j : Nat} : PE X (.Constant (.str x) j pos) (tE X.K cl G W (.lit (.str x))) :=
  pe_str.imp fun _ _ _ ⟨_, _, _, _, _, _, S, g⟩ => good_lit g S.dr ⟨rfl, rfl⟩
/-- a module's constant: an int or a text -/
theorem me_globI {x : Str} {i : Int} {t : Tok} (hm : X.mg x = some (.int i t)) (hg : Gl X x) (hd : (x == ("__debug__" : Str)) = false := by decide) : PE X (.Name x pos) (tE X.K cl G W (.lit (.int i))) :=
  (pe_glob hg hm (v := .int i) ⟨_, rfl⟩ hd).imp fun _ _ _ ⟨_, _, _, _, _, _, S, g⟩ => good_lit g S.dr ⟨rfl, rfl⟩
theorem me_globS {x y : Str} {t : Tok} (hm : X.mg x = some (.str y t)) (hg : Gl X x) (hd : (x == ("__debug__" : Str)) = false := by decide) : PE X (.Name x pos) (tE X.K cl G W (.lit (.str y))) :=
  (pe_glob hg hm (v := .str y) ⟨_, rfl⟩ hd).imp fun _ _ _ ⟨_, _, _, _, _, _, S, g⟩ => good_lit g S.dr ⟨rfl, rfl⟩
theorem me_var (i : Nat) {x : Str} (hN : X.N[i]? = some x := by rfl) (hv : Vis X.env.scope x := by first | exact Or.inl rfl | exact Or.inr (Or.inl rfl) | exact Or.inr (Or.inr rfl)) (hd : (x == ("__debug__" : Str)) = false := by decide)
    (hcd : (x == ("__classdict__" : Str)) = false := by decide) : PE X (.Name x pos) (tE X.K cl G W (.var i)) := by
  refine (pe_var hN hv hd hcd).imp fun σ H Q ⟨dx, ex, base, Lk, m, own, S, g⟩ => ?_
  simp only [ev] at g
  obtain ⟨d, e, g⟩ := g.ofO
  obtain ⟨v, f, q1, r, o⟩ := S.slot e
  refine ⟨v, q1, g v H f Xt.refl S.dr r o fun z => ?_⟩
  have n : noL d = true := z
  rw [r.noL n]
  exact .nil

theorem ma_nil : PA X [] (tA X.K cl G W .nil) :=
  pa_nil.imp fun _ H _ ⟨_, _, _, _, _, _, S, g⟩ => g [] H [] Xt.refl S.dr ⟨rfl, rfl⟩ .nil fun _ => .nil
theorem nodup_app {f g : List Addr} (h1 : f.Nodup) (h2 : g.Nodup) (h : ∀ a, a ∈ f → a ∉ g) : (f ++ g).Nodup :=
  List.nodup_append.mpr ⟨h1, h2, fun a ha b hb e => h a ha (e ▸ hb)⟩
/-- new lists, then newer ones -/
theorem New.app {ex f g : List Addr} {H H1 : Hp} (n : New H f) (h : ∀ a, a ∈ f → ∃ xs, H1 a = some (.lst xs)) (n1 : New H1 g) (x : Xt ex H H1) (o : Out ex g) : New H (f ++ g) := by
  refine ⟨nodup_app n.1 n1.1 fun c hc hc2 => ?_, fun c hc => ?_⟩
  · obtain ⟨xs, hx⟩ := h c hc
    rw [n1.2 c hc2] at hx
    cases hx
  · rcases List.mem_append.mp hc with hc | hc
    · exact n.2 c hc
    · exact x.free (o c hc) (n1.2 c hc)
theorem ma_cons {e : Expr} {es : List Expr} {a b : Ex} (ha : PE X e (tE X.K cl G W a)) (hb : PA X es (tA X.K cl G W b)) (hs : starEach (e :: es) X.env = (false, eval e X.env) :: starEach es X.env := by rfl) :
    PA X (e :: es) (tA X.K cl G W (.cons a b)) := by
  refine (pa_cons ha hb hs).imp fun σ H Q ⟨dx, ex, base, Lk, m, own, S, g⟩ => ⟨dx, ex, base, Lk, m, own, S, ?_⟩
  simp only [evA] at g
  refine g.seq fun x s1 ea g v H1 f x1 d1 r1 o1 q1 => ⟨dx, ex, base, Lk, _, own, S.step x1 d1, ?_⟩
  refine (g.at x1).seq fun l s2 eb g vs H2 f2 x2 d2 r2 o2 q2 => ?_
  refine g (v :: vs) H2 (f ++ f2) (x1.trans x2) d2 ⟨v, vs, f, f2, rfl, rfl, r1.mono x2 d1.exl o1, r2⟩ (o1.app o2) fun z => ?_
  have z' : frD a x = true ∧ frDs b l = true := by simpa [frDs] using z
  exact (q1 z'.1).app r1.dom (q2 z'.2) x1 o2
theorem fitL_some {l r : List D} (h : fitL l = some r) : r = l ∧ l.length ≤ sizeLine := by
  unfold fitL at h
  split at h
  · cases h
    exact ⟨rfl, by assumption⟩
  · cases h
theorem New.one {H : Hp} {p : Addr} (h : H p = none) : New H [p] := ⟨List.nodup_cons.mpr ⟨by simp, List.nodup_nil⟩, fun c hc => by rw [List.mem_singleton.mp hc]; exact h⟩
theorem me_tup {es : List Expr} {x1 : Nat} {a : Ex} (h : PA X es (tA X.K cl G W a)) : PE X (.Tuple es x1 pos) (tE X.K cl G W (.tup a)) := by
  refine (pe_tup h).imp fun σ H Q ⟨dx, ex, base, Lk, m, own, S, g⟩ => ⟨dx, ex, base, Lk, m, own, S, ?_⟩
  simp only [ev] at g
  refine g.seq fun l s1 ea g vs H1 f x1 d1 r1 o1 q1 => ?_
  obtain ⟨d, ed, g2⟩ := g.ofO
  cases ef : fitL l with
  | none => rw [ef] at ed; cases ed
  | some l' =>
    rw [ef] at ed
    cases ed
    obtain ⟨rfl, hz⟩ := fitL_some ef
    refine ⟨by rw [r1.len]; exact hz, fun p hp => ?_⟩
    have sm : Same H1 (upd H1 p (.tup vs)) := same_new hp
    refine g2 (.ref p) _ f (x1.trans (.of_same sm)) (d1.same sm) ⟨p, vs, rfl, .inl (.inl upd_same), r1.mono (.of_same sm) d1.exl o1⟩ o1 fun z => ?_
    have z' : noLs l' = true ∨ frDs a l' = true := by simpa [frD] using z
    rcases z' with z' | z'
    · rw [r1.noL z']
      exact .nil
    · exact q1 z'
theorem me_lst {es : List Expr} {a : Ex} (h : PA X es (tA X.K cl G W a)) : PE X (.List es pos) (tE X.K cl G W (.lst a)) := by
  refine (pe_lst h).imp fun σ H Q ⟨dx, ex, base, Lk, m, own, S, g⟩ => ⟨dx, ex, base, Lk, m, own, S, ?_⟩
  simp only [ev] at g
  refine g.seq fun l s1 ea g vs H1 f x1 d1 r1 o1 q1 => ?_
  obtain ⟨d, ed, g2⟩ := g.ofO
  cases ef : fitL l with
  | none => rw [ef] at ed; cases ed
  | some l' =>
    rw [ef] at ed
    cases ed
    obtain ⟨rfl, hz⟩ := fitL_some ef
    refine ⟨by rw [r1.len]; exact hz, fun p hp => ?_⟩
    have sm : Same H1 (upd H1 p (.lst vs)) := same_new hp
    have pex : p ∉ ex := d1.notin hp
    have pf : p ∉ f := fun hf => by
      obtain ⟨xs, hx⟩ := r1.dom p hf
      rw [hp] at hx
      cases hx
    have hpH : H p = none := x1.free pex hp
    refine g2 (.ref p) _ (p :: f) (x1.trans (.of_same sm)) (d1.same sm) ⟨p, vs, f, rfl, upd_same, rfl, r1.mono (.of_same sm) d1.exl o1⟩ (fun c hc => (List.mem_cons.mp hc).elim (fun e => e ▸ pex) (o1 c)) fun z => ?_
    have z' : noLs l' = true ∨ frDs a l' = true := by simpa [frD] using z
    rcases z' with z' | z'
    · rw [r1.noL z']
      exact .one hpH
    · obtain ⟨n1, w1⟩ := q1 z'
      exact ⟨List.nodup_cons.mpr ⟨pf, n1⟩, fun c hc => (List.mem_cons.mp hc).elim (fun e => e ▸ hpH) (w1 c)⟩
end
end BX

set_option Elab.async false
set_option linter.all false
set_option maxRecDepth 100000
set_option maxHeartbeats 4000000
namespace BX
open PySem PySem.Spec PyProof.Rows L2

/-! ## 3. operations -/
def frT : D → Bool
  | .lst l => noLs l
  | d => noL d
def frO1 : Op1 → D → Bool
  | .list, d => frT d
  | _, d => noL d
def frO2 : Op2 → D → Bool
  | .add, d => frT d
  | .mul, d => frT d
  | _, d => noL d
theorem frT_of {d : D} (h : noL d = true) : frT d = true := by
  cases d <;> first | exact h | simp [noL] at h
/-- one operand: the library's reading r asks no more than the machine tells -/
def S1 (K : PySem.W.Frag) (o : Op1) (r : V → Hp → VK → Prop) : Prop :=
  ∀ (a0 : Addr × Addr) (H : Hp) (x : D) (v : V) (f : List Addr) (Q : VK) (d : D), Rp K a0 H x v f → f1 o x = some d →
    (∀ v' H' f', Same H H' → Rp K a0 H' d v' f' → (∀ a, a ∈ f' → a ∈ f ∨ H a = none) → (frO1 o d = true → New H f') → Q v' H') → r v H Q
def S2 (K : PySem.W.Frag) (o : Op2) (r : R2) : Prop :=
  ∀ (a0 : Addr × Addr) (H : Hp) (x y : D) (v w : V) (f g : List Addr) (Q : VK) (d : D), Rp K a0 H x v f → Rp K a0 H y w g → f2 o x y = some d →
    (∀ v' H' f', Same H H' → Rp K a0 H' d v' f' → (∀ a, a ∈ f' → a ∈ f ∨ a ∈ g ∨ H a = none) → (frO2 o d = true → New H f') → Q v' H') → r v w H Q
theorem frD_op1 {o : Op1} {a : Ex} {d : D} (h : frD (.op1 o a) d = true) : frO1 o d = true := by
  cases o <;> first | exact h | (cases d <;> first | exact h | simp [frD, noL] at h)
theorem frD_op2 {o : Op2} {a b : Ex} {d : D} (h : frD (.op2 o a b) d = true) : frO2 o d = true := by
  cases o <;> first | exact h | (cases d <;> first | exact h | simp [frD, noL] at h)
section
variable {K : PySem.W.Frag} {cl : Nat → Value} {G : Gm} {W : WX} {σ : L2.St} {H : Hp} {Q : VK} {ea eb ec : Ex}
theorem op1_core {o : Op1} {r : V → Hp → VK → Prop} (hs : S1 K o r) : tE K cl G W (.op1 o ea) σ H Q → tE K cl G W ea σ H fun v H1 => r v H1 Q := by
  rintro ⟨dx, ex, base, Lk, m, own, S, g⟩
  refine ⟨dx, ex, base, Lk, m, own, S, ?_⟩
  simp only [ev] at g
  refine g.seq fun x s1 ea g v H1 f x1 d1 r1 o1 q1 => ?_
  obtain ⟨d, ed, g2⟩ := g.ofO
  refine hs dx H1 x v f Q d r1 ed fun v' H' f' sm r2 w n => ?_
  refine g2 v' H' f' (x1.trans (.of_same sm)) (d1.same sm) r2 (fun a ha => (w a ha).elim (o1 a) d1.notin) fun z => ?_
  have o2 : Out ex f' := fun a ha => (w a ha).elim (o1 a) d1.notin
  exact (n (frD_op1 z)).back x1 o2
theorem op2_core {o : Op2} {r : R2} (hs : S2 K o r) : tE K cl G W (.op2 o ea eb) σ H Q → tE K cl G W ea σ H fun x H1 => tE K cl G W eb σ H1 fun y H2 => r x y H2 Q := by
  rintro ⟨dx, ex, base, Lk, m, own, S, g⟩
  refine ⟨dx, ex, base, Lk, m, own, S, ?_⟩
  simp only [ev] at g
  refine g.seq fun x s1 ea g v H1 f x1 d1 r1 o1 q1 => ⟨dx, ex, base, Lk, _, own, S.step x1 d1, ?_⟩
  refine (g.at x1).seq fun y s2 eb g w H2 f2 x2 d2 r2 o2 q2 => ?_
  obtain ⟨d, ed, g2⟩ := g.ofO
  refine hs dx H2 x y v w f f2 Q d (r1.mono x2 d1.exl o1) r2 ed fun v' H' f' sm r3 k n => ?_
  have o3 : Out ex f' := fun a ha => (k a ha).elim (o1 a) fun k => k.elim (o2 a) d2.notin
  exact g2 v' H' f' ((x1.trans x2).trans (.of_same sm)) (d2.same sm) r3 o3 fun z => (n (frD_op2 z)).back (x1.trans x2) o3
/-- an answer without lists, the heap as it is -/
theorem fin_s {a0 : Addr × Addr} {f g : List Addr} {d : D} {v : V} {o : Op2} (h : ∀ v' H' f', Same H H' → Rp K a0 H' d v' f' → (∀ a, a ∈ f' → a ∈ f ∨ a ∈ g ∨ H a = none) → (frO2 o d = true → New H f') → Q v' H') (r : Rp K a0 H d v []) : Q v H :=
  h v H [] (Same.refl H) r (fun _ z => nomatch z) fun _ => .nil
theorem fin_s1 {a0 : Addr × Addr} {f : List Addr} {d : D} {v : V} {o : Op1} (h : ∀ v' H' f', Same H H' → Rp K a0 H' d v' f' → (∀ a, a ∈ f' → a ∈ f ∨ H a = none) → (frO1 o d = true → New H f') → Q v' H') (r : Rp K a0 H d v []) : Q v H :=
  h v H [] (Same.refl H) r (fun _ z => nomatch z) fun _ => .nil

/-! ### two ints in -/
theorem s2_int {o : Op2} {C : Int → Int → Prop} {g : Int → Int → V} {e : Int → Int → D}
    (h : ∀ x y d, f2 o x y = some d → ∃ i j, x = .int i ∧ y = .int j ∧ C i j ∧ d = e i j) (he : ∀ a0 H i j, Rp K a0 H (e i j) (g i j) []) : S2 K o (rI C g) := by
  intro a0 H x y v w f g' Q d rx ry hd q
  obtain ⟨i, j, rfl, rfl, hc, rfl⟩ := h x y d hd
  exact ⟨i, j, rx.1, ry.1, hc, fin_s q (he a0 H i j)⟩
theorem s2_int0 {o : Op2} {g : Int → Int → V} {e : Int → Int → D}
    (h : ∀ x y d, f2 o x y = some d → ∃ i j, x = .int i ∧ y = .int j ∧ d = e i j) (he : ∀ a0 H i j, Rp K a0 H (e i j) (g i j) []) : S2 K o (rI0 g) := by
  intro a0 H x y v w f g' Q d rx ry hd q
  obtain ⟨i, j, rfl, rfl, rfl⟩ := h x y d hd
  exact ⟨i, j, rx.1, ry.1, fin_s q (he a0 H i j)⟩
end
section
variable {K : PySem.W.Frag}
theorem inv_sub : ∀ x y d, f2 .sub x y = some d → ∃ i j, x = .int i ∧ y = .int j ∧ d = .int (i - j) := by
  intro x y d h
  cases x <;> cases y <;> simp [f2] at h
  exact ⟨_, _, rfl, rfl, h.symm⟩
theorem s2_sub : S2 K .sub (rI0 fun i j => .int (i - j)) := s2_int0 (e := fun i j => .int (i - j)) inv_sub fun _ _ _ _ => ⟨rfl, rfl⟩
theorem s2_fdiv : S2 K .fdiv (rI CDivN fun i j => .int (i.fdiv j)) := s2_int (e := fun i j => .int (i.fdiv j)) (by
  intro x y d h
  cases x <;> cases y <;> simp [f2] at h
  exact ⟨_, _, rfl, rfl, h.1, h.2.symm⟩) fun _ _ _ _ => ⟨rfl, rfl⟩
theorem s2_mod : S2 K .mod (rI (fun _ j => j ≠ 0) fun i j => .int (i.fmod j)) := s2_int (e := fun i j => .int (i.fmod j)) (by
  intro x y d h
  cases x <;> cases y <;> simp [f2] at h
  exact ⟨_, _, rfl, rfl, h.1, h.2.symm⟩) fun _ _ _ _ => ⟨rfl, rfl⟩
theorem s2_pow : S2 K .pow (rI CPow fun i j => .int (i ^ j.toNat)) := s2_int (e := fun i j => .int (i ^ j.toNat)) (by
  intro x y d h
  cases x <;> cases y <;> simp [f2] at h
  exact ⟨_, _, rfl, rfl, ⟨h.1.1, h.1.2.1, h.1.2.2⟩, h.2.symm⟩) fun _ _ _ _ => ⟨rfl, rfl⟩
theorem s2_shl : S2 K .shl (rI CPow fun i j => .int (i * 2 ^ j.toNat)) := s2_int (e := fun i j => .int (i * 2 ^ j.toNat)) (by
  intro x y d h
  cases x <;> cases y <;> simp [f2] at h
  exact ⟨_, _, rfl, rfl, ⟨h.1.1, h.1.2.1, h.1.2.2⟩, h.2.symm⟩) fun _ _ _ _ => ⟨rfl, rfl⟩
theorem s2_shr : S2 K .shr (rI (fun _ j => 0 ≤ j) fun i j => .int (i / 2 ^ j.toNat)) := s2_int (e := fun i j => .int (i / 2 ^ j.toNat)) (by
  intro x y d h
  cases x <;> cases y <;> simp [f2] at h
  exact ⟨_, _, rfl, rfl, h.1, h.2.symm⟩) fun _ _ _ _ => ⟨rfl, rfl⟩
theorem s2_band : S2 K .band (rI0 fun i j => .int (Builtin.bitAnd i j)) := s2_int0 (e := fun i j => .int (Builtin.bitAnd i j)) (by
  intro x y d h
  cases x <;> cases y <;> simp [f2] at h
  exact ⟨_, _, rfl, rfl, h.symm⟩) fun _ _ _ _ => ⟨rfl, rfl⟩
theorem s2_bor : S2 K .bor (rI0 fun i j => .int (Builtin.bitOr i j)) := s2_int0 (e := fun i j => .int (Builtin.bitOr i j)) (by
  intro x y d h
  cases x <;> cases y <;> simp [f2] at h
  exact ⟨_, _, rfl, rfl, h.symm⟩) fun _ _ _ _ => ⟨rfl, rfl⟩
theorem s2_lt : S2 K .lt (rI0 fun i j => .bl (decide (i < j))) := s2_int0 (e := fun i j => .bl (decide (i < j))) (by
  intro x y d h
  cases x <;> cases y <;> simp only [f2, Option.some.injEq, reduceCtorEq] at h
  exact ⟨_, _, rfl, rfl, h.symm⟩) fun _ _ _ _ => ⟨rfl, rfl⟩
theorem s2_le : S2 K .le (rI0 fun i j => .bl (decide (i ≤ j))) := s2_int0 (e := fun i j => .bl (decide (i ≤ j))) (by
  intro x y d h
  cases x <;> cases y <;> simp only [f2, Option.some.injEq, reduceCtorEq] at h
  exact ⟨_, _, rfl, rfl, h.symm⟩) fun _ _ _ _ => ⟨rfl, rfl⟩
theorem s2_gt : S2 K .gt (rI0 fun i j => .bl (decide (j < i))) := s2_int0 (e := fun i j => .bl (decide (j < i))) (by
  intro x y d h
  cases x <;> cases y <;> simp only [f2, Option.some.injEq, reduceCtorEq] at h
  exact ⟨_, _, rfl, rfl, h.symm⟩) fun _ _ _ _ => ⟨rfl, rfl⟩
theorem s2_ge : S2 K .ge (rI0 fun i j => .bl (decide (j ≤ i))) := s2_int0 (e := fun i j => .bl (decide (j ≤ i))) (by
  intro x y d h
  cases x <;> cases y <;> simp only [f2, Option.some.injEq, reduceCtorEq] at h
  exact ⟨_, _, rfl, rfl, h.symm⟩) fun _ _ _ _ => ⟨rfl, rfl⟩
theorem mulOk_C {i j : Int} (h : mulOk i j = true) : CMul i j := by
  unfold mulOk p64 at h
  simp only [Bool.or_eq_true, Bool.and_eq_true, decide_eq_true_eq] at h
  rcases h with ⟨h1, h2⟩ | ⟨h1, h2⟩
  · exact .inr ⟨by omega, by omega⟩
  · exact .inl ⟨by omega, by omega⟩

/-! ### + and * of ints, tuples, lists -/
def rAddD (K : PySem.W.Frag) : R2 := fun x y H Q => rI0 (fun i j => .int (i + j)) x y H Q ∨ rCatA K x y H Q ∨ rCat x y H Q
theorem op_addD {X : Cx} : OpR X (binaryOp .Add) (rAddD X.K) := op_add.or (op_catA.or op_cat)
theorem s2_add : S2 K .add (rAddD K) := by
  intro a0 H x y v w f g Q d rx ry hd q
  cases x <;> cases y <;> simp only [f2, reduceCtorEq] at hd
  · rename_i i j
    cases hd
    exact .inl ⟨i, j, rx.1, ry.1, fin_s q ⟨rfl, rfl⟩⟩
  · rename_i a b
    split at hd
    · rename_i hz
      cases hd
      obtain ⟨p, vs, rfl, hs, r1⟩ := rx
      obtain ⟨p', ws, rfl, hs', r2⟩ := ry
      have l1 := r1.len
      have l2 := r2.len
      refine .inr (.inl ⟨p, p', vs, ws, rfl, rfl, hs, hs', by omega, fun e => ?_, fun _ e => ?_, fun _ _ u hu => ?_⟩)
      · have ea : a = [] := by
          rw [e] at l1
          exact List.length_eq_zero_iff.mp l1.symm
        subst ea
        refine q _ H g (Same.refl H) ⟨p', ws, rfl, hs', r2⟩ (fun c hc => .inr (.inl hc)) fun z => ?_
        rw [r2.noL (by simpa [frO2, frT, noL, noLs] using z)]
        exact .nil
      · have eb : b = [] := by
          rw [e] at l2
          exact List.length_eq_zero_iff.mp l2.symm
        subst eb
        refine q _ H f (Same.refl H) ⟨p, vs, rfl, hs, by rw [List.append_nil]; exact r1⟩ (fun c hc => .inl hc) fun z => ?_
        rw [r1.noL (by simpa [frO2, frT, noL, noLs] using z)]
        exact .nil
      · have sm : Same H (upd H u (.tup (vs ++ ws))) := same_new hu
        have r3 := (r1.app r2)
        refine q _ _ (f ++ g) sm ⟨u, vs ++ ws, rfl, .inl (.inl upd_same), r3.mono (ex := []) (.of_same sm) (fun _ z => nomatch z) fun _ _ z => nomatch z⟩ (fun c hc => (List.mem_append.mp hc).elim .inl fun z => .inr (.inl z)) fun z => ?_
        rw [r3.noL (by simpa [frO2, frT, noL] using z)]
        exact .nil
    · cases hd
  · rename_i a b
    split at hd
    · rename_i hz
      cases hd
      obtain ⟨p, vs, f', rfl, hs, rfl, r1⟩ := rx
      obtain ⟨p', ws, g', rfl, hs', rfl, r2⟩ := ry
      have l1 := r1.len
      have l2 := r2.len
      refine .inr (.inr ⟨p, p', vs, ws, rfl, rfl, hs, hs', by omega, fun u hu => ?_⟩)
      have sm : Same H (upd H u (.lst (vs ++ ws))) := same_new hu
      have r3 := (r1.app r2)
      refine q _ _ (u :: (f' ++ g')) sm ⟨u, vs ++ ws, _, rfl, upd_same, rfl, r3.mono (ex := []) (.of_same sm) (fun _ z => nomatch z) fun _ _ z => nomatch z⟩ (fun c hc => ?_) fun z => ?_
      · rcases List.mem_cons.mp hc with e | hc
        · rw [e]; exact .inr (.inr hu)
        · exact (List.mem_append.mp hc).elim (fun z => .inl (List.mem_cons_of_mem _ z)) fun z => .inr (.inl (List.mem_cons_of_mem _ z))
      · rw [r3.noL (by simpa [frO2, frT] using z)]
        exact .one hu
    · cases hd
end
end BX

set_option Elab.async false
set_option linter.all false
set_option maxRecDepth 100000
set_option maxHeartbeats 4000000
namespace BX
open PySem PySem.Spec PyProof.Rows L2

/-! ### a tuple once is itself -/
theorem once_tuple (p : Addr) (its : Array Value) (k : Nat) (od : Option Addr) (sls : Array (Option Value)) (tk : Tok) :
    Meets (Builtin.«tuple.__mul__» ⟨[.ref p, .int 1 tk], []⟩) (fun _ R s => s.heap.get? p = some { cls := .type "tuple", dict := od, data := .seq its k, slots := sls } ∧ R (.ok (.ret (Value.ref p))) s) :=
  .of_wp fun prog w A R s h => by
    obtain ⟨hp, g, d, t, os⟩ := s
    obtain ⟨hl, h⟩ := h
    have f1 := AutoSeq1.idx_int
    wp_walk using wpAny_loadPart' hl
    exact ⟨_, rfl, h⟩
def rOnce (K : PySem.W.Frag) : R2 := fun x y H Q => ∃ p xs, x = .ref p ∧ y = .int 1 ∧ SqT K H p xs ∧ Q (.ref p) H
theorem op_once {X : Cx} : OpR X (binaryOp .Mult) (rOnce X.K) := by
  intro pins s σ H x y v u Q I rx ry h
  obtain ⟨p, xs, rfl, rfl, hT, q⟩ := h
  cases rx
  obtain ⟨t, rfl⟩ := ry
  obtain ⟨its, r, ⟨⟨cls, dd, data, sl⟩, ho, hc, n, hd⟩, hs⟩ := I.tuple hT
  simp only at hc hd
  subst hc hd
  refine wpAny_binaryOp_repeat_ref (T := "tuple") (U := "int") (by decide) ⟨_, ho, rfl⟩ (fun s' => typeIs_int s' 1 t) noFill_tuple_mul F.fills_int_mul F.slot_int_rmul repeat_tuple F.slot_int_index.lookup ?_
  refine call_meets F.slot_int_rmul (typeIs_int s 1 t) F.entry_int_rmul (F.args_int_rmul_2 _ _) (int_rmul_tuple 1 t p its.toArray n dd sl) ⟨ho, rfl, ⟨_, ho, rfl⟩, ?_⟩
  refine call_meets F.slot_tuple_mul ⟨_, ho, rfl⟩ F.entry_tuple_mul (F.args_tuple_mul_2 _ _) (once_tuple p its.toArray n dd sl t) ⟨ho, ?_⟩
  exact ⟨.ref p, H, I, rfl, q⟩
def rMulD (K : PySem.W.Frag) : R2 := fun x y H Q => rI CMul (fun i j => .int (i * j)) x y H Q ∨ rOnce K x y H Q ∨ rRepT K x y H Q ∨ rRep x y H Q
theorem op_mulD {X : Cx} : OpR X (binaryOp .Mult) (rMulD X.K) := op_mul.or (op_once.or (op_repT.or op_rep))
section
variable {K : PySem.W.Frag}
theorem s2_mul : S2 K .mul (rMulD K) := by
  intro a0 H x y v w f g Q d rx ry hd q
  cases x <;> cases y <;> simp only [f2, reduceCtorEq] at hd
  · rename_i i j
    split at hd
    · rename_i hm
      cases hd
      exact .inl ⟨i, j, rx.1, ry.1, mulOk_C hm, fin_s q ⟨rfl, rfl⟩⟩
    · cases hd
  · rename_i a k
    split at hd
    · rename_i hz
      obtain ⟨h0, h1, h2, h3⟩ := hz
      cases hd
      obtain ⟨p, vs, rfl, hs, r1⟩ := rx
      have l1 := r1.len
      by_cases hk : k = 1
      · subst hk
        refine .inr (.inl ⟨p, vs, rfl, ry.1, hs, ?_⟩)
        have e1 : (List.replicate (1 : Int).toNat a).flatten = a := by
          show (List.replicate 1 a).flatten = a
          simp
        refine q _ H f (Same.refl H) ⟨p, vs, rfl, hs, by rw [e1]; exact r1⟩ (fun c hc => .inl hc) fun z => ?_
        rw [e1] at z
        rw [r1.noL (by simpa [frO2, frT, noL] using z)]
        exact .nil
      · refine .inr (.inr (.inl ⟨p, k, vs, rfl, ry.1, hs, fun e => h0 (by rw [e] at l1; exact List.length_eq_zero_iff.mp l1.symm), by omega, h2, by omega, fun u hu => ?_⟩))
        obtain ⟨g', r3, sub⟩ := r1.rep k.toNat
        have sm : Same H (upd H u (.tup (List.replicate k.toNat vs).flatten)) := same_new hu
        refine q _ _ g' sm ⟨u, _, rfl, .inl (.inl upd_same), r3.mono (ex := []) (.of_same sm) (fun _ z => nomatch z) fun _ _ z => nomatch z⟩ (fun c hc => .inl (sub c hc)) fun z => ?_
        rw [r3.noL (by simpa [frO2, frT, noL] using z)]
        exact .nil
    · cases hd
  · rename_i a k
    split at hd
    · rename_i hz
      obtain ⟨h1, h2, h3⟩ := hz
      cases hd
      obtain ⟨p, vs, f', rfl, hs, rfl, r1⟩ := rx
      have l1 := r1.len
      refine .inr (.inr (.inr ⟨p, k, vs, rfl, ry.1, hs, by omega, by omega, by rw [l1]; exact h3, fun u hu => ?_⟩))
      obtain ⟨g', r3, sub⟩ := r1.rep k.toNat
      have sm : Same H (upd H u (.lst (List.replicate k.toNat vs).flatten)) := same_new hu
      refine q _ _ (u :: g') sm ⟨u, _, _, rfl, upd_same, rfl, r3.mono (ex := []) (.of_same sm) (fun _ z => nomatch z) fun _ _ z => nomatch z⟩ (fun c hc => ?_) fun z => ?_
      · rcases List.mem_cons.mp hc with e | hc
        · rw [e]; exact .inr (.inr hu)
        · exact .inl (List.mem_cons_of_mem _ (sub c hc))
      · rw [r3.noL (by simpa [frO2, frT] using z)]
        exact .one hu
    · cases hd

/-! ### an item -/
theorem atI_rel {α β : Type} {xs : List α} {ys : List β} {i : Int} {x : α} (hl : ys.length = xs.length) (h : atI xs i = some x) : ∃ j : Nat, xs[j]? = some x ∧ ∀ y, ys[j]? = some y → atI ys i = some y := by
  unfold atI at h ⊢
  rw [hl]
  cases e : ixN xs.length i with
  | none => rw [e] at h; cases h
  | some j =>
    rw [e] at h
    exact ⟨j, h, fun y hy => hy⟩
theorem s2_ix : S2 K .ix (rIx K) := by
  intro a0 H x y v w f g Q d rx ry hd q
  cases x <;> cases y <;> simp only [f2, reduceCtorEq, ixD] at hd
  · rename_i l i
    obtain ⟨p, vs, rfl, hs, r1⟩ := rx
    obtain ⟨j, hj, hv⟩ := atI_rel r1.len hd
    obtain ⟨u, f', e1, r2, sub⟩ := r1.get hj
    refine .inr (.inl ⟨p, vs, i, u, rfl, ry.1, hs, hv u e1, ?_⟩)
    refine q u H f' (Same.refl H) r2 (fun c hc => .inl (sub c hc)) fun z => ?_
    rw [r2.noL z]
    exact .nil
  · rename_i l i
    obtain ⟨p, vs, f', rfl, hs, rfl, r1⟩ := rx
    obtain ⟨j, hj, hv⟩ := atI_rel r1.len hd
    obtain ⟨u, f2, e1, r2, sub⟩ := r1.get hj
    refine .inl ⟨p, vs, i, u, rfl, ry.1, .inl (.inl hs), hv u e1, ?_⟩
    refine q u H f2 (Same.refl H) r2 (fun c hc => .inl (List.mem_cons_of_mem _ (sub c hc))) fun z => ?_
    rw [r2.noL z]
    exact .nil

/-! ### slices -/
theorem cutV_rel {a0 : Addr × Addr} {H : Hp} {l : List D} {vs : List V} {f : List Addr} (lo hi : Option Int) (r : Rps K a0 H l vs f) : ∃ g, Rps K a0 H (cutD l lo hi) (cutV vs lo hi) g ∧ ∀ a, a ∈ g → a ∈ f := by
  have e := r.len
  obtain ⟨g, r1, s1⟩ := r.drop (HT.sIx l.length 0 lo)
  obtain ⟨g', r2, s2⟩ := r1.take (HT.sIx l.length l.length hi - HT.sIx l.length 0 lo)
  refine ⟨g', ?_, fun a ha => s1 a (s2 a ha)⟩
  unfold cutD cutV
  rw [e]
  exact r2
def rSlD (K : PySem.W.Frag) : V → Option Int → Option Int → Hp → VK → Prop := fun x lo hi H Q => rSlA K x lo hi H Q ∨ rSlL K x lo hi H Q
theorem sl_D {X : Cx} : SlR X (rSlD X.K) := sl_tupA.or sl_list
/-- what a slice hands on -/
def S3 (K : PySem.W.Frag) (r : V → Option Int → Option Int → Hp → VK → Prop) : Prop :=
  ∀ (a0 : Addr × Addr) (H : Hp) (x : D) (y z : List D) (lo hi : Option Int) (v : V) (f : List Addr) (Q : VK) (d : D), Rp K a0 H x v f → partOf y = some lo → partOf z = some hi → f3 x y z = some d →
    (∀ v' H' f', Same H H' → Rp K a0 H' d v' f' → (∀ a, a ∈ f' → a ∈ f ∨ H a = none) → (frT d = true → New H f') → Q v' H') → r v lo hi H Q
theorem s3_D : S3 K (rSlD K) := by
  intro a0 H x y z lo hi v f Q d rx hy hz hd q
  unfold f3 at hd
  rw [hy, hz] at hd
  cases x <;> simp only [Option.some.injEq, reduceCtorEq] at hd
  · rename_i l
    subst hd
    obtain ⟨p, vs, rfl, hs, r1⟩ := rx
    have e := r1.len
    refine .inl ⟨p, vs, rfl, hs, fun hw => ?_, fun _ u hu => ?_⟩
    · have e1 : cutD l lo hi = l := by
        unfold cutD
        rw [e] at hw
        rw [hw.1, hw.2]
        simp
      rw [e1] at q
      refine q _ H f (Same.refl H) ⟨p, vs, rfl, hs, r1⟩ (fun c hc => .inl hc) fun z => ?_
      rw [r1.noL (by simpa [frT, noL] using z)]
      exact .nil
    · obtain ⟨g, r2, sub⟩ := cutV_rel lo hi r1
      have sm : Same H (upd H u (.tup (cutV vs lo hi))) := same_new hu
      refine q _ _ g sm ⟨u, _, rfl, .inl (.inl upd_same), r2.mono (ex := []) (.of_same sm) (fun _ z => nomatch z) fun _ _ z => nomatch z⟩ (fun c hc => .inl (sub c hc)) fun z => ?_
      rw [r2.noL (by simpa [frT, noL] using z)]
      exact .nil
  · rename_i l
    subst hd
    obtain ⟨p, vs, f', rfl, hs, rfl, r1⟩ := rx
    refine .inr ⟨p, vs, rfl, .inl (.inl hs), fun u hu => ?_⟩
    obtain ⟨g, r2, sub⟩ := cutV_rel lo hi r1
    have sm : Same H (upd H u (.lst (cutV vs lo hi))) := same_new hu
    refine q _ _ (u :: g) sm ⟨u, _, _, rfl, upd_same, rfl, r2.mono (ex := []) (.of_same sm) (fun _ z => nomatch z) fun _ _ z => nomatch z⟩ (fun c hc => ?_) fun z => ?_
    · rcases List.mem_cons.mp hc with e | hc
      · rw [e]; exact .inr hu
      · exact .inl (List.mem_cons_of_mem _ (sub c hc))
    · rw [r2.noL (by simpa [frT] using z)]
      exact .one hu
  · rename_i l
    subst hd
    obtain ⟨⟨p, rfl, hs⟩, rfl⟩ := rx
    refine .inr ⟨p, _, rfl, hs.sq, fun u hu => ?_⟩
    have r1 : Rps K a0 H (l.map D.int) (l.map V.int) [] := Rps.ints l
    obtain ⟨g, r2, sub⟩ := cutV_rel lo hi r1
    have eg : g = [] := by
      cases g with
      | nil => rfl
      | cons a g => exact absurd (sub a List.mem_cons_self) (by simp)
    subst eg
    have sm : Same H (upd H u (.lst (cutV (l.map V.int) lo hi))) := same_new hu
    exact q _ _ [u] sm ⟨u, _, _, rfl, upd_same, rfl, r2.mono (ex := []) (.of_same sm) (fun _ z => nomatch z) fun _ _ z => nomatch z⟩ (fun c hc => .inr (by rw [List.mem_singleton.mp hc]; exact hu)) fun _ => .one hu

/-! ### == -/
mutual
theorem Rp.dp {a0 : Addr × Addr} {H : Hp} : ∀ {d : D} {v : V} {f : List Addr} {p : PyData}, Rp K a0 H d v f → toP d = some p → Dp K H v p
  | .non, _, _, _, h, e => by cases e; rw [h.1]; exact .non
  | .bl b, _, _, _, h, e => by cases e; rw [h.1]; exact .bl b
  | .int i, _, _, _, h, e => by cases e; rw [h.1]; exact .int i
  | .str x, _, _, _, h, e => by cases e; rw [h.1]; exact .str x
  | .dl _, _, _, _, h, e => by cases e
  | .frz l, _, _, _, h, e => by cases e
  | .tup l, _, _, _, h, e => by
    obtain ⟨a, vs, rfl, hs, r⟩ := h
    simp only [toP] at e
    cases q : toPs l with
    | none => rw [q] at e; cases e
    | some ps =>
      rw [q] at e
      cases e
      exact .tup hs (Rps.dp r q)
  | .lst l, _, _, _, h, e => by
    obtain ⟨a, vs, g, rfl, hs, _, r⟩ := h
    simp only [toP] at e
    cases q : toPs l with
    | none => rw [q] at e; cases e
    | some ps =>
      rw [q] at e
      cases e
      exact .lst (.inl (.inl hs)) (Rps.dp r q)
theorem Rps.dp {a0 : Addr × Addr} {H : Hp} : ∀ {l : List D} {vs : List V} {f : List Addr} {ps : List PyData}, Rps K a0 H l vs f → toPs l = some ps → DpAll K H vs ps
  | [], _, _, _, h, e => by cases e; rw [h.1]; exact .nil
  | d :: r, _, _, _, h, e => by
    obtain ⟨v, ws, f1, f2, rfl, _, h1, h2⟩ := h
    simp only [toPs] at e
    cases q : toP d with
    | none => rw [q] at e; cases e
    | some x =>
      cases q' : toPs r with
      | none => rw [q, q'] at e; cases e
      | some y =>
        rw [q, q'] at e
        cases e
        exact .cons (Rp.dp h1 q) (Rps.dp h2 q')
end
theorem eqD_some {x y : D} {b : Bool} (h : eqD x y = some b) : ∃ p q, toP x = some p ∧ toP y = some q ∧ SeqAt.shaped p = true ∧ SeqAt.shaped q = true ∧ b = PyData.eqv p q := by
  unfold eqD at h
  split at h
  · rename_i p q h1 h2
    split at h
    · rename_i hz
      cases h
      rw [Bool.and_eq_true] at hz
      exact ⟨p, q, h1, h2, hz.1, hz.2, rfl⟩
    · cases h
  · cases h
theorem s2_eq : S2 K .eq (rEqD K) := by
  intro a0 H x y v w f g Q d rx ry hd q
  simp only [f2, Option.map_eq_some_iff] at hd
  obtain ⟨b, hb, rfl⟩ := hd
  obtain ⟨p, p', h1, h2, s1, s2, rfl⟩ := eqD_some hb
  exact ⟨p, p', rx.dp h1, ry.dp h2, s1, s2, fin_s q ⟨rfl, rfl⟩⟩
theorem s2_ne : S2 K .ne (rNeD K) := by
  intro a0 H x y v w f g Q d rx ry hd q
  simp only [f2, Option.map_eq_some_iff] at hd
  obtain ⟨b, hb, rfl⟩ := hd
  obtain ⟨p, p', h1, h2, s1, s2, rfl⟩ := eqD_some hb
  exact ⟨p, p', rx.dp h1, ry.dp h2, s1, s2, fin_s q ⟨rfl, rfl⟩⟩

/-! ### one operand -/
theorem s1_neg : S1 K .neg (rU fun i => .int (-i)) := by
  intro a0 H x v f Q d rx hd q
  cases x <;> simp only [f1, reduceCtorEq] at hd
  cases hd
  exact ⟨_, rx.1, fin_s1 q ⟨rfl, rfl⟩⟩
theorem ref_ne {a : Addr} : (decide (V.ref a = V.non)) = false := decide_eq_false fun z => nomatch z
def isNonD : D → Bool
  | .non => true
  | _ => false
theorem Rp.isnon {a0 : Addr × Addr} {H : Hp} {x : D} {v : V} {f : List Addr} (r : Rp K a0 H x v f) (h : ∀ c, x ≠ .dl c) : decide (v = .non) = isNonD x := by
  cases x with
  | non => rw [r.1]; rfl
  | bl b => rw [r.1]; rfl
  | int b => rw [r.1]; rfl
  | str b => rw [r.1]; rfl
  | tup l => obtain ⟨a, vs, rfl, _⟩ := r; exact ref_ne
  | lst l => obtain ⟨a, vs, g, rfl, _⟩ := r; exact ref_ne
  | frz l => obtain ⟨⟨a, rfl, _⟩, _⟩ := r; exact ref_ne
  | dl c => exact absurd rfl (h c)
/-- is None -/
theorem s1_isN : S1 K .isN (fun x H Q => Q (.bl (decide (x = .non))) H) := by
  intro a0 H x v f Q d rx hd q
  have hx : ∀ c, x ≠ .dl c := fun c e => by rw [e] at hd; cases hd
  rw [rx.isnon hx]
  cases x <;> first | (simp only [f1, Option.some.injEq] at hd; subst hd; exact fin_s1 q ⟨rfl, rfl⟩) | exact absurd rfl (hx _)
theorem s1_ntN : S1 K .ntN (fun x H Q => Q (.bl (!decide (x = .non))) H) := by
  intro a0 H x v f Q d rx hd q
  have hx : ∀ c, x ≠ .dl c := fun c e => by rw [e] at hd; cases hd
  rw [rx.isnon hx]
  cases x <;> first | (simp only [f1, Option.some.injEq] at hd; subst hd; exact fin_s1 q ⟨rfl, rfl⟩) | exact absurd rfl (hx _)
/-- is True, is not False, .. -/
theorem s1_isB (b : Bool) : S1 K (.isB b false) (fun x H Q => ∃ c : Bool, x = .bl c ∧ Q (.bl (decide (c = b))) H) := by
  intro a0 H x v f Q d rx hd q
  cases x <;> simp only [f1, reduceCtorEq] at hd
  rename_i c
  cases hd
  refine ⟨c, rx.1, fin_s1 q ⟨?_, rfl⟩⟩
  cases b <;> cases c <;> rfl
theorem s1_ntB (b : Bool) : S1 K (.isB b true) (fun x H Q => ∃ c : Bool, x = .bl c ∧ Q (.bl (!decide (c = b))) H) := by
  intro a0 H x v f Q d rx hd q
  cases x <;> simp only [f1, reduceCtorEq] at hd
  rename_i c
  cases hd
  refine ⟨c, rx.1, fin_s1 q ⟨?_, rfl⟩⟩
  cases b <;> cases c <;> rfl
/-- a reading of a call with one argument, by its value -/
def r1of (r : List V → Hp → VK → Prop) : V → Hp → VK → Prop := fun x H Q => r [x] H Q
theorem s1_len : S1 K .len (r1of fun xs H Q => ∃ x n, xs = [x] ∧ LenV K x H n ∧ Q (.int n) H) := by
  intro a0 H x v f Q d rx hd q
  cases x <;> simp only [f1, reduceCtorEq] at hd
  · rename_i z
    split at hd
    · rename_i hz
      cases hd
      exact ⟨v, z.length, rfl, by rw [rx.1]; exact ⟨hz, rfl⟩, fin_s1 q ⟨rfl, rfl⟩⟩
    · cases hd
  · rename_i l
    cases hd
    obtain ⟨p, vs, rfl, hs, r1⟩ := rx
    exact ⟨_, l.length, rfl, .inr ⟨vs, hs, r1.len.symm⟩, fin_s1 q ⟨rfl, rfl⟩⟩
  · rename_i l
    cases hd
    obtain ⟨p, vs, f', rfl, hs, rfl, r1⟩ := rx
    exact ⟨_, l.length, rfl, .inl ⟨vs, .inl (.inl hs), r1.len.symm⟩, fin_s1 q ⟨rfl, rfl⟩⟩
  · rename_i l
    cases hd
    obtain ⟨⟨p, rfl, hs⟩, _⟩ := rx
    exact ⟨_, l.length, rfl, .inl ⟨_, hs.sq, by rw [List.length_map]⟩, fin_s1 q ⟨rfl, rfl⟩⟩
theorem s1_tuple : S1 K .tuple (r1of fun xs H Q => ∃ p ys, xs = [.ref p] ∧ ((SqL K H p ys ∧ ∀ l, H l = none → Q (.ref l) (upd H l (.tup ys))) ∨ (SqT K H p ys ∧ Q (.ref p) H))) := by
  intro a0 H x v f Q d rx hd q
  cases x <;> simp only [f1, reduceCtorEq] at hd
  · rename_i l
    cases hd
    obtain ⟨p, vs, rfl, hs, r1⟩ := rx
    refine ⟨p, vs, rfl, .inr ⟨hs, q _ H f (Same.refl H) ⟨p, vs, rfl, hs, r1⟩ (fun c hc => .inl hc) fun z => ?_⟩⟩
    rw [r1.noL (by simpa [frO1, noL] using z)]
    exact .nil
  · rename_i l
    cases hd
    obtain ⟨p, vs, f', rfl, hs, rfl, r1⟩ := rx
    refine ⟨p, vs, rfl, .inl ⟨.inl (.inl hs), fun u hu => ?_⟩⟩
    have sm : Same H (upd H u (.tup vs)) := same_new hu
    refine q _ _ f' sm ⟨u, vs, rfl, .inl (.inl upd_same), r1.mono (ex := []) (.of_same sm) (fun _ z => nomatch z) fun _ _ z => nomatch z⟩ (fun c hc => .inl (List.mem_cons_of_mem _ hc)) fun z => ?_
    rw [r1.noL (by simpa [frO1, noL] using z)]
    exact .nil
theorem s1_list : S1 K .list (r1of fun xs H Q => ∃ p ys, xs = [.ref p] ∧ (SqL K H p ys ∨ SqT K H p ys) ∧ ∀ l, H l = none → Q (.ref l) (upd H l (.lst ys))) := by
  intro a0 H x v f Q d rx hd q
  cases x <;> simp only [f1, reduceCtorEq] at hd
  · rename_i l
    cases hd
    obtain ⟨p, vs, rfl, hs, r1⟩ := rx
    refine ⟨p, vs, rfl, .inr hs, fun u hu => ?_⟩
    have sm : Same H (upd H u (.lst vs)) := same_new hu
    refine q _ _ (u :: f) sm ⟨u, vs, f, rfl, upd_same, rfl, r1.mono (ex := []) (.of_same sm) (fun _ z => nomatch z) fun _ _ z => nomatch z⟩ (fun c hc => (List.mem_cons.mp hc).elim (fun e => .inr (e ▸ hu)) .inl) fun z => ?_
    rw [r1.noL (by simpa [frO1, frT] using z)]
    exact .one hu
  · rename_i l
    cases hd
    obtain ⟨p, vs, f', rfl, hs, rfl, r1⟩ := rx
    refine ⟨p, vs, rfl, .inl (.inl (.inl hs)), fun u hu => ?_⟩
    have sm : Same H (upd H u (.lst vs)) := same_new hu
    refine q _ _ (u :: f') sm ⟨u, vs, f', rfl, upd_same, rfl, r1.mono (ex := []) (.of_same sm) (fun _ z => nomatch z) fun _ _ z => nomatch z⟩ (fun c hc => (List.mem_cons.mp hc).elim (fun e => .inr (e ▸ hu)) fun z => .inl (List.mem_cons_of_mem _ z)) fun z => ?_
    rw [r1.noL (by simpa [frO1, frT] using z)]
    exact .one hu
theorem s1_int : S1 K .int (r1of fun xs H Q => (∃ i, xs = [.int i] ∧ Q (.int i) H) ∨ ∃ k, xs = [.bl k] ∧ Q (.int (if k then 1 else 0)) H) := by
  intro a0 H x v f Q d rx hd q
  cases x <;> simp only [f1, reduceCtorEq] at hd
  · cases hd
    exact .inr ⟨_, by rw [rx.1], fin_s1 q ⟨rfl, rfl⟩⟩
  · cases hd
    exact .inl ⟨_, by rw [rx.1], fin_s1 q ⟨rfl, rfl⟩⟩
theorem intsOf_rel {a0 : Addr × Addr} {H : Hp} : ∀ {l : List D} {vs : List V} {f : List Addr} {ns : List Int}, Rps K a0 H l vs f → intsOf l = some ns → vs = ns.map V.int
  | [], _, _, _, h, e => by cases e; rw [h.1]; rfl
  | .int i :: r, _, _, _, h, e => by
    obtain ⟨v, ws, f1, f2, rfl, _, h1, h2⟩ := h
    simp only [intsOf, Option.map_eq_some_iff] at e
    obtain ⟨ms, e1, rfl⟩ := e
    rw [h1.1, intsOf_rel h2 e1]
    rfl
  | .non :: _, _, _, _, _, e => by cases e
  | .bl _ :: _, _, _, _, _, e => by cases e
  | .str _ :: _, _, _, _, _, e => by cases e
  | .tup _ :: _, _, _, _, _, e => by cases e
  | .lst _ :: _, _, _, _, _, e => by cases e
  | .frz _ :: _, _, _, _, _, e => by cases e
  | .dl _ :: _, _, _, _, _, e => by cases e
theorem blsOf_rel {a0 : Addr × Addr} {H : Hp} : ∀ {l : List D} {vs : List V} {f : List Addr} {ns : List Bool}, Rps K a0 H l vs f → blsOf l = some ns → vs = ns.map V.bl
  | [], _, _, _, h, e => by cases e; rw [h.1]; rfl
  | .bl i :: r, _, _, _, h, e => by
    obtain ⟨v, ws, f1, f2, rfl, _, h1, h2⟩ := h
    simp only [blsOf, Option.map_eq_some_iff] at e
    obtain ⟨ms, e1, rfl⟩ := e
    rw [h1.1, blsOf_rel h2 e1]
    rfl
  | .non :: _, _, _, _, _, e => by cases e
  | .int _ :: _, _, _, _, _, e => by cases e
  | .str _ :: _, _, _, _, _, e => by cases e
  | .tup _ :: _, _, _, _, _, e => by cases e
  | .lst _ :: _, _, _, _, _, e => by cases e
  | .frz _ :: _, _, _, _, _, e => by cases e
  | .dl _ :: _, _, _, _, _, e => by cases e
theorem s1_sum : S1 K .sum (r1of (rSum K)) := by
  intro a0 H x v f Q d rx hd q
  cases x <;> simp only [f1, reduceCtorEq, Option.map_eq_some_iff] at hd
  obtain ⟨ns, e, rfl⟩ := hd
  obtain ⟨p, vs, f', rfl, hs, rfl, r1⟩ := rx
  exact ⟨p, ns, rfl, by rw [← intsOf_rel r1 e]; exact .inl (.inl hs), fin_s1 q ⟨rfl, rfl⟩⟩
theorem s1_any : S1 K .any (r1of (rAny K)) := by
  intro a0 H x v f Q d rx hd q
  cases x <;> simp only [f1, reduceCtorEq, Option.map_eq_some_iff] at hd
  obtain ⟨ns, e, rfl⟩ := hd
  obtain ⟨p, vs, f', rfl, hs, rfl, r1⟩ := rx
  exact ⟨p, ns, rfl, by rw [← blsOf_rel r1 e]; exact .inl (.inl hs), fin_s1 q ⟨rfl, rfl⟩⟩
theorem s1_all : S1 K .all (r1of (rAll K)) := by
  intro a0 H x v f Q d rx hd q
  cases x <;> simp only [f1, reduceCtorEq, Option.map_eq_some_iff] at hd
  obtain ⟨ns, e, rfl⟩ := hd
  obtain ⟨p, vs, f', rfl, hs, rfl, r1⟩ := rx
  exact ⟨p, ns, rfl, by rw [← blsOf_rel r1 e]; exact .inl (.inl hs), fin_s1 q ⟨rfl, rfl⟩⟩
theorem maxI_spec : ∀ (r : List Int) (m : Int), (maxI m r = m ∨ maxI m r ∈ r) ∧ m ≤ maxI m r ∧ ∀ y, y ∈ r → y ≤ maxI m r
  | [], m => ⟨.inl rfl, Int.le_refl _, fun _ h => nomatch h⟩
  | x :: r, m => by
    unfold maxI
    obtain ⟨h1, h2, h3⟩ := maxI_spec r (if x > m then x else m)
    refine ⟨?_, ?_, fun y hy => ?_⟩
    · rcases h1 with h1 | h1
      · rw [h1]
        split
        · exact .inr List.mem_cons_self
        · exact .inl rfl
      · exact .inr (List.mem_cons_of_mem _ h1)
    · have z : m ≤ (if x > m then x else m) := by split <;> omega
      exact Int.le_trans z h2
    · rcases List.mem_cons.mp hy with e | hy
      · subst e
        have z : y ≤ (if y > m then y else m) := by split <;> omega
        exact Int.le_trans z h2
      · exact h3 y hy
theorem minI_spec : ∀ (r : List Int) (m : Int), (minI m r = m ∨ minI m r ∈ r) ∧ minI m r ≤ m ∧ ∀ y, y ∈ r → minI m r ≤ y
  | [], m => ⟨.inl rfl, Int.le_refl _, fun _ h => nomatch h⟩
  | x :: r, m => by
    unfold minI
    obtain ⟨h1, h2, h3⟩ := minI_spec r (if x < m then x else m)
    refine ⟨?_, ?_, fun y hy => ?_⟩
    · rcases h1 with h1 | h1
      · rw [h1]
        split
        · exact .inr List.mem_cons_self
        · exact .inl rfl
      · exact .inr (List.mem_cons_of_mem _ h1)
    · have z : (if x < m then x else m) ≤ m := by split <;> omega
      exact Int.le_trans h2 z
    · rcases List.mem_cons.mp hy with e | hy
      · subst e
        have z : (if y < m then y else m) ≤ y := by split <;> omega
        exact Int.le_trans h2 z
      · exact h3 y hy
theorem s1_max : S1 K .max (r1of (rMax K)) := by
  intro a0 H x v f Q d rx hd q
  cases x <;> simp only [f1, reduceCtorEq] at hd
  split at hd
  · rename_i l m r e
    cases hd
    obtain ⟨p, vs, f', rfl, hs, rfl, r1⟩ := rx
    obtain ⟨h1, h2, h3⟩ := maxI_spec r m
    refine ⟨p, m :: r, rfl, by rw [← intsOf_rel r1 e]; exact .inl (.inl hs), Nat.succ_pos _, fun k hk hle => ?_⟩
    have e2 : k = maxI m r := by
      have a1 : maxI m r ≤ k := hle _ (by rcases h1 with h1 | h1; rw [h1]; exact List.mem_cons_self; exact List.mem_cons_of_mem _ h1)
      have a2 : k ≤ maxI m r := by
        rcases List.mem_cons.mp hk with z | z
        · rw [z]; exact h2
        · exact h3 k z
      omega
    rw [e2]
    exact fin_s1 q ⟨rfl, rfl⟩
  · cases hd
theorem s1_min : S1 K .min (r1of (rMin K)) := by
  intro a0 H x v f Q d rx hd q
  cases x <;> simp only [f1, reduceCtorEq] at hd
  split at hd
  · rename_i l m r e
    cases hd
    obtain ⟨p, vs, f', rfl, hs, rfl, r1⟩ := rx
    obtain ⟨h1, h2, h3⟩ := minI_spec r m
    refine ⟨p, m :: r, rfl, by rw [← intsOf_rel r1 e]; exact .inl (.inl hs), Nat.succ_pos _, fun k hk hle => ?_⟩
    have e2 : k = minI m r := by
      have a1 : k ≤ minI m r := hle _ (by rcases h1 with h1 | h1; rw [h1]; exact List.mem_cons_self; exact List.mem_cons_of_mem _ h1)
      have a2 : minI m r ≤ k := by
        rcases List.mem_cons.mp hk with z | z
        · rw [z]; exact h2
        · exact h3 k z
      omega
    rw [e2]
    exact fin_s1 q ⟨rfl, rfl⟩
  · cases hd
def tyName : Ty → String
  | .int => "int"
  | .bool => "bool"
  | .str => "str"
  | .tuple => "tuple"
  | .list => "list"
/-- isinstance(x, T) -/
def rIsT (K : PySem.W.Frag) (n : String) : V → Hp → VK → Prop := fun x H Q => rIsi K [x, .ty n] H Q
theorem isT_at {H : Hp} {x : V} {t : Value} {a n : String} {b : Bool} {Q : VK} (ty : TyX K H x (.type a)) (e : kitB a n = some b) (q : Q (.bl b) H) : rIsT K n x H Q :=
  ⟨x, .ty n, .type a, .type n, b, rfl, .ty n, ty, kit_ty e, q⟩
theorem s1_isi (t : Ty) : S1 K (.isi t) (rIsT K (tyName t)) := by
  intro a0 H x v f Q d rx hd q
  simp only [f1, Option.map_eq_some_iff] at hd
  obtain ⟨b, hb, rfl⟩ := hd
  have fin : Q (.bl b) H := fin_s1 q ⟨rfl, rfl⟩
  cases x with
  | non =>
    rw [rx.1]
    refine isT_at (t := .none) (.base .non) ?_ fin
    cases t <;> cases hb <;> decide +kernel
  | bl c =>
    rw [rx.1]
    refine isT_at (t := .none) (.base (.bl c)) ?_ fin
    cases t <;> cases hb <;> decide +kernel
  | int c =>
    rw [rx.1]
    refine isT_at (t := .none) (.base (.int c)) ?_ fin
    cases t <;> cases hb <;> decide +kernel
  | str c =>
    rw [rx.1]
    refine isT_at (t := .none) (.base (.str c)) ?_ fin
    cases t <;> cases hb <;> decide +kernel
  | tup l =>
    obtain ⟨p, vs, rfl, hs, r1⟩ := rx
    have ty : TyX K H (.ref p) (.type "tuple") := by
      rcases hs with (hs | ⟨o, hs⟩) | ⟨o, its, n, hk, hc, _⟩
      · exact .base (.tup hs)
      · exact .fTuple hs
      · exact .kTuple hk hc
    refine isT_at (t := .none) ty ?_ fin
    cases t <;> cases hb <;> decide +kernel
  | lst l =>
    obtain ⟨p, vs, f', rfl, hs, rfl, r1⟩ := rx
    refine isT_at (t := .none) (.base (.lst hs)) ?_ fin
    cases t <;> cases hb <;> decide +kernel
  | frz l => cases t <;> cases hb
  | dl c => cases t <;> cases hb
/-- the truth of a value -/
theorem truV_of {a0 : Addr × Addr} {H : Hp} {x : D} {v : V} {f : List Addr} {k : Bool} (rx : Rp K a0 H x v f) (h : truD x = some k) : TruV K v H k := by
  cases x with
  | non => cases h; rw [rx.1]; exact rfl
  | bl c => cases h; rw [rx.1]; exact rfl
  | int c => cases h; rw [rx.1]; exact rfl
  | str c =>
    simp only [truD] at h
    split at h
    · cases h
      rw [rx.1]
      exact ⟨by assumption, rfl⟩
    · cases h
  | tup l =>
    cases h
    obtain ⟨p, vs, rfl, hs, r1⟩ := rx
    refine .inr (.inl ⟨vs, hs, ?_⟩)
    have e := r1.len
    cases l <;> cases vs <;> first | rfl | simp at e
  | lst l =>
    cases h
    obtain ⟨p, vs, f', rfl, hs, rfl, r1⟩ := rx
    refine .inl ⟨vs, .inl (.inl hs), ?_⟩
    have e := r1.len
    cases l <;> cases vs <;> first | rfl | simp at e
  | frz l =>
    cases h
    obtain ⟨⟨p, rfl, hs⟩, _⟩ := rx
    refine .inl ⟨_, hs.sq, ?_⟩
    cases l <;> rfl
  | dl c => cases h
/-- min(a, b), max(a, b) -/
theorem s2_min : S2 K .min (fun x y H Q => ∃ i j, [x, y] = [.int i, .int j] ∧ Q (.int (if j < i then j else i)) H) := by
  intro a0 H x y v w f g Q d rx ry hd q
  cases x <;> cases y <;> simp only [f2, reduceCtorEq] at hd
  cases hd
  exact ⟨_, _, by rw [rx.1, ry.1], fin_s q ⟨rfl, rfl⟩⟩
theorem s2_max : S2 K .max (fun x y H Q => ∃ i j, [x, y] = [.int i, .int j] ∧ Q (.int (if j > i then j else i)) H) := by
  intro a0 H x y v w f g Q d rx ry hd q
  cases x <;> cases y <;> simp only [f2, reduceCtorEq] at hd
  cases hd
  exact ⟨_, _, by rw [rx.1, ry.1], fin_s q ⟨rfl, rfl⟩⟩
end
end BX

set_option Elab.async false
set_option linter.all false
set_option maxRecDepth 100000
set_option maxHeartbeats 4000000
namespace BX
open PySem PySem.Spec PyProof.Rows L2

/-! ## 4. expressions by their syntax -/
section
variable {X : Cx} {cl : Nat → Value} {G : Gm} {W : WX} {pos p : Pos} {a b c : Expr} {ea eb ec : Ex}
theorem me_bin {o : Op2} {op : Operator} {r : R2} (ho : OpR X (binaryOp op) r) (hs : S2 X.K o r) (ha : PE X a (tE X.K cl G W ea)) (hb : PE X b (tE X.K cl G W eb)) : PE X (.BinOp a op b pos) (tE X.K cl G W (.op2 o ea eb)) :=
  (pe_op ho ha hb).imp fun _ _ _ => op2_core hs
theorem me_add (ha : PE X a (tE X.K cl G W ea)) (hb : PE X b (tE X.K cl G W eb)) : PE X (.BinOp a .Add b pos) (tE X.K cl G W (.op2 .add ea eb)) := me_bin op_addD s2_add ha hb
theorem me_sub (ha : PE X a (tE X.K cl G W ea)) (hb : PE X b (tE X.K cl G W eb)) : PE X (.BinOp a .Sub b pos) (tE X.K cl G W (.op2 .sub ea eb)) := me_bin op_sub s2_sub ha hb
theorem me_mul (ha : PE X a (tE X.K cl G W ea)) (hb : PE X b (tE X.K cl G W eb)) : PE X (.BinOp a .Mult b pos) (tE X.K cl G W (.op2 .mul ea eb)) := me_bin op_mulD s2_mul ha hb
theorem me_fdiv (ha : PE X a (tE X.K cl G W ea)) (hb : PE X b (tE X.K cl G W eb)) : PE X (.BinOp a .FloorDiv b pos) (tE X.K cl G W (.op2 .fdiv ea eb)) := me_bin op_fdivN s2_fdiv ha hb
theorem me_mod (ha : PE X a (tE X.K cl G W ea)) (hb : PE X b (tE X.K cl G W eb)) : PE X (.BinOp a .Mod b pos) (tE X.K cl G W (.op2 .mod ea eb)) := me_bin op_modN s2_mod ha hb
theorem me_pow (ha : PE X a (tE X.K cl G W ea)) (hb : PE X b (tE X.K cl G W eb)) : PE X (.BinOp a .Pow b pos) (tE X.K cl G W (.op2 .pow ea eb)) := me_bin op_pow s2_pow ha hb
theorem me_shl (ha : PE X a (tE X.K cl G W ea)) (hb : PE X b (tE X.K cl G W eb)) : PE X (.BinOp a .LShift b pos) (tE X.K cl G W (.op2 .shl ea eb)) := me_bin op_shl s2_shl ha hb
theorem me_shr (ha : PE X a (tE X.K cl G W ea)) (hb : PE X b (tE X.K cl G W eb)) : PE X (.BinOp a .RShift b pos) (tE X.K cl G W (.op2 .shr ea eb)) := me_bin op_shr s2_shr ha hb
theorem me_band (ha : PE X a (tE X.K cl G W ea)) (hb : PE X b (tE X.K cl G W eb)) : PE X (.BinOp a .BitAnd b pos) (tE X.K cl G W (.op2 .band ea eb)) := me_bin op_and s2_band ha hb
theorem me_bor (ha : PE X a (tE X.K cl G W ea)) (hb : PE X b (tE X.K cl G W eb)) : PE X (.BinOp a .BitOr b pos) (tE X.K cl G W (.op2 .bor ea eb)) := me_bin op_or s2_bor ha hb
theorem me_neg (ha : PE X a (tE X.K cl G W ea)) : PE X (.UnaryOp .USub a pos) (tE X.K cl G W (.op1 .neg ea)) := (pe_un un_neg ha).imp fun _ _ _ => op1_core s1_neg
/-- an item -/
theorem me_ix (ha : PE X a (tE X.K cl G W ea)) (hb : PE X b (tE X.K cl G W eb)) (hs : PlainIx b := by exact fun _ _ => rfl) : PE X (.Subscript a b pos) (tE X.K cl G W (.op2 .ix ea eb)) :=
  (pe_ix ix_seq ha hb hs).imp fun _ _ _ => op2_core s2_ix

/-! ### comparisons -/
/-- the operator's rule, and what the machine makes of it -/
structure CmO (X : Cx) (op : CmpOp) (o : Op2) (r : R2) : Prop where
  op : OpR X (compareOp op) r
  s2 : S2 X.K o r
  bl : ∀ x y d, f2 o x y = some d → ∃ b, d = .bl b
theorem cm_lt : CmO X .Lt .lt (rI0 fun i j => .bl (decide (i < j))) := ⟨op_lt, s2_lt, fun x y d h => by cases x <;> cases y <;> simp only [f2, reduceCtorEq] at h; exact ⟨_, (Option.some.inj h).symm⟩⟩
theorem cm_le : CmO X .LtE .le (rI0 fun i j => .bl (decide (i ≤ j))) := ⟨op_le, s2_le, fun x y d h => by cases x <;> cases y <;> simp only [f2, reduceCtorEq] at h; exact ⟨_, (Option.some.inj h).symm⟩⟩
theorem cm_gt : CmO X .Gt .gt (rI0 fun i j => .bl (decide (j < i))) := ⟨op_gt, s2_gt, fun x y d h => by cases x <;> cases y <;> simp only [f2, reduceCtorEq] at h; exact ⟨_, (Option.some.inj h).symm⟩⟩
theorem cm_ge : CmO X .GtE .ge (rI0 fun i j => .bl (decide (j ≤ i))) := ⟨op_ge, s2_ge, fun x y d h => by cases x <;> cases y <;> simp only [f2, reduceCtorEq] at h; exact ⟨_, (Option.some.inj h).symm⟩⟩
theorem cm_eq (hu : X.A.units + 64 < cLine) : CmO X .Eq .eq (rEqD X.K) := ⟨op_eqD hu, s2_eq, fun x y d h => by
  simp only [f2, Option.map_eq_some_iff] at h
  obtain ⟨b, _, e⟩ := h
  exact ⟨b, e.symm⟩⟩
theorem cm_ne (hu : X.A.units + 64 < cLine) : CmO X .NotEq .ne (rNeD X.K) := ⟨op_neD hu, s2_ne, fun x y d h => by
  simp only [f2, Option.map_eq_some_iff] at h
  obtain ⟨b, _, e⟩ := h
  exact ⟨!b, e.symm⟩⟩
theorem me_cmp {op : CmpOp} {o : Op2} {r : R2} (h : CmO X op o r) (ha : PE X a (tE X.K cl G W ea)) (hb : PE X b (tE X.K cl G W eb)) (hm : behindInMarks op b = false := by exact nomark _) : PE X (.Compare a [op] [b] pos) (tE X.K cl G W (.op2 o ea eb)) :=
  (pe_cmpR h.op ha hb hm).imp fun _ _ _ => op2_core h.s2

/-! ### truth -/
theorem bd_ok {α β : Type} {a : α} {s : Option DS} {f : α → Option DS → Res β} : (Res.ok a s).bd f = f a s := rfl
theorem bd_assoc {α β γ : Type} (r : Res α) (f : α → Option DS → Res β) (g : β → Option DS → Res γ) : (r.bd f).bd g = r.bd fun a s => (f a s).bd g := by
  cases r <;> rfl
theorem bd_congr {α β : Type} {r : Res α} {f g : α → Option DS → Res β} (h : ∀ a s, f a s = g a s) : r.bd f = r.bd g := by
  cases r <;> first | rfl | exact h _ _
/-- the truth is asked of the value -/
def ByVal (G : Gm) (e : Ex) : Prop := ∀ v s, ev G e true v s = (ev G e false v s).bd (fin true)
theorem fin_fin (d : D) (s : Option DS) : (fin false d s).bd (fin true) = fin true d s := rfl
theorem bv_lit {d : D} : ByVal G (.lit d) := fun v s => rfl
theorem bv_var {i : Nat} : ByVal G (.var i) := fun v s => by
  simp only [ev, bd_assoc]
  rfl
theorem bv_op1 {o : Op1} : ByVal G (.op1 o ea) := fun v s => by
  simp only [ev, bd_assoc]
  rfl
theorem bv_op2 {o : Op2} : ByVal G (.op2 o ea eb) := fun v s => by
  simp only [ev, bd_assoc]
  rfl
theorem bv_call {k : Nat} : ByVal G (.call k ea) := fun v s => by
  simp only [ev, bd_assoc]
  rfl
theorem bv_pcl {k : Nat} : ByVal G (.pcl k ea) := fun v s => by
  simp only [ev, bd_assoc]
  rfl
theorem bv_slc : ByVal G (.slc ea eb ec) := fun v s => by
  simp only [ev, bd_assoc]
  rfl
theorem bv_lst : ByVal G (.lst ea) := fun v s => by
  simp only [ev, bd_assoc]
  rfl
theorem bv_tup : ByVal G (.tup ea) := fun v s => by
  simp only [ev, bd_assoc]
  rfl
theorem bv_dg {k : Int} : ByVal G (.dg ea k) := fun v s => by
  simp only [ev, bd_assoc]
  refine bd_congr fun l s => ?_
  split
  · split
    · rfl
    · split
      · rfl
      · split <;> rfl
  · rfl
theorem bv_dq {o : Op2} : ByVal G (.dq o ea eb) := fun v s => by
  simp only [ev, bd_assoc]
  refine bd_congr fun l s => ?_
  refine bd_congr fun l s => ?_
  split
  · split <;> rfl
  · rfl
theorem bv_chn {o q : Op2} : ByVal G (.chn o q ea eb ec) := fun v s => by
  simp only [ev, bd_assoc]
  refine bd_congr fun x s => bd_congr fun y s => bd_congr fun z s => ?_
  cases z <;> try rfl
  rename_i b
  cases b
  · rfl
  · simp only [bd_assoc]
    rfl
theorem mt_of (hv : ByVal G ea) (ha : PE X a (tE X.K cl G W ea)) (he : ∀ whole, isTrue a X.env whole = (do let v ← whole; standAt a.pos; holding [v] (truthy v)) := by intro _; rfl) : PT X a (tT X.K cl G W ea) := by
  refine (pt_truth ha he).imp fun σ H Q ⟨dx, ex, base, Lk, m, own, S, g⟩ => ⟨dx, ex, base, Lk, m, own, S, ?_⟩
  dsimp only at g
  rw [hv] at g
  refine g.seq fun d s1 ea g v H1 f x1 d1 r1 o1 q1 => ?_
  have g' : Gd cl W dx ex σ H (match truD d with | some b => Res.ok (.bl b) s1 | none => .bad) (PyT dx ex H Q) := g
  cases ed : truD d with
  | none => rw [ed] at g'; exact g'.elim
  | some k =>
    rw [ed] at g'
    obtain ⟨b, e, h⟩ := g'
    cases e
    exact ⟨k, truV_of r1 ed, h H1 x1 d1⟩
/-- of a value that is a truth -/
theorem tT_bl (hv : ByVal G ea) (hb : ∀ v s d s', ev G ea false v s = .ok d s' → ∃ b, d = .bl b) {σ : L2.St} {H : Hp} {Q : Bool → Hp → Prop} : tT X.K cl G W ea σ H Q → tE X.K cl G W ea σ H fun x H' => ∃ k, x = .bl k ∧ Q k H' := by
  rintro ⟨dx, ex, base, Lk, m, own, S, g⟩
  refine ⟨dx, ex, base, Lk, m, own, S, ?_⟩
  rw [hv] at g
  refine g.seq fun d s1 ea g v H1 f x1 d1 r1 o1 q1 => ?_
  obtain ⟨b, rfl⟩ := hb _ _ _ _ ea
  obtain ⟨b', e, h⟩ := g
  cases e
  exact ⟨b, r1.1, h H1 x1 d1⟩
theorem op2_bl {o : Op2} (hb : ∀ x y d, f2 o x y = some d → ∃ b, d = .bl b) : ∀ v s d s', ev G (.op2 o ea eb) false v s = .ok d s' → ∃ b, d = .bl b := by
  intro v s d s' h
  simp only [ev] at h
  cases e1 : ev G ea false v s with
  | bad => rw [e1] at h; cases h
  | er c t => rw [e1] at h; cases h
  | ok x t =>
    rw [e1, bd_ok] at h
    cases e2 : ev G eb false v t with
    | bad => rw [e2] at h; cases h
    | er c t => rw [e2] at h; cases h
    | ok y t2 =>
      rw [e2, bd_ok] at h
      cases e3 : f2 o x y with
      | none => rw [e3] at h; cases h
      | some z =>
        rw [e3] at h
        cases h
        exact hb _ _ _ e3
theorem mt_cmp {op : CmpOp} {o : Op2} {r : R2} (h : CmO X op o r) (ha : PE X a (tE X.K cl G W ea)) (hb : PE X b (tE X.K cl G W eb)) (hm : behindInMarks op b = false := by exact nomark _) : PT X (.Compare a [op] [b] pos) (tT X.K cl G W (.op2 o ea eb)) :=
  (pt_cmpR h.op ha hb hm).imp fun σ H Q q => op2_core h.s2 (tT_bl (X := X) bv_op2 (op2_bl h.bl) q)
/-- is None, is True, .. -/
theorem op1_bl {o : Op1} (hb : ∀ x d, f1 o x = some d → ∃ b, d = .bl b) : ∀ v s d s', ev G (.op1 o ea) false v s = .ok d s' → ∃ b, d = .bl b := by
  intro v s d s' h
  simp only [ev] at h
  cases e1 : ev G ea false v s with
  | bad => rw [e1] at h; cases h
  | er c t => rw [e1] at h; cases h
  | ok x t =>
    rw [e1, bd_ok] at h
    cases e3 : f1 o x with
    | none => rw [e3] at h; cases h
    | some z =>
      rw [e3] at h
      cases h
      exact hb _ _ e3
theorem bl_isN : ∀ x d, f1 .isN x = some d → ∃ b, d = .bl b := fun x d h => by cases x <;> simp only [f1, Option.some.injEq, reduceCtorEq] at h <;> exact ⟨_, h.symm⟩
theorem bl_ntN : ∀ x d, f1 .ntN x = some d → ∃ b, d = .bl b := fun x d h => by cases x <;> simp only [f1, Option.some.injEq, reduceCtorEq] at h <;> exact ⟨_, h.symm⟩
theorem bl_isB {k n : Bool} : ∀ x d, f1 (.isB k n) x = some d → ∃ b, d = .bl b := fun x d h => by cases x <;> simp only [f1, Option.some.injEq, reduceCtorEq] at h <;> exact ⟨_, h.symm⟩
theorem tOp_non {r : V → Hp → VK → Prop} {ta : TE} {σ : L2.St} {H : Hp} {Q : VK} (h : ta σ H fun v H1 => r v H1 Q) (m : ∀ σ H Q Q', (∀ v H1, Q v H1 → Q' v H1) → ta σ H Q → ta σ H Q') : tOp (fun x y H Q => y = .non ∧ r x H Q) ta (tC .non) σ H Q :=
  m _ _ _ _ (fun v H1 h => ⟨rfl, h⟩) h
theorem tE_mono {K : PySem.W.Frag} {σ : L2.St} {H : Hp} {Q Q' : VK} (h : ∀ v H1, Q v H1 → Q' v H1) : tE K cl G W ea σ H Q → tE K cl G W ea σ H Q' := by
  rintro ⟨dx, ex, base, Lk, m, own, S, g⟩
  exact ⟨dx, ex, base, Lk, m, own, S, g.back .refl fun d s _ p v H' f x y z w u => h v H' (p v H' f x y z w u)⟩
theorem me_isN {j : Nat} {p2 : Pos} (ha : PE X a (tE X.K cl G W ea)) : PE X (.Compare a [.Is] [.Constant .none j p2] pos) (tE X.K cl G W (.op1 .isN ea)) :=
  (pe_cmpR op_isN ha pe_non (nomark _)).imp fun _ _ _ h => tOp_non (op1_core s1_isN h) fun _ _ _ _ => tE_mono
theorem me_ntN {j : Nat} {p2 : Pos} (ha : PE X a (tE X.K cl G W ea)) : PE X (.Compare a [.IsNot] [.Constant .none j p2] pos) (tE X.K cl G W (.op1 .ntN ea)) :=
  (pe_cmpR op_notN ha pe_non (nomark _)).imp fun _ _ _ h => tOp_non (op1_core s1_ntN h) fun _ _ _ _ => tE_mono
theorem mt_isN {j : Nat} {p2 : Pos} (ha : PE X a (tE X.K cl G W ea)) : PT X (.Compare a [.Is] [.Constant .none j p2] pos) (tT X.K cl G W (.op1 .isN ea)) :=
  (pt_cmpR op_isN ha pe_non (nomark _)).imp fun _ _ _ h => tOp_non (op1_core s1_isN (tT_bl (X := X) bv_op1 (op1_bl bl_isN) h)) fun _ _ _ _ => tE_mono
theorem mt_ntN {j : Nat} {p2 : Pos} (ha : PE X a (tE X.K cl G W ea)) : PT X (.Compare a [.IsNot] [.Constant .none j p2] pos) (tT X.K cl G W (.op1 .ntN ea)) :=
  (pt_cmpR op_notN ha pe_non (nomark _)).imp fun _ _ _ h => tOp_non (op1_core s1_ntN (tT_bl (X := X) bv_op1 (op1_bl bl_ntN) h)) fun _ _ _ _ => tE_mono
theorem tOp_isB {k : Bool} {σ : L2.St} {H : Hp} {Q : VK} (h : tE X.K cl G W ea σ H fun x H1 => ∃ c : Bool, x = .bl c ∧ Q (.bl (decide (c = k))) H1) : tOp rIsB (tE X.K cl G W ea) (tC (.bl k)) σ H Q :=
  tE_mono (fun v H1 ⟨c, e, q⟩ => ⟨c, k, e, rfl, q⟩) h
theorem tOp_ntB {k : Bool} {σ : L2.St} {H : Hp} {Q : VK} (h : tE X.K cl G W ea σ H fun x H1 => ∃ c : Bool, x = .bl c ∧ Q (.bl (!decide (c = k))) H1) : tOp rNotB (tE X.K cl G W ea) (tC (.bl k)) σ H Q :=
  tE_mono (fun v H1 ⟨c, e, q⟩ => ⟨c, k, e, rfl, q⟩) h
theorem me_isB {k : Bool} {j : Nat} {p2 : Pos} (ha : PE X a (tE X.K cl G W ea)) : PE X (.Compare a [.Is] [.Constant (.bool k) j p2] pos) (tE X.K cl G W (.op1 (.isB k false) ea)) :=
  (pe_cmpR op_isBl ha pe_bl (nomark _)).imp fun _ _ _ h => tOp_isB (op1_core (s1_isB k) h)
theorem me_ntB {k : Bool} {j : Nat} {p2 : Pos} (ha : PE X a (tE X.K cl G W ea)) : PE X (.Compare a [.IsNot] [.Constant (.bool k) j p2] pos) (tE X.K cl G W (.op1 (.isB k true) ea)) :=
  (pe_cmpR op_notBl ha pe_bl (nomark _)).imp fun _ _ _ h => tOp_ntB (op1_core (s1_ntB k) h)
theorem mt_isB {k : Bool} {j : Nat} {p2 : Pos} (ha : PE X a (tE X.K cl G W ea)) : PT X (.Compare a [.Is] [.Constant (.bool k) j p2] pos) (tT X.K cl G W (.op1 (.isB k false) ea)) :=
  (pt_cmpR op_isBl ha pe_bl (nomark _)).imp fun _ _ _ h => tOp_isB (op1_core (s1_isB k) (tT_bl (X := X) bv_op1 (op1_bl bl_isB) h))
theorem mt_ntB {k : Bool} {j : Nat} {p2 : Pos} (ha : PE X a (tE X.K cl G W ea)) : PT X (.Compare a [.IsNot] [.Constant (.bool k) j p2] pos) (tT X.K cl G W (.op1 (.isB k true) ea)) :=
  (pt_cmpR op_notBl ha pe_bl (nomark _)).imp fun _ _ _ h => tOp_ntB (op1_core (s1_ntB k) (tT_bl (X := X) bv_op1 (op1_bl bl_isB) h))
/-- a < b < c -/
theorem chn_core {o q : Op2} {r r' : R2} (hs : S2 X.K o r) (hq : S2 X.K q r') {σ : L2.St} {H : Hp} {Q : VK} : tE X.K cl G W (.chn o q ea eb ec) σ H Q → tChain r r' (tE X.K cl G W ea) (tE X.K cl G W eb) (tE X.K cl G W ec) σ H Q := by
  rintro ⟨dx, ex, base, Lk, m, own, S, g⟩
  refine ⟨dx, ex, base, Lk, m, own, S, ?_⟩
  simp only [ev] at g
  refine g.seq fun x s1 ea g v H1 f x1 d1 r1 o1 q1 => ⟨dx, ex, base, Lk, _, own, S.step x1 d1, ?_⟩
  refine (g.at x1).seq fun y s2 eb g w H2 f2 x2 d2 r2 o2 q2 => ?_
  obtain ⟨d, ed, g2⟩ := g.ofO
  refine hs dx H2 x y v w f f2 _ d (r1.mono x2 d1.exl o1) r2 ed fun v' H' f' sm r3 k n => ?_
  have S2 := (S.step x1 d1).step (x2.trans (.of_same sm)) (d2.same sm)
  cases d with
  | bl z =>
    cases z with
    | false =>
      exact ⟨false, r3.1, by
        rw [if_neg (by decide)]
        exact good_lit (PyE.back g2 ((x1.trans x2).trans (.of_same sm))) (d2.same sm) ⟨rfl, rfl⟩⟩
    | true =>
      refine ⟨true, r3.1, ?_⟩
      rw [if_pos rfl]
      refine ⟨dx, ex, base, Lk, _, own, S2, ?_⟩
      have g3 := Gd.at g2 (x2.trans (Xt.of_same sm))
      refine g3.seq fun z s3 ec g3 u H3 f3 x3 d3 r4 o4 q4 => ?_
      obtain ⟨d', ed', g4⟩ := g3.ofO
      refine hq dx H3 y z w u f2 f3 Q d' ((r2.mono (.of_same sm) d2.exl o2).mono x3 (d2.same sm).exl o2) r4 ed' fun v5 H5 f5 sm5 r5 k5 n5 => ?_
      have o5 : Out ex f5 := fun a ha => (k5 a ha).elim (o2 a) fun k => k.elim (o4 a) d3.notin
      have x5 := ((x1.trans x2).trans (.of_same sm)).trans x3
      refine g4 v5 H5 f5 (x5.trans (.of_same sm5)) (d3.same sm5) r5 o5 fun z => ?_
      have z' : noL d' = true := z
      rw [r5.noL z']
      exact .nil
  | _ => exact g2.elim
theorem chn_bl {o q : Op2} (hq : ∀ x y d, f2 q x y = some d → ∃ b, d = .bl b) : ∀ v s d s', ev G (.chn o q ea eb ec) false v s = .ok d s' → ∃ b, d = .bl b := by
  intro v s d s' h
  simp only [ev] at h
  cases e1 : ev G ea false v s with
  | bad => rw [e1] at h; cases h
  | er c t => rw [e1] at h; cases h
  | ok x t =>
    rw [e1, bd_ok] at h
    cases e2 : ev G eb false v t with
    | bad => rw [e2] at h; cases h
    | er c t => rw [e2] at h; cases h
    | ok y t2 =>
      rw [e2, bd_ok] at h
      cases e3 : f2 o x y with
      | none => rw [e3] at h; cases h
      | some z =>
        rw [e3] at h
        cases z with
        | bl k =>
          cases k with
          | false => cases h; exact ⟨_, rfl⟩
          | true =>
            have h' : ((ev G ec false v t2).bd fun w s => (ofO (f2 q y w) s).bd (fin false)) = .ok d s' := h
            cases e4 : ev G ec false v t2 with
            | bad => rw [e4] at h'; cases h'
            | er c t => rw [e4] at h'; cases h'
            | ok w t3 =>
              rw [e4, bd_ok] at h'
              cases e5 : f2 q y w with
              | none => rw [e5] at h'; cases h'
              | some z =>
                rw [e5] at h'
                cases h'
                exact hq _ _ _ e5
        | _ => cases h
theorem me_chn {op op' : CmpOp} {o q : Op2} {r r' : R2} (h : CmO X op o r) (h' : CmO X op' q r') (ha : PE X a (tE X.K cl G W ea)) (hb : PE X b (tE X.K cl G W eb)) (hc : PE X c (tE X.K cl G W ec)) (hm : lastMarks [op, op'] [b, c] = false := by with_unfolding_all rfl) :
    PE X (.Compare a [op, op'] [b, c] pos) (tE X.K cl G W (.chn o q ea eb ec)) := (pe_chain h.op h'.op ha hb hc hm).imp fun _ _ _ => chn_core h.s2 h'.s2
theorem mt_chn {op op' : CmpOp} {o q : Op2} {r r' : R2} (h : CmO X op o r) (h' : CmO X op' q r') (ha : PE X a (tE X.K cl G W ea)) (hb : PE X b (tE X.K cl G W eb)) (hc : PE X c (tE X.K cl G W ec)) (hm : lastMarks [op, op'] [b, c] = false := by with_unfolding_all rfl) :
    PT X (.Compare a [op, op'] [b, c] pos) (tT X.K cl G W (.chn o q ea eb ec)) := (pt_chain h.op h'.op ha hb hc hm).imp fun _ _ _ q => chn_core h.s2 h'.s2 (tT_bl (X := X) bv_chn (chn_bl h'.bl) q)
end
end BX

set_option Elab.async false
set_option linter.all false
set_option maxRecDepth 100000
set_option maxHeartbeats 4000000
namespace BX
open PySem PySem.Spec PyProof.Rows L2

/-! ### not, and, or, a if c else b -/
section
variable {X : Cx} {cl : Nat → Value} {G : Gm} {W : WX} {pos p : Pos} {a b c : Expr} {ea eb ec : Ex} {rest : List Expr}
theorem mt_not (ha : PT X a (tT X.K cl G W ea)) : PT X (.UnaryOp .Not a pos) (tT X.K cl G W (.nt ea)) := by
  refine (pt_not ha).imp fun σ H Q ⟨dx, ex, base, Lk, m, own, S, g⟩ => ⟨dx, ex, base, Lk, m, own, S, ?_⟩
  simp only [ev] at g
  refine g.seq fun d s1 ea g => ?_
  obtain ⟨d', ed, g2⟩ : ∃ d', f1 .notV d = some d' ∧ PyT dx ex H Q d' s1 := by
    cases e : f1 .notV d with
    | none => rw [e] at g; exact g.elim
    | some d' => rw [e] at g; exact ⟨d', rfl, g⟩
  cases d <;> simp only [f1, reduceCtorEq] at ed
  rename_i k
  cases ed
  obtain ⟨k', e, h⟩ := g2
  cases e
  exact ⟨k, rfl, h⟩
theorem me_not (ha : PE X a (tE X.K cl G W ea)) : PE X (.UnaryOp .Not a pos) (tE X.K cl G W (.nt ea)) := by
  refine (pe_not ha).imp fun σ H Q ⟨dx, ex, base, Lk, m, own, S, g⟩ => ⟨dx, ex, base, Lk, m, own, S, ?_⟩
  simp only [ev] at g
  refine g.seq fun d s1 ea g v H1 f x1 d1 r1 o1 q1 => ?_
  cases d with
  | bl k => exact ⟨k, r1.1, PyE.back g x1 _ H1 [] .refl d1 ⟨rfl, rfl⟩ .nil fun _ => .nil⟩
  | _ => exact g.elim
theorem mw_and1 (ha : PT X a (tT X.K cl G W ea)) : PW X (.BoolOp .And [a] pos) (tT X.K cl G W ea) := pw_and1 ha
theorem mw_or1 (ha : PT X a (tT X.K cl G W ea)) : PW X (.BoolOp .Or [a] pos) (tT X.K cl G W ea) := pw_or1 ha
theorem and_core {σ : L2.St} {H : Hp} {Q : Bool → Hp → Prop} : tT X.K cl G W (.an ea eb) σ H Q → tAnd (tT X.K cl G W ea) (tT X.K cl G W eb) σ H Q := by
  rintro ⟨dx, ex, base, Lk, m, own, S, g⟩
  refine ⟨dx, ex, base, Lk, m, own, S, ?_⟩
  simp only [ev] at g
  refine g.seq fun d s1 ea g => ?_
  cases d with
  | bl k =>
    refine ⟨k, rfl, fun H1 x1 d1 => ?_⟩
    cases k with
    | true =>
      rw [if_pos rfl]
      exact ⟨dx, ex, base, Lk, _, own, S.step x1 d1, Gd.back g x1 fun _ _ _ p => p.back x1⟩
    | false =>
      rw [if_neg (by decide)]
      obtain ⟨k', e, h⟩ := g
      cases e
      exact h H1 x1 d1
  | _ => exact g.elim
theorem or_core {σ : L2.St} {H : Hp} {Q : Bool → Hp → Prop} : tT X.K cl G W (.orr ea eb) σ H Q → tOr (tT X.K cl G W ea) (tT X.K cl G W eb) σ H Q := by
  rintro ⟨dx, ex, base, Lk, m, own, S, g⟩
  refine ⟨dx, ex, base, Lk, m, own, S, ?_⟩
  simp only [ev] at g
  refine g.seq fun d s1 ea g => ?_
  cases d with
  | bl k =>
    refine ⟨k, rfl, fun H1 x1 d1 => ?_⟩
    cases k with
    | false =>
      rw [if_neg (by decide)]
      exact ⟨dx, ex, base, Lk, _, own, S.step x1 d1, Gd.back g x1 fun _ _ _ p => p.back x1⟩
    | true =>
      rw [if_pos rfl]
      obtain ⟨k', e, h⟩ := g
      cases e
      exact h H1 x1 d1
  | _ => exact g.elim
theorem mw_and (ha : PT X a (tT X.K cl G W ea)) (hb : PW X (.BoolOp .And (b :: rest) pos) (tT X.K cl G W eb)) : PW X (.BoolOp .And (a :: b :: rest) pos) (tT X.K cl G W (.an ea eb)) := (pw_and ha hb).imp fun _ _ _ => and_core
theorem mw_or (ha : PT X a (tT X.K cl G W ea)) (hb : PW X (.BoolOp .Or (b :: rest) pos) (tT X.K cl G W eb)) : PW X (.BoolOp .Or (a :: b :: rest) pos) (tT X.K cl G W (.orr ea eb)) := (pw_or ha hb).imp fun _ _ _ => or_core
/-- as values: all but the last are truths -/
theorem me_one {op : BoolOp} (ha : PE X a (tE X.K cl G W ea)) : PE X (.BoolOp op [a] pos) (tE X.K cl G W ea) := pe_one ha
theorem me_and (ha : PE X a (tE X.K cl G W ea)) (hb : PE X (.BoolOp .And (b :: rest) pos) (tE X.K cl G W eb)) : PE X (.BoolOp .And (a :: b :: rest) pos) (tE X.K cl G W (.an ea eb)) := by
  refine (pe_and ha hb).imp fun σ H Q ⟨dx, ex, base, Lk, m, own, S, g⟩ => ⟨dx, ex, base, Lk, m, own, S, ?_⟩
  simp only [ev] at g
  refine g.seq fun d s1 ea g v H1 f x1 d1 r1 o1 q1 => ?_
  cases d with
  | bl k =>
    refine ⟨k, r1.1, ?_⟩
    cases k with
    | true =>
      rw [if_pos rfl]
      refine ⟨dx, ex, base, Lk, _, own, S.step x1 d1, Gd.back g x1 fun d' _ _ p v' H' f' x dr rp o q => p v' H' f' (x1.trans x) dr rp o fun z => ?_⟩
      have z' : noL d' = true := z
      rw [rp.noL z']
      exact .nil
    | false =>
      rw [if_neg (by decide)]
      exact good_lit (PyE.back g x1) d1 ⟨rfl, rfl⟩
  | _ => exact g.elim
theorem me_or (ha : PE X a (tE X.K cl G W ea)) (hb : PE X (.BoolOp .Or (b :: rest) pos) (tE X.K cl G W eb)) : PE X (.BoolOp .Or (a :: b :: rest) pos) (tE X.K cl G W (.orr ea eb)) := by
  refine (pe_or ha hb).imp fun σ H Q ⟨dx, ex, base, Lk, m, own, S, g⟩ => ⟨dx, ex, base, Lk, m, own, S, ?_⟩
  simp only [ev] at g
  refine g.seq fun d s1 ea g v H1 f x1 d1 r1 o1 q1 => ?_
  cases d with
  | bl k =>
    refine ⟨k, r1.1, ?_⟩
    cases k with
    | false =>
      rw [if_neg (by decide)]
      refine ⟨dx, ex, base, Lk, _, own, S.step x1 d1, Gd.back g x1 fun d' _ _ p v' H' f' x dr rp o q => p v' H' f' (x1.trans x) dr rp o fun z => ?_⟩
      have z' : noL d' = true := z
      rw [rp.noL z']
      exact .nil
    | true =>
      rw [if_pos rfl]
      exact good_lit (PyE.back g x1) d1 ⟨rfl, rfl⟩
  | _ => exact g.elim
theorem bd_fin (r : Res D) : r.bd (fin false) = r := by cases r <;> rfl
theorem me_ife (hc : PT X c (tT X.K cl G W ec)) (ha : PE X a (tE X.K cl G W ea)) (hb : PE X b (tE X.K cl G W eb)) : PE X (.IfExp c a b pos) (tE X.K cl G W (.ife ec ea eb)) := by
  refine (pe_ifExp hc ha hb).imp fun σ H Q ⟨dx, ex, base, Lk, m, own, S, g⟩ => ⟨dx, ex, base, Lk, m, own, S, ?_⟩
  simp only [ev] at g
  refine g.seq fun d s1 e0 g => ?_
  cases d with
  | bl k =>
    refine ⟨k, rfl, fun H1 x1 d1 => ?_⟩
    have wk : ∀ (d : D) (f : List Addr) (v : V) (H' : Hp), Rp X.K dx H' d v f → frD (.ife ec ea eb) d = true → (frD ea d = true ∧ frD eb d = true) ∨ f = [] := fun d f v H' rp z => by
      have z' : noL d = true ∨ (frD ea d = true ∧ frD eb d = true) := by simpa [frD] using z
      rcases z' with z' | z'
      · exact .inr (rp.noL z')
      · exact .inl z'
    cases k with
    | true =>
      show tE X.K cl G W ea σ H1 Q
      have g' : Gd cl W dx ex σ H (ev G ea false m.v s1) (PyE X.K dx ex (frD (.ife ec ea eb)) H Q) := by
        have g2 : Gd cl W dx ex σ H ((ev G ea false m.v s1).bd (fin false)) (PyE X.K dx ex (frD (.ife ec ea eb)) H Q) := g
        rw [bd_fin] at g2
        exact g2
      refine ⟨dx, ex, base, Lk, _, own, S.step x1 d1, Gd.back g' x1 fun d' _ _ p v' H' f' x dr rp o q => p v' H' f' (x1.trans x) dr rp o fun z => ?_⟩
      rcases wk d' f' v' H' rp z with z | z
      · exact (q z.1).back x1 o
      · rw [z]; exact .nil
    | false =>
      show tE X.K cl G W eb σ H1 Q
      have g' : Gd cl W dx ex σ H (ev G eb false m.v s1) (PyE X.K dx ex (frD (.ife ec ea eb)) H Q) := by
        have g2 : Gd cl W dx ex σ H ((ev G eb false m.v s1).bd (fin false)) (PyE X.K dx ex (frD (.ife ec ea eb)) H Q) := g
        rw [bd_fin] at g2
        exact g2
      refine ⟨dx, ex, base, Lk, _, own, S.step x1 d1, Gd.back g' x1 fun d' _ _ p v' H' f' x dr rp o q => p v' H' f' (x1.trans x) dr rp o fun z => ?_⟩
      rcases wk d' f' v' H' rp z with z | z
      · exact (q z.2).back x1 o
      · rw [z]; exact .nil
  | _ => exact g.elim

/-! ### built-ins by name -/
theorem tcb1 {r : List V → Hp → VK → Prop} {ta : TE} {σ : L2.St} {H : Hp} {Q : VK} (h : ta σ H fun v H1 => r1of r v H1 Q) : tCB r (tCons ta tNil) σ H Q := h
theorem me_cb1 {o : Op1} {id : String} {x : Str} {r : List V → Hp → VK → Prop} (hc : CallR X (.builtin id) r) (hs : S1 X.K o (r1of r)) (hm : X.mg x = none) (hv : bootBuiltins x = some (.builtin id)) (hg : Gl X x) (ha : PE X a (tE X.K cl G W ea))
    (hn : x ≠ "__name__" := by decide) (hdb : (x == ("__debug__" : Str)) = false := by decide) (he : starEach [a] X.env = (false, eval a X.env) :: starEach [] X.env := by rfl) (hpl : (backTo pos (starEach [] X.env)).any (·.1) = false := by rfl) :
    PE X (.Call (.Name x p) [a] [] pos) (tE X.K cl G W (.op1 o ea)) :=
  (pe_callB hc hg hm hv (pa_cons ha pa_nil he) hn hdb he hpl).imp fun _ _ _ q => tcb1 (op1_core hs q)
theorem me_ct1 {o : Op1} {T : String} {x : Str} {r : List V → Hp → VK → Prop} (hc : CallR X (.type T) r) (hs : S1 X.K o (r1of r)) (hm : X.mg x = none) (hv : bootBuiltins x = some (.type T)) (hg : Gl X x) (ha : PE X a (tE X.K cl G W ea))
    (hn : x ≠ "__name__" := by decide) (hdb : (x == ("__debug__" : Str)) = false := by decide) (he : starEach [a] X.env = (false, eval a X.env) :: starEach [] X.env := by rfl) (hpl : (backTo pos (starEach [] X.env)).any (·.1) = false := by rfl) :
    PE X (.Call (.Name x p) [a] [] pos) (tE X.K cl G W (.op1 o ea)) :=
  (pe_callTy hc hg hm hv (pa_cons ha pa_nil he) hn hdb he hpl).imp fun _ _ _ q => tcb1 (op1_core hs q)
theorem me_cb2 {o : Op2} {id : String} {x : Str} {r : List V → Hp → VK → Prop} (hc : CallR X (.builtin id) r) (hs : S2 X.K o (fun v w H Q => r [v, w] H Q)) (hm : X.mg x = none) (hv : bootBuiltins x = some (.builtin id)) (hg : Gl X x) (ha : PE X a (tE X.K cl G W ea)) (hb : PE X b (tE X.K cl G W eb))
    (hn : x ≠ "__name__" := by decide) (hdb : (x == ("__debug__" : Str)) = false := by decide) (he : starEach [a, b] X.env = (false, eval a X.env) :: starEach [b] X.env := by rfl) (he2 : starEach [b] X.env = (false, eval b X.env) :: starEach [] X.env := by rfl) (hpl : (backTo pos (starEach [b] X.env)).any (·.1) = false := by rfl) :
    PE X (.Call (.Name x p) [a, b] [] pos) (tE X.K cl G W (.op2 o ea eb)) :=
  (pe_callB hc hg hm hv (pa_cons ha (pa_cons hb pa_nil he2) he) hn hdb he hpl).imp fun _ _ _ q => op2_core hs q
end
/-- the names that the text leaves to the built-ins -/
structure Bi (mg : Str → Option Value) : Prop where
  len : mg "len" = none
  tuple : mg "tuple" = none
  list : mg "list" = none
  int : mg "int" = none
  sum : mg "sum" = none
  any : mg "any" = none
  all : mg "all" = none
  max : mg "max" = none
  min : mg "min" = none
  isinstance : mg "isinstance" = none
  range : mg "range" = none
  zip : mg "zip" = none
  enumerate : mg "enumerate" = none
  bool : mg "bool" = none
  str : mg "str" = none
section
variable {X : Cx} {cl : Nat → Value} {G : Gm} {W : WX} {pos p p2 : Pos} {a b c : Expr} {ea eb ec : Ex}
theorem me_len (B : Bi X.mg) (hg : Gl X "len") (ha : PE X a (tE X.K cl G W ea)) (he : starEach [a] X.env = (false, eval a X.env) :: starEach [] X.env := by rfl) : PE X (.Call (.Name "len" p) [a] [] pos) (tE X.K cl G W (.op1 .len ea)) :=
  me_cb1 call_len s1_len B.len PySem.boot_len hg ha (by decide) (by decide) he rfl
theorem me_tuple (B : Bi X.mg) (hg : Gl X "tuple") (ha : PE X a (tE X.K cl G W ea)) (he : starEach [a] X.env = (false, eval a X.env) :: starEach [] X.env := by rfl) : PE X (.Call (.Name "tuple" p) [a] [] pos) (tE X.K cl G W (.op1 .tuple ea)) :=
  me_ct1 call_tuple_of s1_tuple B.tuple (by decide +kernel) hg ha (by decide) (by decide) he rfl
theorem me_list (B : Bi X.mg) (hg : Gl X "list") (ha : PE X a (tE X.K cl G W ea)) (he : starEach [a] X.env = (false, eval a X.env) :: starEach [] X.env := by rfl) : PE X (.Call (.Name "list" p) [a] [] pos) (tE X.K cl G W (.op1 .list ea)) :=
  me_ct1 call_list_of s1_list B.list (by decide +kernel) hg ha (by decide) (by decide) he rfl
theorem me_intc (B : Bi X.mg) (hg : Gl X "int") (ha : PE X a (tE X.K cl G W ea)) (he : starEach [a] X.env = (false, eval a X.env) :: starEach [] X.env := by rfl) : PE X (.Call (.Name "int" p) [a] [] pos) (tE X.K cl G W (.op1 .int ea)) :=
  me_ct1 call_int1 s1_int B.int (by decide +kernel) hg ha (by decide) (by decide) he rfl
theorem me_sum (hc : X.calm = true) (B : Bi X.mg) (hg : Gl X "sum") (ha : PE X a (tE X.K cl G W ea)) (he : starEach [a] X.env = (false, eval a X.env) :: starEach [] X.env := by rfl) : PE X (.Call (.Name "sum" p) [a] [] pos) (tE X.K cl G W (.op1 .sum ea)) :=
  me_cb1 (cr_sum hc) s1_sum B.sum (by decide +kernel) hg ha (by decide) (by decide) he rfl
theorem me_any (hc : X.calm = true) (B : Bi X.mg) (hg : Gl X "any") (ha : PE X a (tE X.K cl G W ea)) (he : starEach [a] X.env = (false, eval a X.env) :: starEach [] X.env := by rfl) : PE X (.Call (.Name "any" p) [a] [] pos) (tE X.K cl G W (.op1 .any ea)) :=
  me_cb1 (cr_any hc) s1_any B.any (by decide +kernel) hg ha (by decide) (by decide) he rfl
theorem me_all (hc : X.calm = true) (B : Bi X.mg) (hg : Gl X "all") (ha : PE X a (tE X.K cl G W ea)) (he : starEach [a] X.env = (false, eval a X.env) :: starEach [] X.env := by rfl) : PE X (.Call (.Name "all" p) [a] [] pos) (tE X.K cl G W (.op1 .all ea)) :=
  me_cb1 (cr_all hc) s1_all B.all (by decide +kernel) hg ha (by decide) (by decide) he rfl
theorem me_max (hc : X.calm = true) (B : Bi X.mg) (hg : Gl X "max") (ha : PE X a (tE X.K cl G W ea)) (he : starEach [a] X.env = (false, eval a X.env) :: starEach [] X.env := by rfl) : PE X (.Call (.Name "max" p) [a] [] pos) (tE X.K cl G W (.op1 .max ea)) :=
  me_cb1 (cr_max hc) s1_max B.max (by decide +kernel) hg ha (by decide) (by decide) he rfl
theorem me_min (hc : X.calm = true) (B : Bi X.mg) (hg : Gl X "min") (ha : PE X a (tE X.K cl G W ea)) (he : starEach [a] X.env = (false, eval a X.env) :: starEach [] X.env := by rfl) : PE X (.Call (.Name "min" p) [a] [] pos) (tE X.K cl G W (.op1 .min ea)) :=
  me_cb1 (cr_min hc) s1_min B.min (by decide +kernel) hg ha (by decide) (by decide) he rfl
theorem me_min2 (hc : X.calm = true) (B : Bi X.mg) (hg : Gl X "min") (ha : PE X a (tE X.K cl G W ea)) (hb : PE X b (tE X.K cl G W eb)) (he : starEach [a, b] X.env = (false, eval a X.env) :: starEach [b] X.env := by rfl) (he2 : starEach [b] X.env = (false, eval b X.env) :: starEach [] X.env := by rfl)
    (hpl : (backTo pos (starEach [b] X.env)).any (·.1) = false := by rfl) : PE X (.Call (.Name "min" p) [a, b] [] pos) (tE X.K cl G W (.op2 .min ea eb)) :=
  me_cb2 (call_min2 hc) s2_min B.min (by decide +kernel) hg ha hb (by decide) (by decide) he he2 hpl
theorem me_max2 (hc : X.calm = true) (B : Bi X.mg) (hg : Gl X "max") (ha : PE X a (tE X.K cl G W ea)) (hb : PE X b (tE X.K cl G W eb)) (he : starEach [a, b] X.env = (false, eval a X.env) :: starEach [b] X.env := by rfl) (he2 : starEach [b] X.env = (false, eval b X.env) :: starEach [] X.env := by rfl)
    (hpl : (backTo pos (starEach [b] X.env)).any (·.1) = false := by rfl) : PE X (.Call (.Name "max" p) [a, b] [] pos) (tE X.K cl G W (.op2 .max ea eb)) :=
  me_cb2 (call_max2 hc) s2_max B.max (by decide +kernel) hg ha hb (by decide) (by decide) he he2 hpl
theorem pe_tyn {n : String} {x : Str} (hg : Gl X x) (hm : X.mg x = none) (hv : bootBuiltins x = some (.type n)) (hn : x ≠ "__name__" := by decide) (hd : (x == ("__debug__" : Str)) = false := by decide) : PE X (.Name x pos) (tC (.ty n)) := pe_bltn hg hm hv rfl hn hd
theorem me_isi (t : Ty) {x : Str} (B : Bi X.mg) (hg : Gl X "isinstance") (ha : PE X a (tE X.K cl G W ea)) (hx : PE X (.Name x p2) (tC (.ty (tyName t)))) (he : starEach [a, .Name x p2] X.env = (false, eval a X.env) :: starEach [.Name x p2] X.env := by rfl) :
    PE X (.Call (.Name "isinstance" p) [a, .Name x p2] [] pos) (tE X.K cl G W (.op1 (.isi t) ea)) :=
  (pe_callB call_isi hg B.isinstance (by decide +kernel) (pa_cons ha (pa_cons hx pa_nil) he) (by decide) (by decide) he rfl).imp fun _ _ _ q => op1_core (s1_isi t) q
theorem me_isInt (B : Bi X.mg) (hg : Gl X "isinstance") (hg2 : Gl X "int") (ha : PE X a (tE X.K cl G W ea)) (he : starEach [a, .Name "int" p2] X.env = (false, eval a X.env) :: starEach [.Name "int" p2] X.env := by rfl) : PE X (.Call (.Name "isinstance" p) [a, .Name "int" p2] [] pos) (tE X.K cl G W (.op1 (.isi .int) ea)) :=
  me_isi .int B hg ha (pe_tyn hg2 B.int (by decide +kernel)) he
theorem me_isBool (B : Bi X.mg) (hg : Gl X "isinstance") (hg2 : Gl X "bool") (ha : PE X a (tE X.K cl G W ea)) (he : starEach [a, .Name "bool" p2] X.env = (false, eval a X.env) :: starEach [.Name "bool" p2] X.env := by rfl) : PE X (.Call (.Name "isinstance" p) [a, .Name "bool" p2] [] pos) (tE X.K cl G W (.op1 (.isi .bool) ea)) :=
  me_isi .bool B hg ha (pe_tyn hg2 B.bool (by decide +kernel)) he
theorem me_isStr (B : Bi X.mg) (hg : Gl X "isinstance") (hg2 : Gl X "str") (ha : PE X a (tE X.K cl G W ea)) (he : starEach [a, .Name "str" p2] X.env = (false, eval a X.env) :: starEach [.Name "str" p2] X.env := by rfl) : PE X (.Call (.Name "isinstance" p) [a, .Name "str" p2] [] pos) (tE X.K cl G W (.op1 (.isi .str) ea)) :=
  me_isi .str B hg ha (pe_tyn hg2 B.str (by decide +kernel)) he
theorem me_isTup (B : Bi X.mg) (hg : Gl X "isinstance") (hg2 : Gl X "tuple") (ha : PE X a (tE X.K cl G W ea)) (he : starEach [a, .Name "tuple" p2] X.env = (false, eval a X.env) :: starEach [.Name "tuple" p2] X.env := by rfl) : PE X (.Call (.Name "isinstance" p) [a, .Name "tuple" p2] [] pos) (tE X.K cl G W (.op1 (.isi .tuple) ea)) :=
  me_isi .tuple B hg ha (pe_tyn hg2 B.tuple (by decide +kernel)) he
theorem me_isLst (B : Bi X.mg) (hg : Gl X "isinstance") (hg2 : Gl X "list") (ha : PE X a (tE X.K cl G W ea)) (he : starEach [a, .Name "list" p2] X.env = (false, eval a X.env) :: starEach [.Name "list" p2] X.env := by rfl) : PE X (.Call (.Name "isinstance" p) [a, .Name "list" p2] [] pos) (tE X.K cl G W (.op1 (.isi .list) ea)) :=
  me_isi .list B hg ha (pe_tyn hg2 B.list (by decide +kernel)) he

/-! ### slices -/
/-- a part of a slice by the machine -/
def tO (K : PySem.W.Frag) (cl : Nat → Value) (G : Gm) (W : WX) (e : Ex) : TO := fun σ H Q => Sta K σ H fun dx ex m => Gd cl W dx ex σ H (evA G e m.v m.s) fun d s => ∃ o, partOf d = some o ∧ ∀ H', Xt ex H H' → DR dx ex s H' → Q o H'
structure MO (X : Cx) (cl : Nat → Value) (G : Gm) (W : WX) (e : Option Expr) (o : Ex) : Prop where
  ex : ∃ t, PO X e t ∧ ∀ σ H Q, tO X.K cl G W o σ H Q → t σ H Q
theorem mo_none : MO X cl G W none .nil := ⟨_, po_none, fun σ H Q ⟨dx, ex, base, Lk, m, own, S, o, e, h⟩ => by
  cases e
  exact h H .refl S.dr⟩
theorem mo_some (h : PE X a (tE X.K cl G W ea)) : MO X cl G W (some a) (.cons ea .nil) := ⟨_, po_some h, fun σ H Q ⟨dx, ex, base, Lk, m, own, S, g⟩ => ⟨dx, ex, base, Lk, m, own, S, by
  simp only [evA] at g
  refine g.seq fun d s1 e0 g v H1 f x1 d1 r1 o1 q1 => ?_
  obtain ⟨o, e, h⟩ := g
  cases d <;> simp only [partOf, Option.some.injEq, reduceCtorEq] at e
  subst e
  exact ⟨_, r1.1, h H1 x1 d1⟩⟩⟩
theorem frD_slc {lo hi : Ex} {d : D} (h : frD (.slc ea lo hi) d = true) : frT d = true := by
  cases d <;> first | exact h | simp [frD, noL] at h
theorem me_slc {lo hi : Option Expr} {el eh : Ex} (ha : PE X a (tE X.K cl G W ea)) (hl : MO X cl G W lo el) (hh : MO X cl G W hi eh) : PE X (.Subscript a (.Slice lo hi none p2) pos) (tE X.K cl G W (.slc ea el eh)) := by
  obtain ⟨tl, hl, il⟩ := hl.ex
  obtain ⟨th, hh, ih⟩ := hh.ex
  refine (pe_slice sl_D ha hl hh).imp fun σ H Q ⟨dx, ex, base, Lk, m, own, S, g⟩ => ⟨dx, ex, base, Lk, m, own, S, ?_⟩
  simp only [ev] at g
  refine g.seq fun d s1 e0 g v H1 f x1 d1 r1 o1 q1 => il _ _ _ ⟨dx, ex, base, Lk, _, own, S.step x1 d1, ?_⟩
  refine (g.at x1).seq fun y s2 eb g => ?_
  have hy : ∃ lo, partOf y = some lo := by
    cases e : partOf y with
    | some lo => exact ⟨lo, rfl⟩
    | none =>
      rw [e] at g
      exact g.elim
  obtain ⟨lo, hy⟩ := hy
  rw [hy] at g
  dsimp only [ofI, Res.bd] at g
  refine ⟨lo, hy, fun H2 x2 d2 => ih _ _ _ ⟨dx, ex, base, Lk, _, own, (S.step x1 d1).step x2 d2, ?_⟩⟩
  refine (Gd.at g x2).seq fun z s3 ec g => ?_
  obtain ⟨d', ed, g2⟩ := Gd.ofO g
  have hz : ∃ hi, partOf z = some hi := by
    cases e : partOf z with
    | some hi => exact ⟨hi, rfl⟩
    | none =>
      unfold f3 at ed
      rw [hy, e] at ed
      cases ed
  obtain ⟨hi, hz⟩ := hz
  refine ⟨hi, hz, fun H3 x3 d3 => ?_⟩
  have r3 := (r1.mono x2 d1.exl o1).mono x3 d2.exl o1
  refine s3_D dx H3 d y z lo hi v f Q d' r3 hy hz ed fun v' H' f' sm r4 k n => ?_
  have o4 : Out ex f' := fun a ha => (k a ha).elim (o1 a) d3.notin
  exact g2 v' H' f' (((x1.trans x2).trans x3).trans (.of_same sm)) (d3.same sm) r4 o4 fun z => (n (frD_slc z)).back ((x1.trans x2).trans x3) o4
end
end BX

set_option Elab.async false
set_option linter.all false
set_option maxRecDepth 100000
set_option maxHeartbeats 4000000
namespace BX
open PySem PySem.Spec PyProof.Rows L2

/-! ## 5. targets -/
def lenT : Tg → Nat
  | .cn _ b => lenT b + 1
  | _ => 0
mutual
def gT (K : PySem.W.Frag) : Tg → TG
  | .nm i => gName i
  | .tp a => gTup K (lenT a) (gTs K a)
  | _ => fun _ _ _ _ => False
def gTs (K : PySem.W.Frag) : Tg → TGs
  | .nl => gNil
  | .cn a b => gCons (gT K a) (gTs K b)
  | _ => fun _ _ _ _ => False
end
section
variable {X : Cx} {pos : Pos}
theorem mg_nm (hN : X.N.Nodup) (i : Nat) {x : Str} (hi : X.N[i]? = some x := by rfl) (hx : Loc X.env.scope x := by first | exact Or.inl rfl | exact Or.inr rfl) (hf : X.fn x = true ∨ X.env.scope.names.lookup x = some .local := by first | exact .inl rfl | exact .inr rfl) : PG X (.Name x pos) (gT X.K (.nm i)) := by
  have e : gT X.K (.nm i) = gName i := by simp only [gT]
  rw [e]
  exact pg_name hN hi hx hf
theorem mgs_nil : PGs X [] (gTs X.K .nl) := by
  have e : gTs X.K .nl = gNil := by simp only [gTs]
  rw [e]
  exact pgs_nil
theorem mgs_cons {e : Expr} {es : List Expr} {a b : Tg} (h1 : PG X e (gT X.K a)) (h2 : PGs X es (gTs X.K b)) (hs : (assignEach (e :: es) X.env).map (·.2) = assign e X.env :: (assignEach es X.env).map (·.2) := by rfl) : PGs X (e :: es) (gTs X.K (.cn a b)) := by
  have e : gTs X.K (.cn a b) = gCons (gT X.K a) (gTs X.K b) := by simp only [gTs]
  rw [e]
  exact pgs_cons h1 h2 hs
theorem mg_tup {es : List Expr} {k : Nat} {a : Tg} (hc : X.calm = true) (h : PGs X es (gTs X.K a)) (hn : (assignEach es X.env).length = lenT a := by rfl) (hst : (assignEach es X.env).findIdx? (·.1) = none := by rfl) : PG X (.Tuple es k pos) (gT X.K (.tp a)) := by
  have e : gT X.K (.tp a) = gTup X.K (lenT a) (gTs X.K a) := by simp only [gT]
  rw [e]
  exact pg_tup hc h hn hst
end

section
variable {K : PySem.W.Frag} {a0 : Addr × Addr} {dx : Addr × Addr} {ex : List Addr} {base H H' : Hp} {Pt : List (Addr → Prop)} {m : Ms} {σ : L2.St} {own : List Addr}
theorem SlOk.dom : ∀ {sv : SV} {o : Option V} {f : List Addr}, SlOk K a0 ex Pt H sv o f → ∀ a, a ∈ f → ∃ xs, H a = some (.lst xs)
  | .no, _, _, h, a, ha => by
    have e : _ = [] := h
    rw [e] at ha
    cases ha
  | .own d, o, f, h, a, ha => by
    obtain ⟨v, _, r⟩ := h
    exact r.dom a ha
  | .pin n d, o, f, h, a, ha => by
    rw [h.1] at ha
    cases ha
  | .lck n d, o, f, h, a, ha => by
    rw [h.1] at ha
    cases ha
theorem Sls.dom : ∀ {v : List SV} {σ : L2.St} {f : List Addr}, Sls K a0 ex Pt H v σ f → ∀ a, a ∈ f → ∃ xs, H a = some (.lst xs)
  | [], _, _, h, a, ha => by
    rw [h.2] at ha
    cases ha
  | s :: r, σ, f, h, a, ha => by
    obtain ⟨o, τ, f1, f2, e1, e2, h1, h2⟩ := h
    rw [e2] at ha
    rcases List.mem_append.mp ha with ha | ha
    · exact h1.dom a ha
    · exact h2.dom a ha
/-- lists that nobody owns yet -/
structure Fre (ex : List Addr) (base : Hp) (Pt : List (Addr → Prop)) (own f : List Addr) : Prop where
  nd : f.Nodup
  no : ∀ a, a ∈ f → a ∉ own ∧ a ∉ ex ∧ base a = none ∧ ∀ P, P ∈ Pt → ¬ P a
theorem Fre.nil : Fre ex base Pt own [] := ⟨List.nodup_nil, fun _ z => nomatch z⟩
theorem SR.fre (S : SR K dx ex base Pt m σ H own) {f : List Addr} (n : New H f) (o : Out ex f) : Fre ex base Pt own f := by
  refine ⟨n.1, fun a ha => ⟨fun hx => ?_, o a ha, S.xt.free (o a ha) (n.2 a ha), fun P hP hx => ?_⟩⟩
  · obtain ⟨xs, e⟩ := S.sl.dom a hx
    rw [n.2 a ha] at e
    cases e
  · obtain ⟨_, _, xs, e⟩ := S.pt P hP a hx
    rw [n.2 a ha] at e
    cases e
theorem Fre.left {f g : List Addr} (x : Fre ex base Pt own (f ++ g)) : Fre ex base Pt own f := ⟨(List.nodup_append.mp x.nd).1, fun a ha => x.no a (List.mem_append_left _ ha)⟩
theorem Fre.right {f g : List Addr} (x : Fre ex base Pt own (f ++ g)) : Fre ex base Pt own g := ⟨(List.nodup_append.mp x.nd).2.1, fun a ha => x.no a (List.mem_append_right _ ha)⟩
theorem Fre.apart {f g : List Addr} (x : Fre ex base Pt own (f ++ g)) : ∀ a, a ∈ f → a ∉ g := fun a ha hb => (List.nodup_append.mp x.nd).2.2 a ha a hb rfl

/-- a slot is set to what is its own -/
theorem SR.set {i : Nat} {d : D} {u : V} {f : List Addr} (S : SR K dx ex base Pt m σ H own) (hi : i < m.v.length) (r : Rp K dx H d u f) (F : Fre ex base Pt own f) :
    ∃ own', SR K dx ex base Pt { m with v := m.v.set i (.own d) } (σ.set i (some u)) H own' ∧ ∀ a, a ∈ own' → a ∈ own ∨ a ∈ f := by
  obtain ⟨o, p, g, q, q1, q2, q3, q4⟩ := S.sl.at_ (List.getElem?_eq_getElem hi)
  have s' := q4 Pt H (.own d) (some u) f (fun _ _ _ _ h => h) ⟨u, rfl, r⟩
  have sub : ∀ a, a ∈ p ++ (f ++ q) → (a ∈ own ∧ a ∈ p ++ q) ∨ a ∈ f := fun a ha => by
    rcases List.mem_append.mp ha with ha | ha
    · exact .inl ⟨by rw [q2]; simp [ha], by simp [ha]⟩
    · rcases List.mem_append.mp ha with ha | ha
      · exact .inr ha
      · exact .inl ⟨by rw [q2]; simp [ha], by simp [ha]⟩
  have nd' : (p ++ (f ++ q)).Nodup := by
    have nd := S.nd
    rw [q2] at nd
    have n1 := List.nodup_append.mp nd
    have n2 := List.nodup_append.mp n1.2.1
    refine nodup_app n1.1 (nodup_app F.nd n2.2.1 fun a ha hb => (F.no a ha).1 (by rw [q2]; simp [hb])) fun a ha hb => ?_
    rcases List.mem_append.mp hb with hb | hb
    · exact (F.no a hb).1 (by rw [q2]; simp [ha])
    · exact n1.2.2 a ha a (List.mem_append_right _ hb) rfl
  refine ⟨_, ⟨S.xt, S.dr, S.lv, s', nd', fun a ha => ?_, fun a ha => ?_, fun P hP a ha => ?_⟩, fun a ha => ?_⟩
  · rcases sub a ha with h | h
    · exact S.out a h.1
    · exact (F.no a h).2.1
  · rcases sub a ha with h | h
    · exact S.new a h.1
    · exact (F.no a h).2.2.1
  · obtain ⟨h1, h2, h3⟩ := S.pt P hP a ha
    refine ⟨fun hx => ?_, h2, h3⟩
    rcases sub a hx with h | h
    · exact h1 h.1
    · exact (F.no a h).2.2.2 P hP ha
  · exact (sub a ha).imp (·.1) id
/-- a slot is set to what a level pins; or it is forgotten -/
theorem SR.less {i : Nat} {x : SV} {o' : Option V} (S : SR K dx ex base Pt m σ H own) (hi : i < m.v.length) (r : SlOk K dx ex Pt H x o' []) :
    ∃ own', SR K dx ex base Pt { m with v := m.v.set i x } (σ.set i o') H own' ∧ ∀ a, a ∈ own' → a ∈ own := by
  obtain ⟨o, p, g, q, q1, q2, q3, q4⟩ := S.sl.at_ (List.getElem?_eq_getElem hi)
  have s' := q4 Pt H x o' [] (fun _ _ _ _ h => h) r
  have sub : ∀ a, a ∈ p ++ ([] ++ q) → a ∈ own := fun a ha => by
    rw [q2]
    simp only [List.nil_append, List.mem_append] at ha ⊢
    exact ha.imp id .inr
  have nd' : (p ++ ([] ++ q)).Nodup := by
    have nd := S.nd
    rw [q2] at nd
    have n1 := List.nodup_append.mp nd
    have n2 := List.nodup_append.mp n1.2.1
    exact nodup_app n1.1 n2.2.1 fun a ha hb => n1.2.2 a ha a (List.mem_append_right _ hb) rfl
  exact ⟨_, ⟨S.xt, S.dr, S.lv, s', nd', fun a ha => S.out a (sub a ha), fun a ha => S.new a (sub a ha), fun P hP a ha => ⟨fun hx => (S.pt P hP a ha).1 (sub a hx), (S.pt P hP a ha).2⟩⟩, sub⟩

theorem Fre.over {f g own' : List Addr} (x : Fre ex base Pt own (f ++ g)) (s : ∀ a, a ∈ own' → a ∈ own ∨ a ∈ f) : Fre ex base Pt own' g := by
  refine ⟨x.right.nd, fun a ha => ⟨fun hx => ?_, (x.right.no a ha).2⟩⟩
  rcases s a hx with h | h
  · exact (x.right.no a ha).1 h
  · exact x.apart a h ha
theorem bindGs_len {mk : D → SV} : ∀ {t : Tg} {l : List D} {v v' : List SV}, bindGs mk t l v = some v' → l.length = lenT t
  | .nm i, _, _, _, h => by simp [bindGs] at h
  | .tp a, _, _, _, h => by simp [bindGs] at h
  | .nl, [], _, _, _ => rfl
  | .nl, _ :: _, _, _, h => by simp [bindGs] at h
  | .cn a b, [], _, _, h => by simp [bindGs] at h
  | .cn a b, x :: r, v, v', h => by
    simp only [bindGs] at h
    split at h
    · show r.length + 1 = lenT b + 1
      rw [bindGs_len h]
    · cases h
/-! what the machine binds is bound -/
mutual
theorem bindT_ok : ∀ {t : Tg} {d : D} {m : Ms} {v' : List SV} {u : V} {σ : L2.St} {f own : List Addr} {Q : L2.St → Hp → Prop}, bindT t d m.v = some v' → SR K dx ex base Pt m σ H own → Rp K dx H d u f → Fre ex base Pt own f →
    (∀ σ' own', SR K dx ex base Pt { m with v := v' } σ' H own' → (∀ a, a ∈ own' → a ∈ own ∨ a ∈ f) → Q σ' H) → gT K t u σ H Q
  | .nm i, d, m, v', u, σ, f, own, Q, h, S, r, F, k => by
    simp only [bindT, bindG] at h
    split at h
    · cases h
      obtain ⟨own', S', sub⟩ := S.set (by assumption) r F
      simp only [gT]
      exact k _ own' S' sub
    · cases h
  | .tp a, .tup l, m, v', u, σ, f, own, Q, h, S, r, F, k => by
    simp only [bindT, bindG] at h
    obtain ⟨p, vs, e, hs, rs⟩ := r
    simp only [gT]
    exact ⟨p, vs, e, hs, by rw [rs.len]; exact bindGs_len h, bindTs_ok h S rs F k⟩
  | .nl, _, _, _, _, _, _, _, _, h, _, _, _, _ => by simp [bindT, bindG] at h
  | .cn _ _, _, _, _, _, _, _, _, _, h, _, _, _, _ => by simp [bindT, bindG] at h
  | .tp a, .non, _, _, _, _, _, _, _, h, _, _, _, _ => by simp [bindT, bindG] at h
  | .tp a, .bl _, _, _, _, _, _, _, _, h, _, _, _, _ => by simp [bindT, bindG] at h
  | .tp a, .int _, _, _, _, _, _, _, _, h, _, _, _, _ => by simp [bindT, bindG] at h
  | .tp a, .str _, _, _, _, _, _, _, _, h, _, _, _, _ => by simp [bindT, bindG] at h
  | .tp a, .lst _, _, _, _, _, _, _, _, h, _, _, _, _ => by simp [bindT, bindG] at h
  | .tp a, .frz _, _, _, _, _, _, _, _, h, _, _, _, _ => by simp [bindT, bindG] at h
  | .tp a, .dl _, _, _, _, _, _, _, _, h, _, _, _, _ => by simp [bindT, bindG] at h
theorem bindTs_ok : ∀ {t : Tg} {l : List D} {m : Ms} {v' : List SV} {us : List V} {σ : L2.St} {f own : List Addr} {Q : L2.St → Hp → Prop}, bindGs .own t l m.v = some v' → SR K dx ex base Pt m σ H own → Rps K dx H l us f → Fre ex base Pt own f →
    (∀ σ' own', SR K dx ex base Pt { m with v := v' } σ' H own' → (∀ a, a ∈ own' → a ∈ own ∨ a ∈ f) → Q σ' H) → gTs K t us σ H Q
  | .nl, [], m, v', us, σ, f, own, Q, h, S, r, F, k => by
    simp only [bindGs] at h
    cases h
    simp only [gTs]
    exact ⟨r.1, k σ own S fun a ha => .inl ha⟩
  | .cn a b, x :: l, m, v', us, σ, f, own, Q, h, S, r, F, k => by
    obtain ⟨u, ws, f1, f2, e1, e2, r1, r2⟩ := r
    subst e2
    simp only [bindGs] at h
    split at h
    · rename_i v1 hv
      simp only [gTs]
      refine ⟨u, ws, e1, bindT_ok (t := a) hv S r1 F.left fun σ1 own1 S1 sub1 => ?_⟩
      refine bindTs_ok (t := b) (m := { m with v := v1 }) h S1 r2 (F.over sub1) fun σ2 own2 S2 sub2 => k σ2 own2 S2 fun a ha => ?_
      rcases sub2 a ha with z | z
      · exact (sub1 a z).imp id (List.mem_append_left _)
      · exact .inr (List.mem_append_right _ z)
    · cases h
  | .nm _, _, _, _, _, _, _, _, _, h, _, _, _, _ => by simp [bindGs] at h
  | .tp _, _, _, _, _, _, _, _, _, h, _, _, _, _ => by simp [bindGs] at h
  | .nl, _ :: _, _, _, _, _, _, _, _, h, _, _, _, _ => by simp [bindGs] at h
  | .cn _ _, [], _, _, _, _, _, _, _, h, _, _, _, _ => by simp [bindGs] at h
end
theorem wipe_set {σ : L2.St} {i : Nat} {x : Option V} : ∀ {vs : List Nat}, i ∈ vs → wipe (σ.set i x) vs = wipe σ vs
  | [], h => nomatch h
  | j :: r, h => by
    unfold wipe
    by_cases e : i ∈ r
    · rw [wipe_set e]
    · have ej : i = j := (List.mem_cons.mp h).resolve_right e
      subst ej
      have k : ∀ {vs : List Nat}, i ∉ vs → wipe (σ.set i x) vs = (wipe σ vs).set i x := by
        intro vs
        induction vs with
        | nil => intro _; rfl
        | cons j r ih =>
          intro h
          unfold wipe
          rw [ih fun z => h (List.mem_cons_of_mem _ z), List.set_comm _ _ fun z => h (by rw [z]; exact List.mem_cons_self)]
      rw [k e, List.set_set]
theorem wipe_wipe {σ : L2.St} (vs : List Nat) : wipe (wipe σ vs) vs = wipe σ vs := by
  have k : ∀ us : List Nat, (∀ i, i ∈ us → i ∈ vs) → wipe (wipe σ us) vs = wipe σ vs := by
    intro us
    induction us with
    | nil => intro _; rfl
    | cons j r ih =>
      intro h
      show wipe ((wipe σ r).set j none) vs = _
      rw [wipe_set (h j List.mem_cons_self)]
      exact ih fun i hi => h i (List.mem_cons_of_mem _ hi)
  exact k vs fun _ h => h
mutual
theorem bindP_ok {n : Nat} {P : Addr → Prop} (hP : Pt[n]? = some P) {vs : List Nat} : ∀ {t : Tg} {d : D} {m : Ms} {v' : List SV} {u : V} {σ : L2.St} {f own : List Addr} {Q : L2.St → Hp → Prop}, bindP n t d m.v = some v' → SR K dx ex base Pt m σ H own → Rp K dx H d u f → Out ex f → (∀ a, a ∈ f → P a) →
    (∀ i, i ∈ tgN t → i ∈ vs) → (∀ σ' own', SR K dx ex base Pt { m with v := v' } σ' H own' → (∀ a, a ∈ own' → a ∈ own) → wipe σ' vs = wipe σ vs → Q σ' H) → gT K t u σ H Q
  | .nm i, d, m, v', u, σ, f, own, Q, h, S, r, o, F, hv, k => by
    simp only [bindP, bindG] at h
    split at h
    · cases h
      obtain ⟨own', S', sub⟩ := S.less (x := .pin n d) (o' := some u) (by assumption) ⟨rfl, u, f, P, rfl, r, o, hP, F⟩
      simp only [gT]
      exact k _ own' S' sub (wipe_set (hv i List.mem_cons_self))
    · cases h
  | .tp a, .tup l, m, v', u, σ, f, own, Q, h, S, r, o, F, hv, k => by
    simp only [bindP, bindG] at h
    obtain ⟨p, vs, e, hs, rs⟩ := r
    simp only [gT]
    exact ⟨p, vs, e, hs, by rw [rs.len]; exact bindGs_len h, bindPs_ok hP h S rs o F hv k⟩
  | .nl, _, _, _, _, _, _, _, _, h, _, _, _, _, _, _ => by simp [bindP, bindG] at h
  | .cn _ _, _, _, _, _, _, _, _, _, h, _, _, _, _, _, _ => by simp [bindP, bindG] at h
  | .tp a, .non, _, _, _, _, _, _, _, h, _, _, _, _, _, _ => by simp [bindP, bindG] at h
  | .tp a, .bl _, _, _, _, _, _, _, _, h, _, _, _, _, _, _ => by simp [bindP, bindG] at h
  | .tp a, .int _, _, _, _, _, _, _, _, h, _, _, _, _, _, _ => by simp [bindP, bindG] at h
  | .tp a, .str _, _, _, _, _, _, _, _, h, _, _, _, _, _, _ => by simp [bindP, bindG] at h
  | .tp a, .lst _, _, _, _, _, _, _, _, h, _, _, _, _, _, _ => by simp [bindP, bindG] at h
  | .tp a, .frz _, _, _, _, _, _, _, _, h, _, _, _, _, _, _ => by simp [bindP, bindG] at h
  | .tp a, .dl _, _, _, _, _, _, _, _, h, _, _, _, _, _, _ => by simp [bindP, bindG] at h
theorem bindPs_ok {n : Nat} {P : Addr → Prop} (hP : Pt[n]? = some P) {vs : List Nat} : ∀ {t : Tg} {l : List D} {m : Ms} {v' : List SV} {us : List V} {σ : L2.St} {f own : List Addr} {Q : L2.St → Hp → Prop}, bindGs (.pin n) t l m.v = some v' → SR K dx ex base Pt m σ H own → Rps K dx H l us f → Out ex f → (∀ a, a ∈ f → P a) →
    (∀ i, i ∈ tgN t → i ∈ vs) → (∀ σ' own', SR K dx ex base Pt { m with v := v' } σ' H own' → (∀ a, a ∈ own' → a ∈ own) → wipe σ' vs = wipe σ vs → Q σ' H) → gTs K t us σ H Q
  | .nl, [], m, v', us, σ, f, own, Q, h, S, r, o, F, hv, k => by
    simp only [bindGs] at h
    cases h
    simp only [gTs]
    exact ⟨r.1, k σ own S (fun a ha => ha) rfl⟩
  | .cn a b, x :: l, m, v', us, σ, f, own, Q, h, S, r, o, F, hv, k => by
    obtain ⟨u, ws, f1, f2, e1, e2, r1, r2⟩ := r
    subst e2
    simp only [bindGs] at h
    split at h
    · rename_i v1 hb
      simp only [gTs]
      refine ⟨u, ws, e1, bindP_ok hP (t := a) hb S r1 o.left (fun c hc => F c (List.mem_append_left _ hc)) (fun i hi => hv i (List.mem_append_left _ hi)) fun σ1 own1 S1 sub1 w1 => ?_⟩
      exact bindPs_ok hP (t := b) (m := { m with v := v1 }) h S1 r2 o.right (fun c hc => F c (List.mem_append_right _ hc)) (fun i hi => hv i (List.mem_append_right _ hi)) fun σ2 own2 S2 sub2 w2 => k σ2 own2 S2 (fun a ha => sub1 a (sub2 a ha)) (w2.trans w1)
    · cases h
  | .nm _, _, _, _, _, _, _, _, _, h, _, _, _, _, _, _ => by simp [bindGs] at h
  | .tp _, _, _, _, _, _, _, _, _, h, _, _, _, _, _, _ => by simp [bindGs] at h
  | .nl, _ :: _, _, _, _, _, _, _, _, h, _, _, _, _, _, _ => by simp [bindGs] at h
  | .cn _ _, [], _, _, _, _, _, _, _, h, _, _, _, _, _, _ => by simp [bindGs] at h
end
end
end BX

set_option Elab.async false
set_option linter.all false
set_option maxRecDepth 100000
set_option maxHeartbeats 4000000
namespace BX
open PySem PySem.Spec PyProof.Rows L2

/-! ## 6. calls of the text's own defs -/
/-- the promise of a def: what the machine's g tells -/
def spF (K : PySem.W.Frag) (cl : Nat → Value) (g : List D → Option DS → Res D) : Sp := fun vs H Q E => ∃ dx ex args f s, Rps K dx H args vs f ∧ Out ex f ∧ DR dx ex s H ∧ Gd cl (fun c d _ H => E c d H) dx ex [] H (g args s) (PyE K dx ex (fun _ => true) H Q)
theorem Gd.wish {α : Type} {cl : Nat → Value} {W W' : WX} {dx : Addr × Addr} {ex : List Addr} {σ σ' : L2.St} {H : Hp} {r : Res α} {P P' : α → Option DS → Prop} (g : Gd cl W dx ex σ H r P) (hw : ∀ c d H, W c d σ H → W' c d σ' H) (hp : ∀ a s, r = .ok a s → P a s → P' a s) : Gd cl W' dx ex σ' H r P' := by
  cases r with
  | bad => exact g
  | er c s => exact fun H' x d => hw _ _ _ (g H' x d)
  | ok a s => exact hp a s rfl g
section
variable {X : Cx} {cl : Nat → Value} {G : Gm} {W : WX} {pos p : Pos} {n : Nat} {f : Addr} {fd : FuncData} {ps : List Str} {x : Str} {e : Expr} {es : List Expr} {ea : Ex} {k : Nat}
theorem call_core {σ : L2.St} {H : Hp} {Q : VK} (h : tE X.K cl G W (.call k ea) σ H Q) : tA X.K cl G W ea σ H fun vs H1 => spF X.K cl (G.fn k) vs H1 Q (WE W σ) := by
  obtain ⟨dx, ex, base, Pt, m, own, S, g⟩ := h
  refine ⟨dx, ex, base, Pt, m, own, S, ?_⟩
  simp only [ev] at g
  refine g.seq fun l s1 e1 g vs H1 f x1 d1 r1 o1 q1 => ⟨dx, ex, l, f, s1, r1, o1, d1, ?_⟩
  rw [bd_fin] at g
  refine (g.back x1 fun _ _ _ p => p.back x1).wish (fun _ _ _ w => w) fun _ _ _ p v H' f x d r o q => p v H' f x d r o fun _ => q rfl
theorem pcl_core {σ : L2.St} {H : Hp} {Q : VK} (h : tE X.K cl G W (.pcl k ea) σ H Q) : tA X.K cl G W ea σ H fun vs H1 => spF X.K cl (G.fn k) vs H1 Q (WE W σ) := by
  obtain ⟨dx, ex, base, Pt, m, own, S, g⟩ := h
  refine ⟨dx, ex, base, Pt, m, own, S, ?_⟩
  simp only [ev] at g
  refine g.seq fun l s1 e1 g vs H1 f x1 d1 r1 o1 q1 => ⟨dx, [], l, f, none, r1, fun _ _ z => (nomatch z), rfl, ?_⟩
  rw [bd_fin] at g
  have wk : ∀ {H'}, Xt [] H1 H' → Same H1 H' := fun x b o z => x b o z fun q => nomatch q
  cases e2 : G.fn k l none with
  | bad => rw [e2] at g; exact g.elim
  | er c s2 =>
    rw [e2] at g
    exact fun H' x _ => g H' (x1.trans (.of_same (wk x))) (d1.same (wk x))
  | ok d s2 =>
    rw [e2] at g
    intro v H' f' x _ r o q
    have n := q rfl
    have o' : Out ex f' := fun a ha => d1.notin (n.2 a ha)
    exact g v H' f' (x1.trans (.of_same (wk x))) (d1.same (wk x)) r o' fun _ => n.back x1 o'
theorem me_call (F : FnOk X.prog X.w X.K X.mg X.base (L2.CX X.prog X.w) n f fd ps (spF X.K cl (G.fn k))) (hr : Room n X.A) (hg : Gl X x) (hm : X.mg x = some (.ref f)) (hk : PySem.W.keepIn X.K (.ref f) = true) (hb : Binds X.K fd ps []) (tk : Takes X W)
    (ha : PA X (e :: es) (tA X.K cl G W ea)) (hdb : (x == ("__debug__" : Str)) = false := by decide) (he : starEach (e :: es) X.env = (false, eval e X.env) :: starEach es X.env := by rfl) (hpl : (backTo pos (starEach es X.env)).any (·.1) = false := by rfl) :
    PE X (.Call (.Name x p) (e :: es) [] pos) (tE X.K cl G W (.call k ea)) :=
  (pe_callS F hr hg hm hk hb (fun σ => passAt tk σ) ha hdb he hpl).imp fun _ _ _ h => call_core h
theorem me_pcl (F : FnOk X.prog X.w X.K X.mg X.base (L2.CX X.prog X.w) n f fd ps (spF X.K cl (G.fn k))) (hr : Room n X.A) (hg : Gl X x) (hm : X.mg x = some (.ref f)) (hk : PySem.W.keepIn X.K (.ref f) = true) (hb : Binds X.K fd ps []) (tk : Takes X W)
    (ha : PA X (e :: es) (tA X.K cl G W ea)) (hdb : (x == ("__debug__" : Str)) = false := by decide) (he : starEach (e :: es) X.env = (false, eval e X.env) :: starEach es X.env := by rfl) (hpl : (backTo pos (starEach es X.env)).any (·.1) = false := by rfl) :
    PE X (.Call (.Name x p) (e :: es) [] pos) (tE X.K cl G W (.pcl k ea)) :=
  (pe_callS F hr hg hm hk hb (fun σ => passAt tk σ) ha hdb he hpl).imp fun _ _ _ h => pcl_core h
/-! ### keywords only -/
theorem _root_.L2.PK.imp {kws : List Keyword} {t t' : TA} (h : PK X kws t) (i : ∀ σ H Q, t' σ H Q → t σ H Q) : PK X kws t' := ⟨fun pos pins s σ H Q I q => h.run pos pins s σ H Q I (i σ H Q q)⟩
theorem mk_nil : PK X [] (tA X.K cl G W .nil) := pk_nil.imp fun _ H _ ⟨_, _, _, _, _, _, S, g⟩ => g [] H [] Xt.refl S.dr ⟨rfl, rfl⟩ .nil fun _ => .nil
theorem args_core {a b : Ex} {σ : L2.St} {H : Hp} {Q : List V → Hp → Prop} : tA X.K cl G W (.cons a b) σ H Q → tCons (tE X.K cl G W a) (tA X.K cl G W b) σ H Q := by
  rintro ⟨dx, ex, base, Lk, m, own, S, g⟩
  refine ⟨dx, ex, base, Lk, m, own, S, ?_⟩
  simp only [evA] at g
  refine g.seq fun x s1 ea g v H1 f x1 d1 r1 o1 q1 => ⟨dx, ex, base, Lk, _, own, S.step x1 d1, ?_⟩
  refine (g.at x1).seq fun l s2 eb g vs H2 f2 x2 d2 r2 o2 q2 => ?_
  refine g (v :: vs) H2 (f ++ f2) (x1.trans x2) d2 ⟨v, vs, f, f2, rfl, rfl, r1.mono x2 d1.exl o1, r2⟩ (o1.app o2) fun z => ?_
  have z' : frD a x = true ∧ frDs b l = true := by simpa [frDs] using z
  exact (q1 z'.1).app r1.dom (q2 z'.2) x1 o2
theorem mk_cons {e : Expr} {kws : List Keyword} {nm : Option Str} {kpos : Pos} {a b : Ex} (ha : PE X e (tE X.K cl G W a)) (hb : PK X kws (tA X.K cl G W b)) : PK X (⟨nm, e, kpos⟩ :: kws) (tA X.K cl G W (.cons a b)) :=
  (pk_cons ha hb).imp fun _ _ _ => args_core
/-- how the keywords ks bind, all parameters in their order -/
def KwB (K : PySem.W.Frag) (fd : FuncData) (ps ks : List Str) : Prop := ∀ (s : Shared) (ws : List Value), K.In s.heap → ws.length = ps.length → BindsTo s fd ⟨[], ks.zip ws⟩ (ps.zip ws)
theorem kwB_of {K : PySem.W.Frag} {x qual : Str} {params : Arguments} {body : List Stmt} {scope : Scope} {f : Addr} {fd : FuncData} {ps ks : List Str} (F : FunD K x qual params body scope [] [] f fd)
    (h : ∀ (kV doc pm : Value) (an : Option Addr) (cdv ct : Value) (ws : List Value), ws.length = ps.length → bindArgs (PySem.W.fnOf x qual params body scope .none kV doc pm an cdv ct) ⟨[], ks.zip ws⟩ = pure (ps.zip ws)) : KwB K fd ps ks := by
  obtain ⟨oc, od, dV, kV, doc, pm, an, cdv, ct, osl, rfl, lk, hcd, hD, hK⟩ := F.ex
  rcases hD with ⟨_, rfl⟩ | ⟨e, _⟩
  · exact fun s ws _ hl => .of_eq (h kV doc pm an cdv ct ws hl)
  · exact absurd rfl e
theorem pe_callK0 {CX : CXT} {sp : Sp} {E : L2.St → XK} {kws : List Keyword} {ks : List Str} {tk : TA} (F : FnOk X.prog X.w X.K X.mg X.base CX n f fd ps sp) (hr : Room n X.A) (hg : Gl X x) (hm : X.mg x = some (.ref f)) (hk : PySem.W.keepIn X.K (.ref f) = true) (hb : KwB X.K fd ps ks) (hx : ∀ σ, PassesAt CX X σ (E σ))
    (hkw : PK X kws tk) (hall : (backToKw pos (keywordEach kws X.env)).all (·.1.isSome) = true := by rfl) (hks : (backToKw pos (keywordEach kws X.env)).filterMap (·.1) = ks := by rfl)
    (hdb : (x == ("__debug__" : Str)) = false := by decide) (hpl : ((backTo pos (starEach [] X.env)).any (·.1) || (backToKw pos (keywordEach kws X.env)).any (·.1.isNone)) = false := by rfl) :
    PE X (.Call (.Name x p) [] kws pos) (tCallS sp E tk) := by
  refine ⟨fun pins s σ H Q I h => ?_⟩
  refine wpAny_Call_Name_kw (ld_glob I hg hm ?_ hdb)
  refine PySem.W.callWith_KW0 (h₀ := X.base) I.ok.mod.kin hk hall (thn (hkw.run pos pins s σ H _ I h) fun ws s1 ⟨vs, H1, I1, r, q⟩ => ⟨I1.kIn, ?_⟩) hpl
  rw [hks]
  have hl : ws.length = ps.length := by rw [← r.length]; exact F.len _ _ _ _ q
  refine wpAny_call (codeAny_mono (F.run X.A X.stack s1 H1 ⟨[], ks.zip ws⟩ ws vs Q (E σ) hr I1.env0 (hb s1 ws I1.kIn hl) r q) fun r s' hq => ?_)
  cases r with
  | error e => exact hx σ pins H1 s1 e s' I1 hq
  | ok fl =>
    cases fl with
    | ret u => exact I1.after hq
    | next => exact False.elim hq
    | brk => exact False.elim hq
    | cont => exact False.elim hq
theorem me_callK {kws : List Keyword} {ks : List Str} (F : FnOk X.prog X.w X.K X.mg X.base (L2.CX X.prog X.w) n f fd ps (spF X.K cl (G.fn k))) (hr : Room n X.A) (hg : Gl X x) (hm : X.mg x = some (.ref f)) (hk : PySem.W.keepIn X.K (.ref f) = true) (hb : KwB X.K fd ps ks) (tk : Takes X W)
    (hkw : PK X kws (tA X.K cl G W ea)) (hall : (backToKw pos (keywordEach kws X.env)).all (·.1.isSome) = true := by rfl) (hks : (backToKw pos (keywordEach kws X.env)).filterMap (·.1) = ks := by rfl)
    (hdb : (x == ("__debug__" : Str)) = false := by decide) (hpl : ((backTo pos (starEach [] X.env)).any (·.1) || (backToKw pos (keywordEach kws X.env)).any (·.1.isNone)) = false := by rfl) :
    PE X (.Call (.Name x p) [] kws pos) (tE X.K cl G W (.call k ea)) :=
  (pe_callK0 F hr hg hm hk hb (fun σ => passAt tk σ) hkw hall hks hdb hpl).imp fun _ _ _ h => call_core h
theorem me_pclK {kws : List Keyword} {ks : List Str} (F : FnOk X.prog X.w X.K X.mg X.base (L2.CX X.prog X.w) n f fd ps (spF X.K cl (G.fn k))) (hr : Room n X.A) (hg : Gl X x) (hm : X.mg x = some (.ref f)) (hk : PySem.W.keepIn X.K (.ref f) = true) (hb : KwB X.K fd ps ks) (tk : Takes X W)
    (hkw : PK X kws (tA X.K cl G W ea)) (hall : (backToKw pos (keywordEach kws X.env)).all (·.1.isSome) = true := by rfl) (hks : (backToKw pos (keywordEach kws X.env)).filterMap (·.1) = ks := by rfl)
    (hdb : (x == ("__debug__" : Str)) = false := by decide) (hpl : ((backTo pos (starEach [] X.env)).any (·.1) || (backToKw pos (keywordEach kws X.env)).any (·.1.isNone)) = false := by rfl) :
    PE X (.Call (.Name x p) [] kws pos) (tE X.K cl G W (.pcl k ea)) :=
  (pe_callK0 F hr hg hm hk hb (fun σ => passAt tk σ) hkw hall hks hdb hpl).imp fun _ _ _ h => pcl_core h
end
end BX

set_option Elab.async false
set_option linter.all false
set_option maxRecDepth 100000
set_option maxHeartbeats 4000000
namespace BX
open PySem PySem.Spec PyProof.Rows L2

/-! ## 7. what is walked -/
/-- all but lists stands, and the lists of f -/
def Stb (f : List Addr) (H H' : Hp) : Prop := ∀ b o, H b = some o → ((∃ xs, o = .lst xs) → b ∈ f) → H' b = some o
section
variable {K : PySem.W.Frag} {a0 : Addr × Addr} {H H' H1 : Hp}
theorem Stb.sub {f g : List Addr} (h : Stb f H H') (s : ∀ a, a ∈ g → a ∈ f) : Stb g H H' := fun b o e n => h b o e fun z => s b (n z)
theorem Stb.seqT {f : List Addr} (h : Stb f H H') {a : Addr} {vs : List V} (q : SqT K H a vs) : SqT K H' a vs := by
  rcases q with (q | ⟨o, q⟩) | q
  · exact .inl (.inl (h _ _ q fun ⟨_, z⟩ => nomatch z))
  · exact .inl (.inr ⟨o, h _ _ q fun ⟨_, z⟩ => nomatch z⟩)
  · exact .inr q
theorem Stb.fz {f : List Addr} (h : Stb f H H') {a : Addr} {vs : List V} (q : FzL K H a vs) : FzL K H' a vs := by
  rcases q with ⟨o, q⟩ | q
  · exact .inl ⟨o, h _ _ q fun ⟨_, z⟩ => nomatch z⟩
  · exact .inr q
mutual
theorem Rp.stb : ∀ {d : D} {v : V} {f : List Addr}, Stb f H H' → Rp K a0 H d v f → Rp K a0 H' d v f
  | .non, _, _, _, h => h
  | .bl _, _, _, _, h => h
  | .int _, _, _, _, h => h
  | .str _, _, _, _, h => h
  | .dl _, _, _, _, h => h
  | .frz l, v, f, x, h => by
    obtain ⟨⟨a, e, q⟩, hf⟩ := h
    exact ⟨⟨a, e, x.fz q⟩, hf⟩
  | .tup l, v, f, x, h => by
    obtain ⟨a, vs, e, q, r⟩ := h
    exact ⟨a, vs, e, x.seqT q, Rps.stb x r⟩
  | .lst l, v, f, x, h => by
    obtain ⟨a, vs, g, e, q, hf, r⟩ := h
    subst hf
    exact ⟨a, vs, g, e, x _ _ q fun _ => List.mem_cons_self, rfl, Rps.stb (x.sub fun b hb => List.mem_cons_of_mem _ hb) r⟩
theorem Rps.stb : ∀ {l : List D} {vs : List V} {f : List Addr}, Stb f H H' → Rps K a0 H l vs f → Rps K a0 H' l vs f
  | [], _, _, _, h => h
  | d :: r, vs, f, x, h => by
    obtain ⟨v, ws, f1, f2, e1, e2, h1, h2⟩ := h
    subst e2
    exact ⟨v, ws, f1, f2, e1, rfl, Rp.stb (x.sub fun a ha => List.mem_append_left _ ha) h1, Rps.stb (x.sub fun a ha => List.mem_append_right _ ha) h2⟩
end
/-- the items its come, one by one, their lists among f -/
def Wk (K : PySem.W.Frag) (a0 : Addr × Addr) (f : List Addr) (H1 : Hp) (J : It) (its : List D) : Prop :=
  Walk J its.length (Stb f H1) fun i H x H' => ∃ d g, its[i]? = some d ∧ Rp K a0 H' d x g ∧ (∀ a, a ∈ g → a ∈ f) ∧ Same H H'
theorem wk_seq {J : It} {its : List D} {vs : List V} {f fs : List Addr} {G0 : Hp → Prop} (w : Walk J vs.length G0 (YAt vs)) (hG : ∀ H, Stb fs H1 H → G0 H) (r : Rps K a0 H1 its vs f) (hs : ∀ a, a ∈ f → a ∈ fs) : Wk K a0 fs H1 J its := by
  unfold Wk
  rw [← r.len]
  refine w.mono hG fun i H x H' hi st y => ?_
  obtain ⟨rfl, e⟩ := y
  have hl : i < its.length := by rw [← r.len]; exact hi
  have ei : its[i]? = some its[i] := List.getElem?_eq_getElem hl
  obtain ⟨v, g, e2, r2, s⟩ := (Rps.stb (st.sub hs) r).get ei
  rw [e2] at e
  cases e
  exact ⟨_, g, ei, r2, fun a ha => hs a (s a ha), Same.refl _⟩
theorem wk_int {J : It} {n : Nat} {h : Nat → Int} {f : List Addr} (w : Walk J n (fun _ => True) (YFn fun i => .int (h i))) : Wk K a0 f H1 J ((List.range n).map fun i => .int (h i)) := by
  unfold Wk
  rw [List.length_map, List.length_range]
  refine w.mono (fun _ _ => trivial) fun i H x H' hi _ y => ?_
  obtain ⟨rfl, rfl⟩ := y
  exact ⟨.int (h i), [], by simp [hi], ⟨rfl, rfl⟩, fun _ z => (nomatch z), Same.refl _⟩
theorem enumD_len : ∀ (l : List D) (n : Nat), (enumD n l).length = l.length
  | [], _ => rfl
  | d :: r, n => by simp [enumD, enumD_len r]
theorem enumD_get : ∀ (l : List D) (n i : Nat) (d : D), l[i]? = some d → (enumD n l)[i]? = some (.tup [.int ((n + i : Nat) : Int), d])
  | [], _, _, _, h => by simp at h
  | x :: r, n, 0, d, h => by
    simp at h
    simp [enumD, h]
  | x :: r, n, i + 1, d, h => by
    have z := enumD_get r (n + 1) i d (by simpa using h)
    have e : n + 1 + i = n + (i + 1) := by omega
    rw [e] at z
    simpa [enumD] using z
theorem wk_enum {its : List D} {vs : List V} {f fs : List Addr} {a : Addr} (hG : ∀ H, Stb fs H1 H → SqL K H a vs) (r : Rps K a0 H1 its vs f) (hs : ∀ a, a ∈ f → a ∈ fs) : Wk K a0 fs H1 (Ite K a) (enumD 0 its) := by
  unfold Wk
  rw [enumD_len, ← r.len]
  refine walk_enum.mono hG fun i H x H' hi st y => ?_
  obtain ⟨T, x1, x2, rfl, hT, rfl, e1, e2⟩ := y
  dsimp only at e1 e2
  cases e1
  have hl : i < its.length := by rw [← r.len]; exact hi
  have ei : its[i]? = some its[i] := List.getElem?_eq_getElem hl
  obtain ⟨v, g, e3, r2, s⟩ := (Rps.stb (st.sub hs) r).get ei
  rw [e3] at e2
  cases e2
  have sm : Same H (upd H T (.tup [.int (i : Nat), x2])) := same_new hT
  refine ⟨_, g, enumD_get _ 0 i _ ei, ⟨T, _, rfl, .inl (.inl upd_same), .int (i : Nat), [x2], [], g, rfl, rfl, ⟨by simp, rfl⟩, x2, [], g, [], rfl, by simp, r2.mono (ex := []) (.of_same sm) (fun _ z => nomatch z) (fun _ _ z => nomatch z), rfl, rfl⟩, fun a ha => hs a (s a ha), sm⟩
theorem zipD_get {x y : List D} {i : Nat} {d e : D} (h1 : x[i]? = some d) (h2 : y[i]? = some e) : (zipD x y)[i]? = some (.tup [d, e]) := by
  unfold zipD
  have z : (x.zip y)[i]? = some (d, e) := List.getElem?_zip_eq_some.mpr ⟨h1, h2⟩
  rw [List.getElem?_map, z]
  rfl
theorem wk_zip {J : It} {xs ys : List D} {vs ws : List V} {f g fs : List Addr} {G0 : Hp → Prop} (w : Walk J (min vs.length ws.length) G0 (YPair (fun i => vs[i]?) (fun i => ws[i]?))) (hG : ∀ H, Stb fs H1 H → G0 H) (r : Rps K a0 H1 xs vs f) (r' : Rps K a0 H1 ys ws g)
    (hs : ∀ a, a ∈ f → a ∈ fs) (hs' : ∀ a, a ∈ g → a ∈ fs) : Wk K a0 fs H1 J (zipD xs ys) := by
  have el : (zipD xs ys).length = min vs.length ws.length := by
    unfold zipD
    rw [List.length_map, List.length_zip, r.len, r'.len]
  unfold Wk
  rw [el]
  refine w.mono hG fun i H x H' hi st y => ?_
  obtain ⟨T, x1, x2, rfl, hT, rfl, e1, e2⟩ := y
  dsimp only at e1 e2
  have h1 : i < xs.length := by rw [← r.len]; omega
  have h2 : i < ys.length := by rw [← r'.len]; omega
  have ei : xs[i]? = some xs[i] := List.getElem?_eq_getElem h1
  have ej : ys[i]? = some ys[i] := List.getElem?_eq_getElem h2
  obtain ⟨v, p, e3, r2, s⟩ := (Rps.stb (st.sub hs) r).get ei
  obtain ⟨u, q, e4, r3, s'⟩ := (Rps.stb (st.sub hs') r').get ej
  rw [e3] at e1
  rw [e4] at e2
  cases e1
  cases e2
  have sm : Same H (upd H T (.tup [x1, x2])) := same_new hT
  refine ⟨_, p ++ q, zipD_get ei ej, ⟨T, _, rfl, .inl (.inl upd_same), x1, [x2], p, q, rfl, rfl, r2.mono (ex := []) (.of_same sm) (fun _ z => nomatch z) (fun _ _ z => nomatch z), x2, [], q, [], rfl, by simp, r3.mono (ex := []) (.of_same sm) (fun _ z => nomatch z) (fun _ _ z => nomatch z), rfl, rfl⟩, fun a ha => ?_, sm⟩
  rcases List.mem_append.mp ha with ha | ha
  · exact hs a (s a ha)
  · exact hs' a (s' a ha)
end

theorem walk_zipT {K : PySem.W.Frag} {a b : Addr} {xs ys : List V} : Walk (RZ.ItzT K a b) (min xs.length ys.length) (fun H => SqT K H a xs ∧ SqT K H b ys) (YPair (fun i => xs[i]?) (fun i => ys[i]?)) := by
  constructor
  · intro i H hi q
    have h1 : i < xs.length := Nat.lt_of_lt_of_le hi (Nat.min_le_left _ _)
    have h2 : i < ys.length := Nat.lt_of_lt_of_le hi (Nat.min_le_right _ _)
    exact ⟨xs, ys, _, _, q.1, q.2, List.getElem?_eq_getElem h1, List.getElem?_eq_getElem h2⟩
  · intro H q
    exact ⟨xs, ys, q.1, q.2, by omega⟩
  · rintro i H v H' - q ⟨T, x, z, e1, e2, e3, e4, e5⟩
    exact ⟨T, x, z, e1, e2, e3, e4 _ q.1, e5 _ q.2⟩

/-! ### an expression that may lead to a pinned list -/
section
variable (K : PySem.W.Frag) (cl : Nat → Value) (G : Gm) (W : WX)
def tP (e : Ex) : TE := fun σ H Q => ∃ dx ex base Pt m own, SR K dx ex base Pt m σ H own ∧ Gd cl W dx ex σ H (ev G e false m.v m.s) fun d s => ∀ v H' f, Xt ex H H' → DR dx ex s H' → Rp K dx H' d v f → Out ex f → (okI m.v e d = true → ∀ a, a ∈ f → a ∉ own) → Q v H'
def tI (src : Ex) : TI := fun σ H R => ∃ dx ex base Pt m own, SR K dx ex base Pt m σ H own ∧ Gd cl W dx ex σ H (evA G src m.v m.s) fun l s => ∃ its, itD src l = some its ∧
  ∀ J H1 f, Xt ex H H1 → DR dx ex s H1 → Out ex f → (∀ a, a ∈ f → ∃ xs, H1 a = some (.lst xs)) → (frI m.v src l = true → ∀ a, a ∈ f → a ∉ own) → Wk K dx f H1 J its → R J H1
end
section
variable {X : Cx} {cl : Nat → Value} {G : Gm} {W : WX} {pos p : Pos} {a b c e tg : Expr} {ea eb ec : Ex}
theorem mp_of (h : PE X e (tE X.K cl G W ea)) (hn : ∀ v, pth v ea = false) : PE X e (tP X.K cl G W ea) := by
  refine h.imp fun σ H Q ⟨dx, ex, base, Pt, m, own, S, g⟩ => ⟨dx, ex, base, Pt, m, own, S, g.wish (fun _ _ _ w => w) fun d s _ p v H' f x dr r o q => p v H' f x dr r o fun z => ?_⟩
  unfold okI at z
  rw [hn, Bool.or_false, Bool.or_eq_true] at z
  rcases z with z | z
  · rw [r.noL z]
    exact fun _ z => nomatch z
  · exact fun a ha hx => by
      obtain ⟨xs, e⟩ := S.sl.dom a hx
      rw [(q z).2 a ha] at e
      cases e
theorem mp_var (i : Nat) {x : Str} (hN : X.N[i]? = some x := by rfl) (hv : Vis X.env.scope x := by first | exact Or.inl rfl | exact Or.inr (Or.inl rfl) | exact Or.inr (Or.inr rfl)) (hd : (x == ("__debug__" : Str)) = false := by decide)
    (hcd : (x == ("__classdict__" : Str)) = false := by decide) : PE X (.Name x pos) (tP X.K cl G W (.var i)) := by
  refine (pe_var hN hv hd hcd).imp fun σ H Q ⟨dx, ex, base, Pt, m, own, S, g⟩ => ?_
  simp only [ev] at g
  obtain ⟨d, e, g⟩ := g.ofO
  have key : ∃ v f, σ[i]? = some (some v) ∧ Rp X.K dx H d v f ∧ Out ex f ∧ (okI m.v (.var i) d = true → ∀ a, a ∈ f → a ∉ own) := by
    have no : ∀ {v f}, Rp X.K dx H d v f → noL d = true → ∀ a, a ∈ f → a ∉ own := fun r z a ha => by
      rw [r.noL z] at ha
      cases ha
    unfold BX.slot at e
    split at e
    · rename_i d' e1
      cases e
      obtain ⟨o, p, g, q, q1, q2, ⟨v, e2, r⟩, q3⟩ := S.sl.at_ e1
      refine ⟨v, g, by rw [q1, e2], r, fun a ha => S.out a (by rw [q2]; simp [ha]), fun z => ?_⟩
      simp only [okI, pth, pinned, e1, frD, Bool.or_self] at z
      exact no r z
    · rename_i n d' e1
      cases e
      obtain ⟨o, p, g, q, q1, q2, ⟨_, v, f, P, e2, r, ou, hP, hs⟩, q3⟩ := S.sl.at_ e1
      exact ⟨v, f, by rw [q1, e2], r, ou, fun _ a ha => (S.pt P (List.mem_of_getElem? hP) a (hs a ha)).1⟩
    · rename_i n d' e1
      cases e
      obtain ⟨o, p, g, q, q1, q2, ⟨_, v, f, P, e2, r, ou, hP, hs, _⟩, q3⟩ := S.sl.at_ e1
      exact ⟨v, f, by rw [q1, e2], r, ou, fun _ a ha => (S.pt P (List.mem_of_getElem? hP) a (hs a ha)).1⟩
    · cases e
  obtain ⟨v, f, q1, r, o, k⟩ := key
  exact ⟨v, q1, g v H f Xt.refl S.dr r o k⟩
theorem mp_ix (ha : PE X a (tP X.K cl G W ea)) (hb : PE X b (tE X.K cl G W eb)) (hs : PlainIx b := by exact fun _ _ => rfl) : PE X (.Subscript a b pos) (tP X.K cl G W (.op2 .ix ea eb)) := by
  refine (pe_ix ix_seq ha hb hs).imp fun σ H Q ⟨dx, ex, base, Pt, m, own, S, g⟩ => ⟨dx, ex, base, Pt, m, own, S, ?_⟩
  simp only [ev] at g
  refine g.seq fun x s1 e1 g v H1 f x1 d1 r1 o1 q1 => ⟨dx, ex, base, Pt, _, own, S.step x1 d1, ?_⟩
  refine (g.at x1).seq fun y s2 e2 g w H2 f2 x2 d2 r2 o2 q2 => ?_
  obtain ⟨d, ed, g2⟩ := g.ofO
  refine s2_ix dx H2 x y v w f f2 Q d (r1.mono x2 d1.exl o1) r2 ed fun v' H' f' sm r3 k n => ?_
  have o3 : Out ex f' := fun a ha => (k a ha).elim (o1 a) fun k => k.elim (o2 a) d2.notin
  refine g2 v' H' f' ((x1.trans x2).trans (.of_same sm)) (d2.same sm) r3 o3 fun z a ha hx => ?_
  have z' : noL d = true ∨ pth m.v ea = true := by
    simp only [okI, pth, frD, Bool.or_eq_true] at z
    rcases z with (z | z) | z
    · exact .inl z
    · exact .inr z
    · exact .inl z
  rcases z' with z | z
  · rw [r3.noL z] at ha
    cases ha
  · have ok : okI m.v ea x = true := by simp [okI, z]
    have w2 : f2 = [] := by
      cases y <;> first | exact r2.2 | (cases x <;> simp [BX.f2] at ed)
    rcases k a ha with k | k | k
    · exact q1 ok a k hx
    · rw [w2] at k
      cases k
    · obtain ⟨xs, e⟩ := ((S.step x1 d1).step x2 d2).sl.dom a hx
      rw [k] at e
      cases e

/-! ### the sources -/
theorem _root_.L2.PI.imp {X : Cx} {tg it : Expr} {t t' : TI} (h : PI X tg it t) (i : ∀ σ H R, t' σ H R → t σ H R) : PI X tg it t' := ⟨fun pins s σ H R I q => h.run pins s σ H R I (i σ H R q)⟩
def iSq (K : PySem.W.Frag) (tl : TE) : TI := fun σ H R => tl σ H fun x H1 => ∃ a, x = .ref a ∧ (((∃ xs, SqL K H1 a xs) ∧ R (Itl K a) H1) ∨ ((∃ xs, SqT K H1 a xs) ∧ R (Itt K a) H1))
theorem pi_sq {tl : TE} (hl : PE X e tl) : PI X tg e (iSq X.K tl) := by
  constructor
  intro pins s σ H R I h
  refine thn (hl.run pins s σ H _ I h) ?_
  rintro v s1 ⟨x, Hn, In, rx, a, rfl, (⟨⟨xs, w⟩, q⟩ | ⟨⟨xs, w⟩, q⟩)⟩
  · cases rx
    obtain ⟨_, _, z, _⟩ := In.list w
    exact wpAny_pyIter_list z.isList (pi_one (tk := s1.toks) In _ (turn_list a _) ⟨_, Heap.get?_push_size _ rfl, rfl, rfl⟩ q)
  · cases rx
    obtain ⟨its, _, z, _⟩ := In.tuple w
    exact wpAny_pyIter_tuple (show s1.heap.IsTuple a its.toArray from z) (pi_one (tk := s1.toks) In _ (turn_tuple a _) ⟨_, Heap.get?_push_size _ rfl, rfl, rfl⟩ q)
theorem mi_sq (h : PE X e (tP X.K cl G W ea)) : PI X tg e (tI X.K cl G W (.sq ea)) := by
  refine (pi_sq h).imp fun σ H R ⟨dx, ex, base, Pt, m, own, S, g⟩ => ⟨dx, ex, base, Pt, m, own, S, ?_⟩
  simp only [evA] at g
  refine g.seq fun x s1 e1 g v H1 f x1 d1 r1 o1 q1 => ?_
  obtain ⟨its, ei, g⟩ := g
  have hd : ∀ a, a ∈ f → ∃ xs, H1 a = some (.lst xs) := r1.dom
  cases x <;> simp only [itD, seqOf, Option.some.injEq, reduceCtorEq] at ei
  · rename_i l
    subst ei
    obtain ⟨a, vs, rfl, hs, r⟩ := r1
    exact ⟨a, rfl, .inr ⟨⟨vs, hs⟩, g _ H1 f x1 d1 o1 hd q1 (wk_seq walk_tup (fun H st => st.seqT hs) r fun _ z => z)⟩⟩
  · rename_i l
    subst ei
    obtain ⟨a, vs, f', rfl, hs, rfl, r⟩ := r1
    exact ⟨a, rfl, .inl ⟨⟨vs, .inl (.inl hs)⟩, g _ H1 _ x1 d1 o1 hd q1 (wk_seq walk_list (fun H st => .inl (.inl (st _ _ hs fun _ => List.mem_cons_self))) r fun _ z => List.mem_cons_of_mem _ z)⟩⟩
  · rename_i l
    subst ei
    obtain ⟨⟨a, rfl, hs⟩, rfl⟩ := r1
    exact ⟨a, rfl, .inl ⟨⟨_, hs.sq⟩, g _ H1 _ x1 d1 o1 hd q1 (wk_seq walk_list (fun H st => (st.fz hs).sq) (Rps.ints l) fun _ z => z)⟩⟩
theorem rOk_iff {i : Int} (h : rOk i = true) : -(2 ^ 62) ≤ i ∧ i < 2 ^ 62 := by
  simp only [rOk, Bool.and_eq_true, decide_eq_true_eq] at h
  have e : p62 = 2 ^ 62 := by decide
  rw [e] at h
  exact h
theorem mi_r1 (hg : Gl X "range") (B : Bi X.mg) (ha : PE X a (tE X.K cl G W ea)) (hs : starEach [a] X.env = [(false, eval a X.env)] := by rfl) (hs' : starEach [a] X.env = (false, eval a X.env) :: starEach [] X.env := by rfl) : PI X tg (.Call (.Name "range" p) [a] [] pos) (tI X.K cl G W (.r1 ea)) := by
  refine (pi_range1 hg B.range (pa_cons ha pa_nil hs') hs).imp fun σ H R ⟨dx, ex, base, Pt, m, own, S, g⟩ => ⟨dx, ex, base, Pt, m, own, S, ?_⟩
  simp only [evA] at g
  refine g.seq fun x s1 e1 g v H1 f x1 d1 r1 o1 q1 => ?_
  obtain ⟨its, ei, g⟩ := g
  simp only [itD] at ei
  cases x <;> simp only [itR1, reduceCtorEq] at ei
  rename_i j
  split at ei
  · cases ei
    obtain ⟨h1, h2⟩ := rOk_iff (by assumption)
    exact ⟨j, by rw [r1.1], h1, h2, g _ H1 [] x1 d1 .nil (fun _ z => nomatch z) (fun _ _ z => nomatch z) (wk_int walk_range)⟩
  · cases ei
theorem mi_r2 (hg : Gl X "range") (B : Bi X.mg) (ha : PE X a (tE X.K cl G W ea)) (hb : PE X b (tE X.K cl G W eb)) (hs : starEach [a, b] X.env = [(false, eval a X.env), (false, eval b X.env)] := by rfl) (hs2 : starEach [b] X.env = [(false, eval b X.env)] := by rfl)
    (hs' : starEach [a, b] X.env = (false, eval a X.env) :: starEach [b] X.env := by rfl) (hs2' : starEach [b] X.env = (false, eval b X.env) :: starEach [] X.env := by rfl) : PI X tg (.Call (.Name "range" p) [a, b] [] pos) (tI X.K cl G W (.r2 ea eb)) := by
  refine (pi_range2 hg B.range (pa_cons ha (pa_cons hb pa_nil hs2') hs') hs hs2).imp fun σ H R ⟨dx, ex, base, Pt, m, own, S, g⟩ => ⟨dx, ex, base, Pt, m, own, S, ?_⟩
  simp only [evA] at g
  refine g.seq fun x s1 e1 g v H1 f x1 d1 r1 o1 q1 => ⟨dx, ex, base, Pt, _, own, S.step x1 d1, ?_⟩
  refine (g.at x1).seq fun y s2 e2 g w H2 f2 x2 d2 r2 o2 q2 => ?_
  obtain ⟨its, ei, g⟩ := g
  simp only [itD] at ei
  cases x <;> cases y <;> simp only [itR2, reduceCtorEq] at ei
  rename_i i _ j
  split at ei
  · rename_i hh
    cases ei
    rw [Bool.and_eq_true] at hh
    obtain ⟨h1, h2⟩ := rOk_iff hh.1
    obtain ⟨h3, h4⟩ := rOk_iff hh.2
    exact ⟨i, j, by rw [r1.1, r2.1], ⟨h1, h2, h3, h4⟩, g _ H2 [] (x1.trans x2) d2 .nil (fun _ z => nomatch z) (fun _ _ z => nomatch z) (wk_int walk_range)⟩
  · cases ei
theorem mi_r3 (hg : Gl X "range") (B : Bi X.mg) (ha : PE X a (tE X.K cl G W ea)) (hb : PE X b (tE X.K cl G W eb)) (hc : PE X c (tE X.K cl G W ec)) (hs : starEach [a, b, c] X.env = (false, eval a X.env) :: starEach [b, c] X.env := by rfl) (hs2 : starEach [b, c] X.env = (false, eval b X.env) :: starEach [c] X.env := by rfl)
    (hs3 : starEach [c] X.env = (false, eval c X.env) :: starEach [] X.env := by rfl) (hpl : (backTo pos (starEach [b, c] X.env)).any (·.1) = false := by rfl) : PI X tg (.Call (.Name "range" p) [a, b, c] [] pos) (tI X.K cl G W (.r3 ea eb ec)) := by
  refine (pi_range3 hg B.range (pa_cons ha (pa_cons hb (pa_cons hc pa_nil hs3) hs2) hs) hs hpl).imp fun σ H R ⟨dx, ex, base, Pt, m, own, S, g⟩ => ⟨dx, ex, base, Pt, m, own, S, ?_⟩
  simp only [evA] at g
  refine g.seq fun x s1 e1 g v H1 f x1 d1 r1 o1 q1 => ⟨dx, ex, base, Pt, _, own, S.step x1 d1, ?_⟩
  refine (g.at x1).seq fun y s2 e2 g w H2 f2 x2 d2 r2 o2 q2 => ⟨dx, ex, base, Pt, _, own, (S.step x1 d1).step x2 d2, ?_⟩
  refine (g.at x2).seq fun z s3 e3 g u H3 f3 x3 d3 r3 o3 q3 => ?_
  obtain ⟨its, ei, g⟩ := g
  simp only [itD] at ei
  cases x <;> cases y <;> cases z <;> simp only [itR3, reduceCtorEq] at ei
  rename_i i _ j _ k
  split at ei
  · rename_i hh
    cases ei
    simp only [Bool.and_eq_true, decide_eq_true_eq] at hh
    obtain ⟨h1, h2⟩ := rOk_iff hh.1.1
    obtain ⟨h3, h4⟩ := rOk_iff hh.1.2
    have hk := hh.2
    subst hk
    exact ⟨i, j, -1, _, by rw [r1.1, r2.1, r3.1], RgC.neg h1 h2 h3 h4, g _ H3 [] ((x1.trans x2).trans x3) d3 .nil (fun _ z => nomatch z) (fun _ _ z => nomatch z) (wk_int walk_rangeC)⟩
  · cases ei
theorem mi_en {elts : List Expr} {kk : Nat} {tpos : Pos} (hg : Gl X "enumerate") (B : Bi X.mg) (ha : PE X a (tP X.K cl G W ea)) (hs : starEach [a] X.env = [(false, eval a X.env)] := by rfl) (hs' : starEach [a] X.env = (false, eval a X.env) :: starEach [] X.env := by rfl) :
    PI X (.Tuple elts kk tpos) (.Call (.Name "enumerate" p) [a] [] pos) (tI X.K cl G W (.en ea)) := by
  refine (pi_enum hg B.enumerate (pa_cons ha pa_nil hs') hs).imp fun σ H R ⟨dx, ex, base, Pt, m, own, S, g⟩ => ⟨dx, ex, base, Pt, m, own, S, ?_⟩
  simp only [evA] at g
  refine g.seq fun x s1 e1 g v H1 f x1 d1 r1 o1 q1 => ?_
  obtain ⟨its, ei, g⟩ := g
  have hd : ∀ a, a ∈ f → ∃ xs, H1 a = some (.lst xs) := r1.dom
  simp only [itD] at ei
  cases x <;> simp only [itE, Option.some.injEq, reduceCtorEq] at ei
  rename_i l
  subst ei
  obtain ⟨a, vs, f', rfl, hs, rfl, r⟩ := r1
  exact ⟨a, vs, rfl, .inl (.inl hs), g _ H1 _ x1 d1 o1 hd q1 (wk_enum (fun H st => .inl (.inl (st _ _ hs fun _ => List.mem_cons_self))) r fun _ z => List.mem_cons_of_mem _ z)⟩
theorem mi_zp {elts : List Expr} {kk : Nat} {tpos : Pos} (hg : Gl X "zip") (B : Bi X.mg) (ha : PE X a (tP X.K cl G W ea)) (hb : PE X b (tP X.K cl G W eb)) (hs : starEach [a, b] X.env = (false, eval a X.env) :: starEach [b] X.env := by rfl) (hs2 : starEach [b] X.env = (false, eval b X.env) :: starEach [] X.env := by rfl)
    (hpl : (backTo pos (starEach [b] X.env)).any (·.1) = false := by rfl) : PI X (.Tuple elts kk tpos) (.Call (.Name "zip" p) [a, b] [] pos) (tI X.K cl G W (.zp ea eb)) := by
  refine (RZ.pi_zipA hg B.zip (pa_cons ha (pa_cons hb pa_nil hs2) hs) hs hpl).imp fun σ H R ⟨dx, ex, base, Pt, m, own, S, g⟩ => ⟨dx, ex, base, Pt, m, own, S, ?_⟩
  simp only [evA] at g
  refine g.seq fun x s1 e1 g v H1 f x1 d1 r1 o1 q1 => ⟨dx, ex, base, Pt, _, own, S.step x1 d1, ?_⟩
  refine (g.at x1).seq fun y s2 e2 g w H2 f2 x2 d2 r2 o2 q2 => ?_
  obtain ⟨its, ei, g⟩ := g
  simp only [itD] at ei
  have ra := r1.mono x2 d1.exl o1
  have dj : frI m.v (.zp ea eb) [x, y] = true → ∀ a, a ∈ f ++ f2 → a ∉ own := fun z a ha => by
    simp only [frI, Bool.and_eq_true] at z
    rcases List.mem_append.mp ha with ha | ha
    · exact q1 z.1 a ha
    · exact q2 z.2 a ha
  have hd : ∀ a, a ∈ f ++ f2 → ∃ xs, H2 a = some (.lst xs) := fun a ha => by
    rcases List.mem_append.mp ha with ha | ha
    · exact ra.dom a ha
    · exact r2.dom a ha
  cases x <;> cases y <;> simp only [itZ, Option.some.injEq, reduceCtorEq] at ei
  · subst ei
    obtain ⟨a, vs, rfl, hs, r⟩ := ra
    obtain ⟨b, ws, rfl, hs', r'⟩ := r2
    exact ⟨a, b, vs, ws, rfl, .inr ⟨hs, hs', g _ H2 (f ++ f2) (x1.trans x2) d2 (o1.app o2) hd dj (wk_zip (walk_zipT) (fun H st => ⟨st.seqT hs, st.seqT hs'⟩) r r' (fun _ z => List.mem_append_left _ z) fun _ z => List.mem_append_right _ z)⟩⟩
  · subst ei
    obtain ⟨a, vs, f', rfl, hs, rfl, r⟩ := ra
    obtain ⟨b, ws, f'', rfl, hs', rfl, r'⟩ := r2
    exact ⟨a, b, vs, ws, rfl, .inl ⟨.inl (.inl hs), .inl (.inl hs'), g _ H2 _ (x1.trans x2) d2 (o1.app o2) hd dj (wk_zip (walk_zip rfl) (fun H st => ⟨.inl (.inl (st _ _ hs fun _ => by simp)), .inl (.inl (st _ _ hs' fun _ => by simp))⟩) r r' (fun _ z => by simp [z]) fun _ z => by simp [z])⟩⟩
end
end BX

set_option Elab.async false
set_option linter.all false
set_option maxRecDepth 100000
set_option maxHeartbeats 4000000
namespace BX
open PySem PySem.Spec PyProof.Rows L2

/-! ## 8. comprehensions -/
/-- all that is tracked as a list -/
def AllL (ex : List Addr) (H : Hp) : Addr → Prop := fun a => a ∉ ex ∧ ∃ xs, H a = some (.lst xs)
section
variable {K : PySem.W.Frag} {a0 : Addr × Addr} {dx : Addr × Addr} {ex : List Addr} {base H H' H1 : Hp} {Pt : List (Addr → Prop)} {m : Ms} {σ : L2.St} {own : List Addr}
theorem Sls.pins : ∀ {v : List SV} {σ : L2.St} {own : List Addr}, Sls K a0 ex Pt H v σ own → Out ex own → Sls K a0 ex [AllL ex H] H (v.map pinS) σ []
  | [], _, _, h, _ => ⟨h.1, rfl⟩
  | s :: r, σ, own, h, o => by
    obtain ⟨u, τ, f1, f2, e1, e2, h1, h2⟩ := h
    subst e2
    refine ⟨u, τ, [], [], e1, rfl, ?_, Sls.pins h2 o.right⟩
    cases s with
    | no => rfl
    | own d =>
      obtain ⟨v, e, q⟩ := h1
      exact ⟨rfl, v, f1, _, e, q, o.left, rfl, fun a ha => ⟨o.left a ha, q.dom a ha⟩⟩
    | pin n d =>
      obtain ⟨_, v, g, P, e, q, og, _, _⟩ := h1
      exact ⟨rfl, v, g, _, e, q, og, rfl, fun a ha => ⟨og a ha, q.dom a ha⟩⟩
    | lck n d =>
      obtain ⟨_, v, g, P, e, q, og, _, _⟩ := h1
      exact ⟨rfl, v, g, _, e, q, og, rfl, fun a ha => ⟨og a ha, q.dom a ha⟩⟩
theorem Sls.wip (h : Sls K a0 ex Pt H v σ []) : ∀ vs : List Nat, Sls K a0 ex Pt H (wipV v vs) (wipe σ vs) []
  | [] => h
  | i :: r => by
    have ih := Sls.wip h r
    unfold wipV wipe
    by_cases hi : i < (wipV v r).length
    · obtain ⟨o, p, g, q, q1, q2, q3, q4⟩ := ih.at_ (List.getElem?_eq_getElem hi)
      have z := q4 Pt H .no none [] (fun _ _ _ _ h => h) rfl
      have e : p ++ (g ++ q) = [] := q2.symm
      simp only [List.append_eq_nil_iff] at e
      obtain ⟨rfl, rfl, rfl⟩ := e
      exact z
    · have hl := ih.len
      rw [List.set_eq_of_length_le (by omega), List.set_eq_of_length_le (by omega)]
      exact ih
theorem SR.inner (S : SR K dx ex base Pt m σ H own) (vs : List Nat) : SR K dx ex H [AllL ex H] ⟨wipV (m.v.map pinS) vs, m.s, 1⟩ (wipe σ vs) H [] :=
  ⟨Xt.refl, S.dr, rfl, (S.sl.pins S.out).wip vs, List.nodup_nil, Out.nil, fun _ z => (nomatch z), fun P hP a ha => by
    rw [List.mem_singleton.mp hP] at ha
    exact ⟨fun z => (nomatch z), ha.1, ha.2⟩⟩
theorem Stb.of_xt {f : List Addr} (x : Xt ex H H') (e : ExL ex H) (o : Out ex f) : Stb f H H' := fun b ob h n => x b ob h fun hb => by
  obtain ⟨xs, z⟩ := e b hb ob h
  exact o b (n ⟨xs, z⟩) hb
theorem stb_upd {D : Addr} {f : List Addr} {xs ys : List V} (h : H D = some (.lst xs)) (n : D ∉ f) : Stb f H (upd H D (.lst ys)) := fun b o e k => by
  by_cases hb : b = D
  · subst hb
    rw [h] at e
    cases e
    exact absurd (k ⟨_, rfl⟩) n
  · rw [upd_ne hb]
    exact e
theorem DR.upd {s : Option DS} (d : DR dx ex s H) {D : Addr} {o : HO} (n : D ∉ ex) : DR dx ex s (upd H D o) := by
  cases s with
  | none => exact d
  | some ds =>
    obtain ⟨e, ne, h1, h2⟩ := d
    rw [e] at n
    simp only [List.mem_cons, List.not_mem_nil, or_false, not_or] at n
    refine ⟨e, ne, ?_, ?_⟩
    · rw [upd_ne (fun z => n.1 z.symm)]; exact h1
    · rw [upd_ne (fun z => n.2 z.symm)]; exact h2
end
theorem Gd.ofL {β : Type} {cl : Nat → Value} {W : WX} {dx : Addr × Addr} {ex : List Addr} {σ : L2.St} {H : Hp} {o : Option (List D)} {s : Option DS} {k : List D → Option DS → Res β} {P : β → Option DS → Prop} (g : Gd cl W dx ex σ H ((ofL o s).bd k) P) : ∃ d, o = some d ∧ Gd cl W dx ex σ H (k d s) P := by
  cases o with
  | none => exact g.elim
  | some d => exact ⟨d, rfl, g⟩
section
variable {X : Cx} {cl : Nat → Value} {G : Gm} {W : WX}
theorem _root_.L2.PTs.imp {ifs : List Expr} {t t' : TT} (h : PTs X ifs t) (i : ∀ σ H Q, t' σ H Q → t σ H Q) : PTs X ifs t' := ⟨fun pins s σ H Q I q => h.run pins s σ H Q I (i σ H Q q)⟩
theorem mts_nil : PTs X [] (tT X.K cl G W .yes) := pts_nil.imp fun σ H Q ⟨dx, ex, base, Pt, m, own, S, g⟩ => by
  obtain ⟨b, e, h⟩ := g
  cases e
  exact h H Xt.refl S.dr
theorem mts_one {c : Expr} {ec : Ex} (h : PT X c (tT X.K cl G W ec)) : PTs X [c] (tT X.K cl G W ec) := pts_one h
/-- one item of a comprehension -/
def cmF (G : Gm) (elt : Ex) (tg : Tg) (cond : Ex) (v : List SV) : D → Option DS → Res (Option D) := fun x s =>
  match bindP 0 tg x (wipV (v.map pinS) (tgN tg)) with
  | some v' => (ev G cond true v' s).bd fun c s =>
      match c with
      | .bl true => (ev G elt false v' s).bd fun d s => if frD elt d then .ok (some d) s else .bad
      | .bl false => .ok none s
      | _ => .bad
  | none => .bad
theorem ev_cmp {elt : Ex} {tg : Tg} {src cond : Ex} {m : Bool} {v : List SV} {s : Option DS} : ev G (.cmp elt tg src cond) m v s = (evA G src v s).bd fun l s => (ofL (itD src l) s).bd fun its s => (compL (cmF G elt tg cond v) its s).bd fun l s => (ofO ((fitL l).map .lst) s).bd (fin m) := by
  simp only [ev]
  rfl
theorem compL_cons {F : D → Option DS → Res (Option D)} {x : D} {r : List D} {s s2 : Option DS} {L : List D} (h : compL F (x :: r) s = .ok L s2) : ∃ o s1 l, F x s = .ok o s1 ∧ compL F r s1 = .ok l s2 ∧ L = (match o with | some d => d :: l | none => l) := by
  unfold compL at h
  split at h
  · rename_i o s1 e
    split at h
    · rename_i l s3 e2
      cases h
      exact ⟨o, s1, l, e, e2, rfl⟩
    · cases h
    · cases h
  · cases h
  · cases h
theorem cmF_ok {elt cond : Ex} {tg : Tg} {v : List SV} {x : D} {s s3 : Option DS} {o : Option D} (h : cmF G elt tg cond v x s = .ok o s3) : ∃ v' c s4, bindP 0 tg x (wipV (v.map pinS) (tgN tg)) = some v' ∧ ev G cond true v' s = .ok (.bl c) s4 ∧
    (c = true → ∃ d, ev G elt false v' s4 = .ok d s3 ∧ frD elt d = true ∧ o = some d) ∧ (c = false → o = none ∧ s3 = s4) := by
  unfold cmF at h
  split at h
  · rename_i v' ev'
    cases e : ev G cond true v' s with
    | bad => rw [e] at h; cases h
    | er c s4 => rw [e] at h; cases h
    | ok c s4 =>
      rw [e, bd_ok] at h
      split at h
      · refine ⟨v', true, s4, ev', e, fun _ => ?_, fun z => Bool.noConfusion z⟩
        cases e2 : ev G elt false v' s4 with
        | bad => rw [e2] at h; cases h
        | er c s5 => rw [e2] at h; cases h
        | ok d s5 =>
          rw [e2, bd_ok] at h
          split at h
          · cases h
            exact ⟨d, rfl, by assumption, rfl⟩
          · cases h
      · cases h
        exact ⟨v', false, _, ev', e, fun z => Bool.noConfusion z, fun _ => ⟨rfl, rfl⟩⟩
      · cases h
  · cases h
abbrev W0 : WX := fun _ _ _ _ => False
theorem lc_core' {elt cond src : Ex} {tg : Tg} {σ : L2.St} {H : Hp} {Q : VK} (h : tE X.K cl G W (.cmp elt tg src cond) σ H Q) : tLc (tI X.K cl G W src) (gT X.K tg) (tT X.K cl G W0 cond) (tE X.K cl G W0 elt) (tgN tg) σ H Q := by
  obtain ⟨dx, ex, base, Pt, m, own, S, g⟩ := h
  refine ⟨dx, ex, base, Pt, m, own, S, ?_⟩
  rw [ev_cmp] at g
  refine g.seq fun l s1 e1 g => ?_
  obtain ⟨its, ei, g⟩ := g.ofL
  refine ⟨its, ei, fun J H1 f x1 d1 o1 _ _ wk D hD => ?_⟩
  have hDex : D ∉ ex := d1.notin hD
  cases ec : compL (cmF G elt tg cond m.v) its s1 with
  | bad => rw [ec] at g; exact g.elim
  | er c s2 =>
    exfalso
    clear g ei wk
    revert ec
    generalize s1 = sx
    induction its generalizing sx with
    | nil => intro e; cases e
    | cons x r ih =>
      intro e
      unfold compL at e
      split at e
      · split at e <;> first | (cases e; done) | cases e
      · cases e
      · cases e
  | ok L s2 =>
    rw [ec, bd_ok] at g
    obtain ⟨d', ed, g2⟩ := Gd.ofO g
    cases ef : fitL L with
    | none => rw [ef] at ed; cases ed
    | some L' =>
      rw [ef] at ed
      cases ed
      obtain ⟨rfl, hz⟩ := fitL_some ef
      have g : PyE X.K dx ex (frD (.cmp elt tg src cond)) H Q (.lst L') s2 := g2
      refine lc_it wk (fun i H' => ∃ s' acc vl fl rest, H' D = some (.lst vl) ∧ Rps X.K dx H' acc vl fl ∧ Out ex fl ∧ D ∉ fl ∧ Xt ex H1 H' ∧ DR dx ex s' H' ∧ compL (cmF G elt tg cond m.v) (its.drop i) s' = .ok rest s2 ∧ acc ++ rest = L' ∧ New H1 fl) ?_ ?_ ?_ ?_
      · have sm : Same H1 (upd H1 D (.lst [])) := same_new hD
        exact ⟨s1, [], [], [], L', upd_same, ⟨rfl, rfl⟩, Out.nil, (fun z => nomatch z), Xt.of_same sm, d1.same sm, ec, rfl, New.nil⟩
      · rintro i H' _ ⟨s', acc, vl, fl, rest, h1, h2, h3, h4, h5, h6, h7, h8, h9⟩
        exact Stb.of_xt h5 d1.exl o1
      · rintro i x H' H'' hi ⟨s', acc, vl, fl, rest, h1, h2, h3, h4, h5, h6, h7, h8, h9⟩ ⟨d, gd, e2, rd, gs, sm⟩
        have ed : its.drop i = d :: its.drop (i + 1) := by
          rw [List.drop_eq_getElem_cons hi]
          congr 1
          rw [List.getElem?_eq_getElem hi] at e2
          exact Option.some.inj e2
        rw [ed] at h7
        obtain ⟨o, s3, l', e3, e4, e5⟩ := compL_cons h7
        obtain ⟨v', c, s4, ev', e6, hT, hF⟩ := cmF_ok e3
        have S2 := ((S.step (x1.trans h5) h6).step (s' := s') (.of_same sm) (h6.same sm)).inner (tgN tg)
        have og : Out ex gd := fun a ha => o1 a (gs a ha)
        refine bindP_ok (P := AllL ex H'') (vs := tgN tg) (by rfl) ev' S2 rd og (fun a ha => ⟨og a ha, rd.dom a ha⟩) (fun _ z => z) fun σ2 own2 S3 sub w2 => ⟨w2.trans (wipe_wipe _), ?_⟩
        refine ⟨dx, ex, H'', _, _, own2, S3, ?_⟩
        show Gd cl W0 dx ex σ2 H'' (ev G cond true v' s') _
        rw [e6]
        refine ⟨c, rfl, fun H3 x3 d3 => ?_⟩
        dsimp only
        cases c with
        | true =>
          rw [if_pos rfl]
          obtain ⟨dd, e7, hfr, eo⟩ := hT rfl
          refine ⟨dx, ex, H'', _, _, own2, S3.step x3 d3, ?_⟩
          show Gd cl W0 dx ex σ2 H3 (ev G elt false v' s4) _
          rw [e7]
          intro v H4 fv x4 d4 r4 o4 n4
          have nv := n4 hfr
          have hD4 : H4 D = some (.lst vl) := x4 _ _ (x3 _ _ (sm _ _ h1) hDex) hDex
          have hDv : D ∉ fv := fun z => by
            have q := nv.2 D z
            rw [x3 _ _ (sm _ _ h1) hDex] at q
            cases q
          have lenA := h2.len
          rw [eo] at e5
          dsimp only at e5
          have hlt : vl.length < sizeLine := by
            have q := congrArg List.length h8
            rw [List.length_append, e5] at q
            simp only [List.length_cons] at q
            omega
          have x14 : Xt ex H1 H4 := ((h5.trans (.of_same sm)).trans x3).trans x4
          refine ⟨vl, hD4, hlt, s3, acc ++ [dd], vl ++ [v], fl ++ fv, l', upd_same, ?_, h3.app o4, ?_, ?_, d4.upd hDex, e4, ?_, ?_⟩
          · have ra : Rps X.K dx H4 acc vl fl := Rps.stb (Stb.of_xt (((Xt.of_same sm).trans x3).trans x4) h6.exl h3) h2
            have rb : Rps X.K dx H4 (acc ++ [dd]) (vl ++ [v]) (fl ++ fv) := ra.app ⟨v, [], fv, [], rfl, by simp, r4, rfl, rfl⟩
            exact Rps.stb (stb_upd hD4 fun z => (List.mem_append.mp z).elim h4 hDv) rb
          · exact fun z => (List.mem_append.mp z).elim h4 hDv
          · intro b ob hb nb
            rw [upd_ne (fun z => by rw [z, hD] at hb; cases hb)]
            exact x14 b ob hb nb
          · rw [← h8, e5]
            simp
          · have x13 : Xt ex H1 H3 := (h5.trans (.of_same sm)).trans x3
            refine New.app (H1 := H3) h9 (fun a ha => ?_) nv x13 o4
            obtain ⟨xs, q⟩ := h2.dom a ha
            exact ⟨xs, x3 _ _ (sm _ _ q) (h3 a ha)⟩
        | false =>
          rw [if_neg (by decide)]
          obtain ⟨eo, e7⟩ := hF rfl
          subst eo e7
          refine ⟨_, acc, vl, fl, l', x3 _ _ (sm _ _ h1) hDex, Rps.stb (Stb.of_xt ((Xt.of_same sm).trans x3) h6.exl h3) h2, h3, h4, (h5.trans (.of_same sm)).trans x3, d3, e4, ?_, h9⟩
          rw [← h8, e5]
      · rintro H' ⟨s', acc, vl, fl, rest, h1, h2, h3, h4, h5, h6, h7, h8, h9⟩
        rw [List.drop_length] at h7
        cases h7
        rw [List.append_nil] at h8
        subst h8
        refine g (.ref D) H' (D :: fl) (x1.trans h5) h6 ⟨D, vl, fl, rfl, h1, rfl, h2⟩ (fun a ha => (List.mem_cons.mp ha).elim (fun e => e ▸ hDex) (h3 a)) fun _ => ?_
        have n : New H1 (D :: fl) := ⟨List.nodup_cons.mpr ⟨h4, h9.1⟩, fun c hc => (List.mem_cons.mp hc).elim (fun e => e ▸ hD) (h9.2 c)⟩
        exact n.back x1 fun a ha => (List.mem_cons.mp ha).elim (fun e => e ▸ hDex) (h3 a)
variable {elt tg iter : Expr} {ifs : List Expr} {scope : Scope} {own : List (Str × Nat)} {pos : Pos} {t : Tg} {src cond ee : Ex}
theorem me_lc (hc : X.calm = true) (hN : X.N.Nodup) (own : List (Str × Nat)) (ok : BlkOk X.N X.env.scope scope own) (hi : PI X tg iter (tI X.K cl G W src)) 
    (hg : ∀ (s : Shared) (H : Hp) (C : Addr) (cl' : List (Str × Addr)) (fp : List Addr), PG (X.blk s H scope (compEnvC scope cl' C X.env) fp) tg (gT X.K t)) (ht : ∀ (s : Shared) (H : Hp) (C : Addr) (cl' : List (Str × Addr)) (fp : List Addr), PTs (X.blk s H scope (compEnvC scope cl' C X.env) fp) ifs (tT X.K cl G W0 cond))
    (he : ∀ (s : Shared) (H : Hp) (C : Addr) (cl' : List (Str × Addr)) (fp : List Addr), PE (X.blk s H scope (compEnvC scope cl' C X.env) fp) elt (tE X.K cl G W0 ee)) (ho : own.map (·.2) = tgN t := by rfl) (hs : ∀ x, foldedSetIterable iter X.env x = pure x := by intro _; rfl) :
    PE X (.ListComp elt [⟨tg, iter, ifs, 0⟩] scope pos) (tE X.K cl G W (.cmp ee t src cond)) :=
  (pe_lc hc hN hi ok hg ht he hs).imp fun σ H Q h => by
    rw [ho]
    exact lc_core' h
end
end BX

set_option Elab.async false
set_option linter.all false
set_option maxRecDepth 100000
set_option maxHeartbeats 4000000
namespace BX
open PySem PySem.Spec PyProof.Rows L2

/-! ## 9. statements -/
def GdS (K : PySem.W.Frag) (cl : Nat → Value) (W : WX) (dx : Addr × Addr) (ex : List Addr) (base : Hp) (Pt : List (Addr → Prop)) (r : RS) (D : Ends) : Prop :=
  match r with
  | .nx m => ∀ σ H own, SR K dx ex base Pt m σ H own → D.nx σ H
  | .bk m => ∀ σ H own, SR K dx ex base Pt m σ H own → D.bk σ H
  | .ct m => ∀ σ H own, SR K dx ex base Pt m σ H own → D.ct σ H
  | .rt d s => ∀ v H f, Xt ex base H → DR dx ex s H → Rp K dx H d v f → Out ex f → New base f → D.rt v H
  | .er c m => ∀ σ H own, SR K dx ex base Pt m σ H own → W (cl c) none σ H
  | .bad => False
def tS (K : PySem.W.Frag) (cl : Nat → Value) (G : Gm) (W : WX) (st : Sm) : TS := fun D σ H => ∃ dx ex base Pt m own, SR K dx ex base Pt m σ H own ∧ GdS K cl W dx ex base Pt (exs G st m) D
section
variable {α : Type} {K : PySem.W.Frag} {cl : Nat → Value} {G : Gm} {W : WX} {dx : Addr × Addr} {ex : List Addr} {base H H' H1 : Hp} {Pt : List (Addr → Prop)} {m : Ms} {σ : L2.St} {own : List Addr} {D D' : Ends}
theorem GdS.st {r : Res α} {f : α → Ms → RS} {P : α → Option DS → Prop} (g : GdS K cl W dx ex base Pt (r.st m f) D) (S : SR K dx ex base Pt m σ H own) (h : ∀ x s, r = .ok x s → GdS K cl W dx ex base Pt (f x { m with s := s }) D → P x s) : Gd cl W dx ex σ H r P := by
  cases r with
  | bad => exact g
  | er c s => exact fun H' x d => g _ _ _ (S.step x d)
  | ok x s => exact h x s rfl g
theorem GdS.ends {r : RS} (g : GdS K cl W dx ex base Pt r D) (h1 : ∀ σ H, D.nx σ H → D'.nx σ H) (h2 : ∀ v H, D.rt v H → D'.rt v H) (h3 : ∀ σ H, D.bk σ H → D'.bk σ H) (h4 : ∀ σ H, D.ct σ H → D'.ct σ H) : GdS K cl W dx ex base Pt r D' := by
  cases r with
  | nx m => exact fun σ H own S => h1 _ _ (g σ H own S)
  | bk m => exact fun σ H own S => h3 _ _ (g σ H own S)
  | ct m => exact fun σ H own S => h4 _ _ (g σ H own S)
  | rt d s => exact fun v H f a b c d e => h2 _ _ (g v H f a b c d e)
  | er c m => exact g
  | bad => exact g

/-! ### a slot's own list is written -/
theorem SlOk.upd {a0 : Addr × Addr} {a : Addr} {vs ys : List V} (ha : H a = some (.lst vs)) (hP : ∀ P, P ∈ Pt → ¬ P a) : ∀ {sv : SV} {o : Option V} {f : List Addr}, a ∉ f → SlOk K a0 ex Pt H sv o f → SlOk K a0 ex Pt (upd H a (.lst ys)) sv o f
  | .no, _, _, _, h => h
  | .own d, o, f, n, h => by
    obtain ⟨v, e, r⟩ := h
    exact ⟨v, e, r.stb (stb_upd ha n)⟩
  | .pin k d, o, f, _, h => by
    obtain ⟨hf, v, g, P, e, r, og, hk, hg⟩ := h
    exact ⟨hf, v, g, P, e, r.stb (stb_upd ha fun z => hP P (List.mem_of_getElem? hk) (hg a z)), og, hk, hg⟩
  | .lck k d, o, f, _, h => by
    obtain ⟨hf, v, g, P, e, r, og, hk, hg, nd⟩ := h
    exact ⟨hf, v, g, P, e, r.stb (stb_upd ha fun z => hP P (List.mem_of_getElem? hk) (hg a z)), og, hk, hg, nd⟩
theorem SR.list {i : Nat} {l : List BX.D} (S : SR K dx ex base Pt m σ H own) (h : ownL m.v i = some l) : ∃ a vs g, σ[i]? = some (some (.ref a)) ∧ H a = some (.lst vs) ∧ Rps K dx H l vs g ∧ a ∈ own ∧ g.Nodup ∧ (∀ x, x ∈ g → x ∈ own ∧ x ≠ a) ∧
    ∀ l' vs' g', Rps K dx H l' vs' g' → g'.Nodup → (∀ x, x ∈ g' → x ∈ g ∨ (x ∉ own ∧ x ∉ ex ∧ base x = none ∧ ∀ P, P ∈ Pt → ¬ P x)) →
      ∃ own', SR K dx ex base Pt { m with v := m.v.set i (.own (.lst l')) } σ (upd H a (.lst vs')) own' ∧ (∀ x, x ∈ own' → x ∈ own ∨ x ∈ g') ∧ (∀ x, x ∈ own' → x ∈ g → x ∈ g') := by
  unfold ownL at h
  split at h
  · rename_i l0 e
    cases h
    obtain ⟨o, p, g0, q, q1, q2, ⟨v, ev, ⟨a, vs, g, e1, e2, e3, r⟩⟩, q4⟩ := S.sl.at_ e
    subst ev e1 e3
    have nd := S.nd
    rw [q2] at nd
    have n1 := List.nodup_append.mp nd
    have n2 := List.nodup_append.mp n1.2.1
    have n3 := List.nodup_cons.mp n2.1
    have ap : a ∉ p := fun z => n1.2.2 a z a (by simp) rfl
    have aq : a ∉ q := fun z => n2.2.2 a (by simp) a z rfl
    have ao : a ∈ own := by rw [q2]; simp
    refine ⟨a, vs, g, q1, e2, r, ao, n3.2, fun x hx => ⟨by rw [q2]; simp [hx], fun z => n3.1 (z ▸ hx)⟩, fun l' vs' g' r' nd' hg' => ?_⟩
    have aP : ∀ P, P ∈ Pt → ¬ P a := fun P hP z => (S.pt P hP a z).1 ao
    have ag' : a ∉ g' := fun z => by
      rcases hg' a z with z | z
      · exact n3.1 z
      · exact z.1 ao
    have s' := q4 Pt (upd H a (.lst vs')) (.own (.lst l')) (some (.ref a)) (a :: g') (fun y o f' hf hy => SlOk.upd e2 aP (fun z => by
        rcases List.mem_append.mp (hf a z) with z | z
        · exact ap z
        · exact aq z) hy) ⟨.ref a, rfl, a, vs', g', rfl, upd_same, rfl, r'.stb (stb_upd e2 ag')⟩
    have eσ : σ.set i (some (.ref a)) = σ := by
      have hi : i < σ.length := (List.getElem?_eq_some_iff.mp q1).1
      have e' := (List.getElem?_eq_some_iff.mp q1).2
      rw [← e']
      exact List.set_getElem_self hi
    rw [eσ] at s'
    have cls : ∀ x, x ∈ p ++ ((a :: g') ++ q) → (x ∈ own ∧ (x ∈ p ∨ x = a ∨ x ∈ q)) ∨ x ∈ g' := fun x hx => by
      simp only [List.mem_append, List.mem_cons] at hx
      rw [q2]
      simp only [List.mem_append, List.mem_cons]
      rcases hx with h | (h | h) | h
      · exact .inl ⟨.inl h, .inl h⟩
      · exact .inl ⟨.inr (.inl (.inl h)), .inr (.inl h)⟩
      · exact .inr h
      · exact .inl ⟨.inr (.inr h), .inr (.inr h)⟩
    have gp : ∀ x, x ∈ g' → x ∉ p ∧ x ∉ q := fun x hx => by
      rcases hg' x hx with z | z
      · exact ⟨fun w => n1.2.2 x w x (by simp [z]) rfl, fun w => n2.2.2 x (by simp [z]) x w rfl⟩
      · exact ⟨fun w => z.1 (by rw [q2]; simp [w]), fun w => z.1 (by rw [q2]; simp [w])⟩
    refine ⟨_, ⟨fun b ob hb nb => ?_, S.dr.upd (S.out a ao), S.lv, s', ?_, fun x hx => ?_, fun x hx => ?_, fun P hP x hx => ?_⟩, fun x hx => (cls x hx).imp (·.1) id, fun x hx hg => ?_⟩
    · rw [upd_ne (fun z => by rw [z, S.new a ao] at hb; cases hb)]
      exact S.xt b ob hb nb
    · refine nodup_app n1.1 (nodup_app (List.nodup_cons.mpr ⟨ag', nd'⟩) n2.2.1 fun x hx hq => ?_) fun x hx hq => ?_
      · rcases List.mem_cons.mp hx with z | z
        · exact aq (z ▸ hq)
        · exact (gp x z).2 hq
      · rcases List.mem_append.mp hq with hq | hq
        · rcases List.mem_cons.mp hq with z | z
          · exact ap (z ▸ hx)
          · exact (gp x z).1 hx
        · exact n1.2.2 x hx x (List.mem_append_right _ hq) rfl
    · rcases cls x hx with z | z
      · exact S.out x z.1
      · rcases hg' x z with w | w
        · exact S.out x (by rw [q2]; simp [w])
        · exact w.2.1
    · rcases cls x hx with z | z
      · exact S.new x z.1
      · rcases hg' x z with w | w
        · exact S.new x (by rw [q2]; simp [w])
        · exact w.2.2.1
    · obtain ⟨h1, h2, xs, h3⟩ := S.pt P hP x hx
      refine ⟨fun z => ?_, h2, xs, ?_⟩
      · rcases cls x z with z | z
        · exact h1 z.1
        · rcases hg' x z with w | w
          · exact h1 (by rw [q2]; simp [w])
          · exact w.2.2.2 P hP hx
      · rw [upd_ne (fun z : x = a => aP P hP (by rw [← z]; exact hx))]
        exact h3
    · rcases cls x hx with z | z
      · rcases z.2 with w | w | w
        · exact absurd rfl (n1.2.2 x w x (by simp [hg]))
        · exact absurd (w ▸ hg) n3.1
        · exact absurd rfl (n2.2.2 x (by simp [hg]) x w)
      · exact z
  · cases h
end
end BX

set_option Elab.async false
set_option linter.all false
set_option maxRecDepth 100000
set_option maxHeartbeats 4000000
namespace BX
open PySem PySem.Spec PyProof.Rows L2

section
variable {X : Cx} {cl : Nat → Value} {G : Gm} {W : WX} {pos p p2 p3 : Pos} {st : Stmt} {sts : List Stmt} {a b c e tg : Expr} {ea eb ec : Ex} {sa sb : Sm} {t : Tg}
theorem _root_.L2.PS.imp {t t' : TS} (h : PS X st t) (i : ∀ D σ H, t' D σ H → t D σ H) : PS X st t' := ⟨fun pins s σ H D I q => h.run pins s σ H D I (i D σ H q)⟩
theorem _root_.L2.PSs.imp {t t' : TS} (h : PSs X sts t) (i : ∀ D σ H, t' D σ H → t D σ H) : PSs X sts t' := ⟨fun pins s σ H D I q => h.run pins s σ H D I (i D σ H q)⟩
theorem skip_core {D : Ends} {σ : L2.St} {H : Hp} (h : tS X.K cl G W .skip D σ H) : D.nx σ H := by
  obtain ⟨dx, ex, base, Pt, m, own, S, g⟩ := h
  exact g σ H own S
theorem seq_core {D : Ends} {σ : L2.St} {H : Hp} (h : tS X.K cl G W (.seq sa sb) D σ H) : tSeq (tS X.K cl G W sa) (tS X.K cl G W sb) D σ H := by
  obtain ⟨dx, ex, base, Pt, m, own, S, g⟩ := h
  refine ⟨dx, ex, base, Pt, m, own, S, ?_⟩
  simp only [exs] at g
  cases e : exs G sa m with
  | nx m' =>
    rw [e] at g
    exact fun σ' H' own' S' => ⟨dx, ex, base, Pt, m', own', S', g⟩
  | bk m' => rw [e] at g; exact g
  | ct m' => rw [e] at g; exact g
  | rt d s => rw [e] at g; exact g
  | er c m' => rw [e] at g; exact g
  | bad => rw [e] at g; exact g
theorem mss_nil : PSs X [] (tS X.K cl G W .skip) := pss_nil.imp fun _ _ _ => skip_core
theorem mss_cons (h1 : PS X st (tS X.K cl G W sa)) (h2 : PSs X sts (tS X.K cl G W sb)) : PSs X (st :: sts) (tS X.K cl G W (.seq sa sb)) := (pss_cons h1 h2).imp fun _ _ _ => seq_core
theorem mss_one (h1 : PS X st (tS X.K cl G W sa)) : PSs X [st] (tS X.K cl G W sa) := pss_one h1
theorem ms_pass : PS X (.Pass pos) (tS X.K cl G W .skip) := ps_pass.imp fun _ _ _ => skip_core
theorem ms_brk : PS X (.Break pos) (tS X.K cl G W .brk) := ps_break.imp fun D σ H ⟨dx, ex, base, Pt, m, own, S, g⟩ => g σ H own S
theorem ms_cont : PS X (.Continue pos) (tS X.K cl G W .cont) := ps_continue.imp fun D σ H ⟨dx, ex, base, Pt, m, own, S, g⟩ => g σ H own S
theorem ms_doc {x : Str} {j : Nat} : PS X (.Expr (.Constant (.str x) j p) pos) (tS X.K cl G W .skip) := ps_doc.imp fun _ _ _ => skip_core
theorem ms_expr (he : PE X e (tE X.K cl G W ea)) (hs : swapsWith e none pos.line X.env = pure false := by rfl) : PS X (.Expr e pos) (tS X.K cl G W (.expr ea)) := by
  refine (ps_expr he hs).imp fun D σ H ⟨dx, ex, base, Pt, m, own, S, g⟩ => ⟨dx, ex, base, Pt, m, own, S, ?_⟩
  simp only [exs] at g
  exact g.st S fun d s _ g v H1 f x1 d1 r1 o1 q1 => g σ H1 own (S.step x1 d1)
def isVar : Ex → Bool
  | .var _ => true
  | _ => false
theorem New.base {ex f : List Addr} {base H : Hp} (n : New H f) (x : Xt ex base H) (o : Out ex f) : New base f := ⟨n.1, fun a ha => x.free (o a ha) (n.2 a ha)⟩
theorem ms_ret (he : PE X e (tE X.K cl G W ea)) (hn : isVar ea = false := by rfl) : PS X (.Return (some e) pos) (tS X.K cl G W (.ret ea)) := by
  refine (ps_ret he).imp fun D σ H ⟨dx, ex, base, Pt, m, own, S, g⟩ => ⟨dx, ex, base, Pt, m, own, S, ?_⟩
  simp only [exs] at g
  refine g.st S fun d s _ g v H1 f x1 d1 r1 o1 q1 => ?_
  split at g
  · rename_i hr
    have z : frD ea d = true := by
      unfold retOk at hr
      rw [Bool.or_eq_true] at hr
      rcases hr with z | z
      · exact z
      · cases ea <;> first | (simp [isVar] at hn; done) | (simp at z; done)
    exact g v H1 f (S.xt.trans x1) d1 r1 o1 ((q1 z).base S.xt o1)
  · exact g.elim
theorem ms_retV (i : Nat) {x : Str} (hN : X.N[i]? = some x := by rfl) (hv : Vis X.env.scope x := by first | exact Or.inl rfl | exact Or.inr (Or.inl rfl) | exact Or.inr (Or.inr rfl)) (hd : (x == ("__debug__" : Str)) = false := by decide)
    (hcd : (x == ("__classdict__" : Str)) = false := by decide) : PS X (.Return (some (.Name x p)) pos) (tS X.K cl G W (.ret (.var i))) := by
  refine (ps_ret (pe_var hN hv hd hcd)).imp fun D σ H ⟨dx, ex, base, Pt, m, own, S, g⟩ => ?_
  simp only [exs, ev] at g
  cases es : slot m.v i with
  | none => rw [es] at g; exact g.elim
  | some d =>
    rw [es] at g
    have g : GdS X.K cl W dx ex base Pt (if retOk (.var i) d m.v then .rt d m.s else .bad) D := g
    split at g
    · rename_i hr
      unfold retOk at hr
      rw [Bool.or_eq_true] at hr
      rcases hr with z | z
      · obtain ⟨v, f, q1, r, o⟩ := S.slot es
        refine ⟨v, q1, g v H f S.xt S.dr r o ?_⟩
        have n : noL d = true := z
        rw [r.noL n]
        exact .nil
      · have e1 : ∃ d', m.v[i]? = some (.own d') := by
          dsimp only at z
          split at z
          · exact ⟨_, by assumption⟩
          · cases z
        obtain ⟨d', e1⟩ := e1
        have ed : d' = d := by
          unfold BX.slot at es
          rw [e1] at es
          exact Option.some.inj es
        subst ed
        obtain ⟨o, p, g0, q, q1, q2, ⟨v, ev, r⟩, q4⟩ := S.sl.at_ e1
        have sub : ∀ a, a ∈ g0 → a ∈ own := fun a ha => by rw [q2]; simp [ha]
        refine ⟨v, by rw [q1, ev], g v H g0 S.xt S.dr r (fun a ha => S.out a (sub a ha)) ⟨?_, fun a ha => S.new a (sub a ha)⟩⟩
        have nd := S.nd
        rw [q2] at nd
        exact (List.nodup_append.mp (List.nodup_append.mp nd).2.1).1
    · exact g.elim
theorem ms_retN : PS X (.Return none pos) (tS X.K cl G W .retN) := ps_retN.imp fun D σ H ⟨dx, ex, base, Pt, m, own, S, g⟩ => g .non H [] S.xt S.dr ⟨rfl, rfl⟩ Out.nil New.nil
theorem ms_if {c : Expr} {l1 l2 : List Stmt} (hc : PT X c (tT X.K cl G W ec)) (ha : PSs X l1 (tS X.K cl G W sa)) (hb : PSs X l2 (tS X.K cl G W sb)) : PS X (.If c l1 l2 pos) (tS X.K cl G W (.ife ec sa sb)) := by
  refine (ps_if hc ha hb).imp fun D σ H ⟨dx, ex, base, Pt, m, own, S, g⟩ => ⟨dx, ex, base, Pt, m, own, S, ?_⟩
  simp only [exs] at g
  refine g.st S fun d s _ g => ?_
  cases d with
  | bl k =>
    refine ⟨k, rfl, fun H1 x1 d1 => ?_⟩
    cases k with
    | true =>
      exact ⟨dx, ex, base, Pt, _, own, S.step x1 d1, g⟩
    | false =>
      exact ⟨dx, ex, base, Pt, _, own, S.step x1 d1, g⟩
  | _ => exact g.elim

/-! ### stores -/
theorem asg_core {D : Ends} {σ : L2.St} {H : Hp} (h : tS X.K cl G W (.asg t ea) D σ H) : tE X.K cl G W ea σ H fun v H1 => gT X.K t v σ H1 D.nx := by
  obtain ⟨dx, ex, base, Pt, m, own, S, g⟩ := h
  refine ⟨dx, ex, base, Pt, m, own, S, ?_⟩
  simp only [exs] at g
  refine g.st S fun d s _ g v H1 f x1 d1 r1 o1 q1 => ?_
  dsimp only at g
  split at g
  · rename_i hf
    split at g
    · rename_i v' ev'
      exact bindT_ok (m := { m with s := s }) ev' (S.step x1 d1) r1 (S.fre (q1 hf) o1) fun σ' own' S' _ => g σ' H1 own' S'
    · exact g.elim
  · exact g.elim
theorem ms_asg (he : PE X e (tE X.K cl G W ea)) (hg : PG X tg (gT X.K t)) (hs : swapsWithSole [tg] e pos.line X.env = pure false := by rfl) (hw : swappedStores [tg] e X.env = pure none := by rfl) (h1 : (assignEach [tg] X.env).map (·.2) = [assign tg X.env] := by rfl) :
    PS X (.Assign [tg] e pos) (tS X.K cl G W (.asg t ea)) := (ps_asg he hg hs hw h1).imp fun _ _ _ => asg_core
theorem ms_set (hN : X.N.Nodup) (i : Nat) {x : Str} (he : PE X e (tE X.K cl G W ea)) (hi : X.N[i]? = some x := by rfl) (hx : Loc X.env.scope x := by first | exact Or.inl rfl | exact Or.inr rfl) (hs : swapsWith e (some (.Name x p)) pos.line X.env = pure false := by rfl)
    (hf : X.fn x = true ∨ X.env.scope.names.lookup x = some .local := by first | exact .inl rfl | exact .inr rfl) : PS X (.Assign [.Name x p] e pos) (tS X.K cl G W (.asg (.nm i) ea)) :=
  (ps_set hN hi hx he hs hf).imp fun D σ H h => by
    have z := asg_core h
    simp only [gT] at z
    exact z
theorem ms_setLc {y : Str} {py spos : Pos} {elt iter : Expr} {ifs : List Expr} {scope : Scope} {src cond ee : Ex} (hc : X.calm = true) (hN : X.N.Nodup) (i : Nat) (own : List (Str × Nat)) (ok : BlkOk X.N X.env.scope scope own) (hi : PI X tg iter (tI X.K cl G W src))
    (hg : ∀ (s : Shared) (H : Hp) (C : Addr) (cl' : List (Str × Addr)) (fp : List Addr), PG (X.blk s H scope (compEnvC scope cl' C X.env) fp) tg (gT X.K t)) (ht : ∀ (s : Shared) (H : Hp) (C : Addr) (cl' : List (Str × Addr)) (fp : List Addr), PTs (X.blk s H scope (compEnvC scope cl' C X.env) fp) ifs (tT X.K cl G W0 cond))
    (he : ∀ (s : Shared) (H : Hp) (C : Addr) (cl' : List (Str × Addr)) (fp : List Addr), PE (X.blk s H scope (compEnvC scope cl' C X.env) fp) elt (tE X.K cl G W0 ee)) (hsw : swapsWith (.ListComp elt [⟨tg, iter, ifs, 0⟩] scope pos) (some (.Name y py)) spos.line X.env = pure true) (hy : X.N[i]? = some y := by rfl)
    (hyl : X.env.scope.names.lookup y = some .local := by rfl) (ho : own.map (·.2) = tgN t := by rfl) (hs : ∀ x, foldedSetIterable iter X.env x = pure x := by intro _; rfl) :
    PS X (.Assign [.Name y py] (.ListComp elt [⟨tg, iter, ifs, 0⟩] scope pos) spos) (tS X.K cl G W (.asg (.nm i) (.cmp ee t src cond))) :=
  (ps_setLc hc hN hy hyl hsw hi ok hg ht he hs).imp fun D σ H h => by
    have z := asg_core h
    simp only [gT] at z
    rw [ho]
    exact lc_core' z
theorem par_core {D : Ends} {σ : L2.St} {H : Hp} (h : tS X.K cl G W (.asg (.tp t) (.tup ea)) D σ H) : tA X.K cl G W ea σ H fun vs H1 => gTs X.K t vs σ H1 D.nx := by
  obtain ⟨dx, ex, base, Pt, m, own, S, g⟩ := h
  refine ⟨dx, ex, base, Pt, m, own, S, ?_⟩
  simp only [exs, ev] at g
  have g' : GdS X.K cl W dx ex base Pt ((evA G ea m.v m.s).st m fun l m => if noLs l || frDs ea l then (match bindGs .own t l m.v with
      | some v' => .nx { m with v := v' }
      | none => .bad) else .bad) D := by
    cases e : evA G ea m.v m.s with
    | bad => rw [e] at g; exact g
    | er c s => rw [e] at g; exact g
    | ok l s =>
      rw [e] at g
      rw [bd_ok] at g
      cases ef : fitL l with
      | none => rw [ef] at g; exact g.elim
      | some l' =>
        obtain ⟨rfl, _⟩ := fitL_some ef
        rw [ef] at g
        have g : GdS X.K cl W dx ex base Pt (if frD (.tup ea) (.tup l') then (match bindT (.tp t) (.tup l') m.v with
          | some v' => .nx { m with s := s, v := v' }
          | none => .bad) else .bad) D := g
        simp only [frD, bindT, bindG] at g
        exact g
  refine g'.st S fun l s _ g v H1 f x1 d1 r1 o1 q1 => ?_
  dsimp only at g
  split at g
  · rename_i hf
    split at g
    · rename_i v' ev'
      have nf : New H f := by
        rcases (Bool.or_eq_true _ _).mp hf with z | z
        · rw [r1.noL z]; exact New.nil
        · exact q1 z
      exact bindTs_ok (m := { m with s := s }) ev' (S.step x1 d1) r1 (S.fre nf o1) fun σ' own' S' _ => g σ' H1 own' S'
    · exact g.elim
  · exact g.elim
theorem ms_par {x y : Str} {px py pt : Pos} {kt k2 pt2} (hc : X.calm = true) (hN : X.N.Nodup) (i j : Nat) (hij : i ≠ j) (ha : PA X [a, b] (tA X.K cl G W ea)) (hi : X.N[i]? = some x := by rfl) (hj : X.N[j]? = some y := by rfl)
    (hx : X.env.scope.names.lookup x = some .local := by rfl) (hy : X.env.scope.names.lookup y = some .local := by rfl)
    (hw : swappedStores [.Tuple [.Name x px, .Name y py] kt pt] (.Tuple [a, b] k2 pt2) X.env = pure (some [x, y]) := by rfl)
    (hs : swapsWithSole [.Tuple [.Name x px, .Name y py] kt pt] (.Tuple [a, b] k2 pt2) pos.line X.env = pure false := by rfl) :
    PS X (.Assign [.Tuple [.Name x px, .Name y py] kt pt] (.Tuple [a, b] k2 pt2) pos) (tS X.K cl G W (.asg (.tp (.cn (.nm i) (.cn (.nm j) .nl))) (.tup ea))) := by
  refine (ps_par hc hN hi hj hij hx hy ha hw hs).imp fun D σ H h => ?_
  have z := par_core h
  simp only [gTs, gT] at z
  obtain ⟨dx, ex, base, Pt, m, own, S, g⟩ := z
  refine ⟨dx, ex, base, Pt, m, own, S, g.wish (fun _ _ _ w => w) fun l s _ q vs H1 f x1 d1 r1 o1 q1 => ?_⟩
  obtain ⟨v, r, e1, w, r2, e2, e3, k⟩ := q vs H1 f x1 d1 r1 o1 q1
  subst e3 e2
  exact ⟨v, w, e1, k⟩
theorem ms_par3 {x y z : Str} {px py pz pt : Pos} {kt k2 pt2} (hc : X.calm = true) (hN : X.N.Nodup) (i j l : Nat) (hij : i ≠ j) (hil : i ≠ l) (hjl : j ≠ l) (ha : PA X [a, b, c] (tA X.K cl G W ea)) (hi : X.N[i]? = some x := by rfl) (hj : X.N[j]? = some y := by rfl) (hl : X.N[l]? = some z := by rfl)
    (hx : X.env.scope.names.lookup x = some .local := by rfl) (hy : X.env.scope.names.lookup y = some .local := by rfl) (hz : X.env.scope.names.lookup z = some .local := by rfl)
    (hw : swappedStores [.Tuple [.Name x px, .Name y py, .Name z pz] kt pt] (.Tuple [a, b, c] k2 pt2) X.env = pure (some [x, y, z]) := by rfl)
    (hs : swapsWithSole [.Tuple [.Name x px, .Name y py, .Name z pz] kt pt] (.Tuple [a, b, c] k2 pt2) pos.line X.env = pure false := by rfl) :
    PS X (.Assign [.Tuple [.Name x px, .Name y py, .Name z pz] kt pt] (.Tuple [a, b, c] k2 pt2) pos) (tS X.K cl G W (.asg (.tp (.cn (.nm i) (.cn (.nm j) (.cn (.nm l) .nl)))) (.tup ea))) := by
  refine (ps_par3 hc hN hi hj hl hij hil hjl hx hy hz ha hw hs).imp fun D σ H h => ?_
  have z := par_core h
  simp only [gTs, gT] at z
  obtain ⟨dx, ex, base, Pt, m, own, S, g⟩ := z
  refine ⟨dx, ex, base, Pt, m, own, S, g.wish (fun _ _ _ w => w) fun l s _ q vs H1 f x1 d1 r1 o1 q1 => ?_⟩
  obtain ⟨v, r, e1, w, r2, e2, u, r3, e4, e3, k⟩ := q vs H1 f x1 d1 r1 o1 q1
  subst e3 e4 e2
  exact ⟨v, w, u, e1, k⟩

/-! ### name op= int -/
structure AuO (X : Cx) (op : Operator) (o : Op2) : Prop where
  run : ∃ r : TIp, PIp X op r ∧ ∀ (i j : Int) (z : BX.D) (H : Hp) (Q : VK), f2 o (.int i) (.int j) = some z → (∀ k, z = .int k → Q (.int k) H) → r (.int i) (.int j) H Q
theorem au_add : AuO X .Add .add := ⟨_, ip_add, fun i j z H Q h k => ⟨i, j, rfl, rfl, k _ (by simp only [f2, Option.some.injEq] at h; exact h.symm)⟩⟩
theorem au_sub : AuO X .Sub .sub := ⟨_, ip_sub, fun i j z H Q h k => ⟨i, j, rfl, rfl, k _ (by simp only [f2, Option.some.injEq] at h; exact h.symm)⟩⟩
theorem ms_aug {op : Operator} {o : Op2} (hN : X.N.Nodup) (i : Nat) {x : Str} (ho : AuO X op o) (he : PE X e (tE X.K cl G W ea)) (hi : X.N[i]? = some x := by rfl) (hx : Loc X.env.scope x := by first | exact Or.inl rfl | exact Or.inr rfl)
    (hf : X.fn x = true ∨ X.env.scope.names.lookup x = some .local := by first | exact .inl rfl | exact .inr rfl) : PS X (.AugAssign (.Name x p) op e pos) (tS X.K cl G W (.aug i o ea)) := by
  obtain ⟨r, hr, hk⟩ := ho.run
  refine (ps_aug hN hi hx he hr hf).imp fun D σ H ⟨dx, ex, base, Pt, m, own, S, g⟩ => ?_
  simp only [exs] at g
  split at g
  · rename_i j e1
    obtain ⟨v, f, q1, r1, o1⟩ := S.slot e1
    refine ⟨v, q1, dx, ex, base, Pt, m, own, S, ?_⟩
    rw [r1.1]
    refine g.st S fun d s ed g w H1 f2 x1 d1 r2 o2 q2 => ?_
    clear ed
    cases d <;> try exact g.elim
    rename_i k
    have g : GdS X.K cl W dx ex base Pt (match BX.f2 o (.int j) (.int k) with
        | some (.int z) => .nx { m with s := s, v := put m.v i (.int z) }
        | _ => .bad) D := g
    split at g
    · rename_i z e2
      rw [r2.1]
      refine hk j k _ H1 _ e2 fun k' ek => ?_
      cases ek
      have hl : i < m.v.length := by
        have h := S.sl.len
        have h2 := (List.getElem?_eq_some_iff.mp q1).1
        omega
      obtain ⟨own', S', _⟩ := (S.step x1 d1).set (i := i) (d := .int z) (u := .int z) (f := []) hl ⟨rfl, rfl⟩ Fre.nil
      exact g _ _ own' S'
    · exact g.elim
  · exact g.elim
end
end BX

set_option Elab.async false
set_option linter.all false
set_option maxRecDepth 100000
set_option maxHeartbeats 4000000
namespace BX
open PySem PySem.Spec PyProof.Rows L2

section
variable {K : PySem.W.Frag} {a0 : Addr × Addr} {dx : Addr × Addr} {ex : List Addr} {base H H' H1 : Hp} {Pt : List (Addr → Prop)} {m : Ms} {σ : L2.St} {own : List Addr}
theorem Rps.sub_nd {l : List D} {vs : List V} {f : List Addr} (r : Rps K a0 H l vs f) (nd : f.Nodup) : True := trivial
/-- the parts of a list's lists, where they lie -/
theorem Rps.dropLast : ∀ {l : List D} {vs : List V} {f : List Addr}, Rps K a0 H l vs f → ∃ g, Rps K a0 H l.dropLast vs.dropLast g ∧ (∀ a, a ∈ g → a ∈ f) ∧ (f.Nodup → g.Nodup)
  | [], vs, f, h => ⟨[], by rw [h.1]; exact ⟨rfl, rfl⟩, fun _ z => (nomatch z), fun _ => List.nodup_nil⟩
  | [d], vs, f, h => by
    obtain ⟨v, ws, f1, f2, e1, e2, h1, h2⟩ := h
    rw [e1, h2.1]
    exact ⟨[], ⟨rfl, rfl⟩, fun _ z => (nomatch z), fun _ => List.nodup_nil⟩
  | d :: e :: r, vs, f, h => by
    obtain ⟨v, ws, f1, f2, e1, e2, h1, h2⟩ := h
    obtain ⟨g, g1, g2, g3⟩ := Rps.dropLast h2
    obtain ⟨v', ws', f1', f2', e1', e2', h1', h2'⟩ := h2
    subst e1 e1'
    subst e2
    refine ⟨f1 ++ g, ⟨v, _, f1, g, rfl, rfl, h1, g1⟩, fun a ha => ?_, fun nd => ?_⟩
    · exact (List.mem_append.mp ha).elim (fun z => List.mem_append_left _ z) fun z => List.mem_append_right _ (g2 a z)
    · have n := List.nodup_append.mp nd
      exact nodup_app n.1 (g3 n.2.1) fun a ha hb => n.2.2 a ha a (g2 a hb) rfl
theorem Rps.erase : ∀ {l : List D} {vs : List V} {f : List Addr} (k : Nat), Rps K a0 H l vs f → ∃ g, Rps K a0 H (l.eraseIdx k) (vs.eraseIdx k) g ∧ (∀ a, a ∈ g → a ∈ f) ∧ (f.Nodup → g.Nodup)
  | [], vs, f, k, h => ⟨[], by rw [h.1]; exact ⟨rfl, rfl⟩, fun _ z => (nomatch z), fun _ => List.nodup_nil⟩
  | d :: r, vs, f, 0, h => by
    obtain ⟨v, ws, f1, f2, e1, e2, h1, h2⟩ := h
    subst e1 e2
    exact ⟨f2, h2, fun a z => List.mem_append_right _ z, fun nd => (List.nodup_append.mp nd).2.1⟩
  | d :: r, vs, f, k + 1, h => by
    obtain ⟨v, ws, f1, f2, e1, e2, h1, h2⟩ := h
    obtain ⟨g, g1, g2, g3⟩ := Rps.erase k h2
    subst e1 e2
    refine ⟨f1 ++ g, ⟨v, _, f1, g, rfl, rfl, h1, g1⟩, fun a ha => ?_, fun nd => ?_⟩
    · exact (List.mem_append.mp ha).elim (fun z => List.mem_append_left _ z) fun z => List.mem_append_right _ (g2 a z)
    · have n := List.nodup_append.mp nd
      exact nodup_app n.1 (g3 n.2.1) fun a ha hb => n.2.2 a ha a (g2 a hb) rfl
theorem Rps.setAt : ∀ {l : List D} {vs : List V} {f : List Addr} {d : D} {v : V} {fd : List Addr} (k : Nat), Rps K a0 H l vs f → Rp K a0 H d v fd → ∃ g, Rps K a0 H (l.set k d) (vs.set k v) g ∧ (∀ a, a ∈ g → a ∈ f ∨ a ∈ fd) ∧ (f.Nodup → fd.Nodup → (∀ a, a ∈ fd → a ∉ f) → g.Nodup)
  | [], vs, f, d, v, fd, k, h, _ => ⟨[], by rw [h.1]; exact ⟨rfl, rfl⟩, fun _ z => (nomatch z), fun _ _ _ => List.nodup_nil⟩
  | x :: r, vs, f, d, v, fd, 0, h, hd => by
    obtain ⟨u, ws, f1, f2, e1, e2, h1, h2⟩ := h
    subst e1 e2
    refine ⟨fd ++ f2, ⟨v, ws, fd, f2, rfl, rfl, hd, h2⟩, fun a ha => ?_, fun n1 n2 n3 => nodup_app n2 (List.nodup_append.mp n1).2.1 fun a ha hb => n3 a ha (List.mem_append_right _ hb)⟩
    exact (List.mem_append.mp ha).elim .inr fun z => .inl (List.mem_append_right _ z)
  | x :: r, vs, f, d, v, fd, k + 1, h, hd => by
    obtain ⟨u, ws, f1, f2, e1, e2, h1, h2⟩ := h
    obtain ⟨g, g1, g2, g3⟩ := Rps.setAt k h2 hd
    subst e1 e2
    refine ⟨f1 ++ g, ⟨u, _, f1, g, rfl, rfl, h1, g1⟩, fun a ha => ?_, fun n1 n2 n3 => ?_⟩
    · rcases List.mem_append.mp ha with z | z
      · exact .inl (List.mem_append_left _ z)
      · exact (g2 a z).imp (List.mem_append_right _) id
    · have n := List.nodup_append.mp n1
      refine nodup_app n.1 (g3 n.2.1 n2 fun a ha hb => n3 a ha (List.mem_append_right _ hb)) fun a ha hb => ?_
      rcases g2 a hb with z | z
      · exact n.2.2 a ha a z rfl
      · exact n3 a z (List.mem_append_left _ ha)
theorem Rps.last {l : List D} {vs : List V} {f : List Addr} {d : D} (r : Rps K a0 H l vs f) (h : l.getLast? = some d) : ∃ v g, vs[vs.length - 1]? = some v ∧ Rp K a0 H d v g := by
  rw [List.getLast?_eq_getElem?] at h
  obtain ⟨v, g, e, q, _⟩ := r.get h
  rw [r.len]
  exact ⟨v, g, e, q⟩
end

section
variable {X : Cx} {cl : Nat → Value} {G : Gm} {W : WX} {pos p p2 p3 apos cpos : Pos} {st : Stmt} {sts : List Stmt} {a b c e tg : Expr} {ea eb ec : Ex} {sa sb : Sm} {t : Tg}
theorem tyl {a : Addr} {xs : List V} {H : Hp} (h : H a = some (.lst xs)) : tyV X.K "list" (.ref a) H := .inl ⟨rfl, xs, .inl (.inl h)⟩
theorem ms_app (i : Nat) {x : Str} (he : PE X e (tE X.K cl G W ea)) (hN : X.N[i]? = some x := by rfl) (hv : Vis X.env.scope x := by first | exact Or.inl rfl | exact Or.inr (Or.inl rfl) | exact Or.inr (Or.inr rfl)) (hd : (x == ("__debug__" : Str)) = false := by decide)
    (hcd : (x == ("__classdict__" : Str)) = false := by decide) (hs1 : starEach [e] X.env = (false, eval e X.env) :: starEach [] X.env := by rfl) (hbase : attributeBase (.Name x p) "append" X.env (eval (.Name x p) X.env) = eval (.Name x p) X.env := by rfl)
    (hfew : ((backTo cpos (starEach [e] X.env)).all (fun x => !x.1) && (backToKw cpos (keywordEach [] X.env)).all (fun x => x.1.isSome) && decide ([e].length + ([] : List Keyword).length + (if ([] : List Keyword).isEmpty then 0 else 1) < 30)) = true := by rfl)
    (hline : (apos.endLine == cpos.line) = true := by rfl) (hpl : (backTo cpos (starEach [] X.env)).any (·.1) = false := by rfl) (hs : swapsWith (.Call (.Attribute (.Name x p) "append" apos) [e] [] cpos) none pos.line X.env = pure false := by rfl) :
    PS X (.Expr (.Call (.Attribute (.Name x p) "append" apos) [e] [] cpos) pos) (tS X.K cl G W (.app i ea)) := by
  refine (ps_expr (pe_bm PySem.F.plainAttrs_list PySem.F.slot_list_append PySem.F.type_list_append mt_append (pe_var hN hv hd hcd) (pa_cons he pa_nil hs1) hbase hfew hline hs1 hpl) hs).imp fun D σ H ⟨dx, ex, base, Pt, m, own, S, g⟩ => ?_
  simp only [exs] at g
  split at g
  · rename_i l eo
    obtain ⟨ad, vs, g0, q1, q2, q3, q4, q5, q6, -⟩ := S.list eo
    refine ⟨.ref ad, q1, tyl q2, dx, ex, base, Pt, m, own, S, ?_⟩
    refine g.st S fun d s _ g v H1 f x1 d1 r1 o1 n1 => ?_
    dsimp only at g
    split at g
    · rename_i hh
      rw [Bool.and_eq_true, decide_eq_true_eq] at hh
      have S1 := S.step x1 d1
      have F := S.fre (n1 hh.1) o1
      obtain ⟨ad', vs', g', w1, w2, w3, w4, w5, w6, w7⟩ := S1.list (i := i) (l := l) eo
      rw [q1] at w1
      cases w1
      obtain ⟨own', S', _⟩ := w7 (l ++ [d]) (vs' ++ [v]) (g' ++ f) (w3.app ⟨v, [], f, [], rfl, by simp, r1, rfl, rfl⟩) (nodup_app w5 F.nd fun a ha hb => (F.no a hb).1 (w6 a ha).1) fun a ha => by
        rcases List.mem_append.mp ha with z | z
        · exact .inl z
        · exact .inr (F.no a z)
      exact ⟨ad, vs', v, rfl, rfl, w2, by rw [w3.len]; exact hh.2, g _ _ own' S'⟩
    · exact g.elim
  · exact g.elim
theorem ms_ext (i : Nat) {x : Str} (he : PE X e (tE X.K cl G W ea)) (hN : X.N[i]? = some x := by rfl) (hv : Vis X.env.scope x := by first | exact Or.inl rfl | exact Or.inr (Or.inl rfl) | exact Or.inr (Or.inr rfl)) (hd : (x == ("__debug__" : Str)) = false := by decide)
    (hcd : (x == ("__classdict__" : Str)) = false := by decide) (hs1 : starEach [e] X.env = (false, eval e X.env) :: starEach [] X.env := by rfl) (hbase : attributeBase (.Name x p) "extend" X.env (eval (.Name x p) X.env) = eval (.Name x p) X.env := by rfl)
    (hfew : ((backTo cpos (starEach [e] X.env)).all (fun x => !x.1) && (backToKw cpos (keywordEach [] X.env)).all (fun x => x.1.isSome) && decide ([e].length + ([] : List Keyword).length + (if ([] : List Keyword).isEmpty then 0 else 1) < 30)) = true := by rfl)
    (hline : (apos.endLine == cpos.line) = true := by rfl) (hpl : (backTo cpos (starEach [] X.env)).any (·.1) = false := by rfl) (hs : swapsWith (.Call (.Attribute (.Name x p) "extend" apos) [e] [] cpos) none pos.line X.env = pure false := by rfl) :
    PS X (.Expr (.Call (.Attribute (.Name x p) "extend" apos) [e] [] cpos) pos) (tS X.K cl G W (.ext i ea)) := by
  refine (ps_expr (pe_bm PySem.F.plainAttrs_list PySem.F.slot_list_extend PySem.F.type_list_extend mt_extend (pe_var hN hv hd hcd) (pa_cons he pa_nil hs1) hbase hfew hline hs1 hpl) hs).imp fun D σ H ⟨dx, ex, base, Pt, m, own, S, g⟩ => ?_
  simp only [exs] at g
  split at g
  · rename_i l eo
    obtain ⟨ad, vs, g0, q1, q2, q3, q4, q5, q6, -⟩ := S.list eo
    refine ⟨.ref ad, q1, tyl q2, dx, ex, base, Pt, m, own, S, ?_⟩
    refine g.st S fun d s ed g v H1 f x1 d1 r1 o1 n1 => ?_
    clear ed
    cases d <;> try exact g.elim
    rename_i r
    dsimp only at g
    split at g
    · rename_i hh
      rw [Bool.and_eq_true, decide_eq_true_eq] at hh
      have S1 := S.step x1 d1
      have F := S.fre (n1 hh.1) o1
      obtain ⟨b, zs, f', rfl, e2, rfl, r2⟩ := r1
      obtain ⟨ad', vs', g', w1, w2, w3, w4, w5, w6, w7⟩ := S1.list (i := i) (l := l) eo
      rw [q1] at w1
      cases w1
      have nf := List.nodup_cons.mp F.nd
      obtain ⟨own', S', _⟩ := w7 (l ++ r) (vs' ++ zs) (g' ++ f') (w3.app r2) (nodup_app w5 nf.2 fun a ha hb => (F.no a (List.mem_cons_of_mem _ hb)).1 (w6 a ha).1) fun a ha => by
        rcases List.mem_append.mp ha with z | z
        · exact .inl z
        · exact .inr (F.no a (List.mem_cons_of_mem _ z))
      exact ⟨ad, b, vs', zs, rfl, rfl, w2, e2, by rw [w3.len, r2.len]; exact hh.2, g _ _ own' S'⟩
    · exact g.elim
  · exact g.elim
theorem ms_setI (i : Nat) {x : Str} (he : PE X e (tE X.K cl G W ea)) (hix : PE X b (tE X.K cl G W eb)) (hN : X.N[i]? = some x := by rfl) (hv : Vis X.env.scope x := by first | exact Or.inl rfl | exact Or.inr (Or.inl rfl) | exact Or.inr (Or.inr rfl)) (hd : (x == ("__debug__" : Str)) = false := by decide)
    (hcd : (x == ("__classdict__" : Str)) = false := by decide) (ha : ∀ v, assign (.Subscript (.Name x p) b p2) X.env v = (do
      let ov ← holding [v] (eval (.Name x p) X.env)
      let iv ← holding [v, ov] (eval b X.env)
      standAt p2
      holding [v, ov, iv] (setItem ov iv v)
      release [v, ov, iv] []) := by intro _; rfl) (hs : swapsWithSole [.Subscript (.Name x p) b p2] e pos.line X.env = pure false := by rfl) (hw : swappedStores [.Subscript (.Name x p) b p2] e X.env = pure none := by rfl)
    (h1 : (assignEach [.Subscript (.Name x p) b p2] X.env).map (·.2) = [assign (.Subscript (.Name x p) b p2) X.env] := by rfl) :
    PS X (.Assign [.Subscript (.Name x p) b p2] e pos) (tS X.K cl G W (.setI i eb ea)) := by
  refine (ps_asg he (pg_sub (pe_var hN hv hd hcd) hix set_list ha) hs hw h1).imp fun D σ H ⟨dx, ex, base, Pt, m, own, S, g⟩ => ⟨dx, ex, base, Pt, m, own, S, ?_⟩
  simp only [exs] at g
  refine g.st S fun d s _ g v H1 f x1 d1 r1 o1 n1 => ?_
  have S1 := S.step x1 d1
  dsimp only at g
  split at g
  · rename_i l eo
    obtain ⟨ad, vs, g0, q1, q2, q3, -⟩ := S1.list (i := i) eo
    refine ⟨.ref ad, q1, dx, ex, base, Pt, _, own, S1, ?_⟩
    refine g.st S1 fun k s' ek g w H2 f2 x2 d2 r2 o2 n2 => ?_
    clear ek
    cases k <;> try exact g.elim
    rename_i k
    dsimp only at g
    split at g
    · rename_i j ej
      split at g
      · rename_i hf
        have S2 := S1.step x2 d2
        have F := S.fre (n1 hf) o1
        obtain ⟨ad', vs', g', w1, w2, w3, w4, w5, w6, w7⟩ := S2.list (i := i) (l := l) eo
        rw [q1] at w1
        cases w1
        obtain ⟨g3, r3, sub3, nd3⟩ := w3.setAt j (r1.mono x2 d1.exl o1)
        obtain ⟨own', S', _⟩ := w7 (l.set j d) (vs'.set j v) g3 r3 (nd3 w5 F.nd fun a ha hb => (F.no a ha).1 (w6 a hb).1) fun a ha => (sub3 a ha).imp id fun z => F.no a z
        exact ⟨ad, vs', k, j, rfl, r2.1, w2, by rw [w3.len]; exact ej, g _ _ own' S'⟩
      · exact g.elim
    · exact g.elim
  · exact g.elim

/-! ### pop -/
theorem popA_core {D : Ends} {σ : L2.St} {H : Hp} {i : Nat} (h : tS X.K cl G W (.popA t i) D σ H) : tBM0 X.K "list" rPop (fun σ H Q => ∃ v, σ[i]? = some (some v) ∧ Q v H) σ H fun v H1 => gT X.K t v σ H1 D.nx := by
  obtain ⟨dx, ex, base, Pt, m, own, S, g⟩ := h
  simp only [exs] at g
  split at g
  · rename_i l eo
    obtain ⟨ad, vs, g0, q1, q2, q3, q4, q5, q6, q7⟩ := S.list eo
    split at g
    · rename_i d el
      split at g
      · rename_i hn
        split at g
        · rename_i v' ev'
          obtain ⟨v, gd, e1, r1⟩ := q3.last el
          obtain ⟨g1, r2, sub2, nd2⟩ := q3.dropLast
          obtain ⟨own', S', _⟩ := q7 l.dropLast vs.dropLast g1 r2 (nd2 q5) fun a ha => .inl (sub2 a ha)
          refine ⟨.ref ad, q1, tyl q2, ad, vs, v, rfl, rfl, q2, e1, ?_⟩
          have e0 := r1.noL hn
          subst e0
          have r1' : Rp X.K dx (upd H ad (.lst vs.dropLast)) d v [] := r1.stb (stb_upd q2 fun z => nomatch z)
          exact bindT_ok (m := { m with v := put m.v i (.lst l.dropLast) }) ev' S' r1' Fre.nil fun σ' own2 S2 _ => g σ' _ own2 S2
        · exact g.elim
      · exact g.elim
    · exact g.elim
  · exact g.elim
theorem popAt_core {D : Ends} {σ : L2.St} {H : Hp} {i : Nat} (h : tS X.K cl G W (.popAt t i eb) D σ H) : tBM X.K "list" rPopAt (fun σ H Q => ∃ v, σ[i]? = some (some v) ∧ Q v H) (tCons (tE X.K cl G W eb) tNil) σ H fun v H1 => gT X.K t v σ H1 D.nx := by
  obtain ⟨dx, ex, base, Pt, m, own, S, g⟩ := h
  simp only [exs] at g
  split at g
  · rename_i l eo
    obtain ⟨ad, vs, g0, q1, q2, q3, q4, q5, q6, -⟩ := S.list eo
    refine ⟨.ref ad, q1, tyl q2, dx, ex, base, Pt, m, own, S, ?_⟩
    refine g.st S fun k s ek g w H1 f x1 d1 r1 o1 n1 => ?_
    clear ek
    cases k <;> try exact g.elim
    rename_i k
    dsimp only at g
    split at g
    · rename_i d r ep
      split at g
      · rename_i hn
        split at g
        · rename_i v' ev'
          have S1 := S.step x1 d1
          obtain ⟨ad', vs', g', w1, w2, w3, w4, w5, w6, w7⟩ := S1.list (i := i) (l := l) eo
          rw [q1] at w1
          cases w1
          unfold popL at ep
          split at ep
          · rename_i j ej
            split at ep
            · rename_i d0 ed
              split at ep
              · rename_i hb
                cases ep
                simp only [Bool.and_eq_true, decide_eq_true_eq] at hb
                obtain ⟨v, gd, e1, r3, _⟩ := w3.get ed
                obtain ⟨g1, r2, sub2, nd2⟩ := w3.erase j
                obtain ⟨own', S', _⟩ := w7 _ _ g1 r2 (nd2 w5) fun a ha => .inl (sub2 a ha)
                refine ⟨ad, vs', k, j, v, rfl, by rw [r1.1], w2, hb.1, hb.2, by rw [w3.len]; exact ej, e1, ?_⟩
                have e0 := r3.noL hn
                subst e0
                have r3' : Rp X.K dx (upd H1 ad (.lst (vs'.eraseIdx j))) d v [] := r3.stb (stb_upd w2 fun z => nomatch z)
                exact bindT_ok (m := { m with s := s, v := put m.v i (.lst (l.eraseIdx j)) }) ev' S' r3' Fre.nil fun σ' own2 S2 _ => g σ' _ own2 S2
              · cases ep
            · cases ep
          · cases ep
        · exact g.elim
      · exact g.elim
    · exact g.elim
  · exact g.elim
theorem ms_popA (i : Nat) {x : Str} (hg : PG X tg (gT X.K t)) (hN : X.N[i]? = some x := by rfl) (hv : Vis X.env.scope x := by first | exact Or.inl rfl | exact Or.inr (Or.inl rfl) | exact Or.inr (Or.inr rfl)) (hd : (x == ("__debug__" : Str)) = false := by decide)
    (hcd : (x == ("__classdict__" : Str)) = false := by decide) (hbase : attributeBase (.Name x p) "pop" X.env (eval (.Name x p) X.env) = eval (.Name x p) X.env := by rfl) (hline : (apos.endLine == cpos.line) = true := by rfl)
    (hs : swapsWithSole [tg] (.Call (.Attribute (.Name x p) "pop" apos) [] [] cpos) pos.line X.env = pure false := by rfl) (hw : swappedStores [tg] (.Call (.Attribute (.Name x p) "pop" apos) [] [] cpos) X.env = pure none := by rfl) (h1 : (assignEach [tg] X.env).map (·.2) = [assign tg X.env] := by rfl) :
    PS X (.Assign [tg] (.Call (.Attribute (.Name x p) "pop" apos) [] [] cpos) pos) (tS X.K cl G W (.popA t i)) :=
  (ps_asg (pe_bm0 PySem.F.plainAttrs_list PySem.F.slot_list_pop PySem.F.type_list_pop mt_pop (pe_var hN hv hd hcd) hbase hline) hg hs hw h1).imp fun _ _ _ => popA_core
theorem ms_popAt (i : Nat) {x : Str} (he : PE X e (tE X.K cl G W eb)) (hg : PG X tg (gT X.K t)) (hN : X.N[i]? = some x := by rfl) (hv : Vis X.env.scope x := by first | exact Or.inl rfl | exact Or.inr (Or.inl rfl) | exact Or.inr (Or.inr rfl)) (hd : (x == ("__debug__" : Str)) = false := by decide)
    (hcd : (x == ("__classdict__" : Str)) = false := by decide) (hs1 : starEach [e] X.env = (false, eval e X.env) :: starEach [] X.env := by rfl) (hbase : attributeBase (.Name x p) "pop" X.env (eval (.Name x p) X.env) = eval (.Name x p) X.env := by rfl)
    (hfew : ((backTo cpos (starEach [e] X.env)).all (fun x => !x.1) && (backToKw cpos (keywordEach [] X.env)).all (fun x => x.1.isSome) && decide ([e].length + ([] : List Keyword).length + (if ([] : List Keyword).isEmpty then 0 else 1) < 30)) = true := by rfl)
    (hline : (apos.endLine == cpos.line) = true := by rfl) (hpl : (backTo cpos (starEach [] X.env)).any (·.1) = false := by rfl)
    (hs : swapsWithSole [tg] (.Call (.Attribute (.Name x p) "pop" apos) [e] [] cpos) pos.line X.env = pure false := by rfl) (hw : swappedStores [tg] (.Call (.Attribute (.Name x p) "pop" apos) [e] [] cpos) X.env = pure none := by rfl) (h1 : (assignEach [tg] X.env).map (·.2) = [assign tg X.env] := by rfl) :
    PS X (.Assign [tg] (.Call (.Attribute (.Name x p) "pop" apos) [e] [] cpos) pos) (tS X.K cl G W (.popAt t i eb)) :=
  (ps_asg (pe_bm PySem.F.plainAttrs_list PySem.F.slot_list_pop PySem.F.type_list_pop mt_popAt (pe_var hN hv hd hcd) (pa_cons he pa_nil hs1) hbase hfew hline hs1 hpl) hg hs hw h1).imp fun _ _ _ => popAt_core

/-! ### raise, try -/
theorem ms_raise {k : Nat} {x m : Str} {j : Nat} {C : Addr} {bmB : List Value} {B newId initId : String} (hc : X.calm = true) (tk : Takes X W) (F : ExcBaseFacts B newId initId bmB) (q : PySem.W.excIn X.K C bmB newId = true) (gC : X.mg x = some (.ref C)) (kC : PySem.W.keepIn X.K (.ref C) = true) (r : Raises X (.ref C)) (hg : Gl X x)
    (ec : cl k = .ref C) (hdb : (x == ("__debug__" : Str)) = false := by decide) : PS X (.Raise (some (.Call (.Name x p) [.Constant (.str m) j p2] [] p3)) none pos) (tS X.K cl G W (.rais k)) := by
  refine (ps_raise hc tk (pmk_own F q gC kC r hg hdb)).imp fun D σ H ⟨dx, ex, base, Pt, mm, own, S, g⟩ => ?_
  rw [← ec]
  exact g σ H own S
/-- the clauses of a try, as the machine reads them -/
inductive MH (X : Cx) (cl : Nat → Value) (G : Gm) : List ExceptHandler → Sm → Prop
  | nil : MH X cl G [] .hnil
  | cons {x : Str} {k : Nat} {s : Sm} {b₀ : Stmt} {suite : List Stmt} {np pos' : Pos} {hds : List ExceptHandler} {r : Sm} (hc : Names X x (cl k)) (hx : ∀ j, PySem.W.exmOne X.K (cl j) (cl k) = some (decide (k = 0 ∨ k = j)))
      (hs : ∀ (a : Addr) (oe : Obj) (pn : List (Addr × Obj)), PSs (X.suite a ((a, oe) :: pn)) (b₀ :: suite) (tS X.K cl G W0 s)) (h : MH X cl G hds r) : MH X cl G (.ExceptHandler (some (.Name x np)) none (b₀ :: suite) pos' :: hds) (.hcons k s r)
def hdsL (K : PySem.W.Frag) (cl : Nat → Value) (G : Gm) : Sm → List (Value × (Addr → Value → Option Addr → TS))
  | .hcons k s r => (cl k, fun _ _ _ => tS K cl G W0 s) :: hdsL K cl G r
  | _ => []
theorem MH.ok {hds : List ExceptHandler} {s : Sm} (h : MH X cl G hds s) : HdsOk X hds (hdsL X.K cl G s) := by
  induction h with
  | nil => exact .nil
  | cons hc hx hs h ih => exact .cons hc (fun a oe cls d pn hz hv => hs a oe pn) ih
theorem hdl_core {hds : List ExceptHandler} {s : Sm} (h : MH X cl G hds s) {dx : Addr × Addr} {ex : List Addr} {base : Hp} {Pt : List (Addr → Prop)} {D : Ends} {j : Nat} {m : Ms} (g : GdS X.K cl W dx ex base Pt (exs.hdl G s j m) D) {σ : L2.St} {H : Hp} {own : List Addr} (S : SR X.K dx ex base Pt m σ H own) :
    wMany X.K W D (hdsL X.K cl G s) (cl j) none σ H := by
  induction h with
  | nil => exact g σ H own S
  | @cons x k s b₀ suite np pos' hds r hc hx hs h ih =>
    refine ⟨_, hx j, fun e a _ => ?_, fun e => ?_⟩
    · have e := of_decide_eq_true e
      simp only [exs.hdl, if_pos e] at g
      refine ⟨dx, ex, base, Pt, m, own, S, ?_⟩
      cases e2 : exs G s m with
      | er c m' => rw [e2] at g; exact g.elim
      | nx m' => rw [e2] at g; exact g
      | bk m' => rw [e2] at g; exact g
      | ct m' => rw [e2] at g; exact g
      | rt d s' => rw [e2] at g; exact g
      | bad => rw [e2] at g; exact g.elim
    · have e := of_decide_eq_false e
      simp only [exs.hdl, if_neg e] at g
      exact ih g
theorem ms_try {body : List Stmt} {h₀ : ExceptHandler} {hds : List ExceptHandler} {s : Sm} (hs : X.stack = X.env :: X.outer) (hf : X.env.frame = some X.env.locals) (tk : Takes X W)
    (hb : ∀ (W : WX) (pn : List (Addr × Obj)) (xe : Value → Shared → Prop), Takes (X.tr pn xe) W → PassesOwn (model X.prog X.w) X.A X.env xe → PSs (X.tr pn xe) body (tS X.K cl G W sa)) (hh : MH X cl G (h₀ :: hds) s) : PS X (.Try body (h₀ :: hds) [] [] pos) (tS X.K cl G W (.tryS sa s)) := by
  refine (ps_try_many hs hf tk hb hh.ok).imp fun D σ H ⟨dx, ex, base, Pt, m, own, S, g⟩ => ⟨dx, ex, base, Pt, m, own, S, ?_⟩
  simp only [exs] at g
  cases e : exs G sa m with
  | er c m' =>
    rw [e] at g
    exact fun σ' H' own' S' => hdl_core hh g S'
  | nx m' => rw [e] at g; exact g
  | bk m' => rw [e] at g; exact g
  | ct m' => rw [e] at g; exact g
  | rt d s' => rw [e] at g; exact g
  | bad => rw [e] at g; exact g.elim
end
end BX

set_option Elab.async false
set_option linter.all false
set_option maxRecDepth 100000
set_option maxHeartbeats 4000000
namespace BX
open PySem PySem.Spec PyProof.Rows L2

/-! ## 10. loops -/
/-- a heap without some lists -/
def cutH (H : Hp) (own : List Addr) : Hp := fun a => if a ∈ own then none else H a
section
variable {K : PySem.W.Frag} {a0 : Addr × Addr} {dx : Addr × Addr} {ex : List Addr} {base base' H H' H1 : Hp} {Pt : List (Addr → Prop)} {m : Ms} {σ : L2.St} {own : List Addr}
theorem SlOk.unp {P : Addr → Prop} : ∀ {sv : SV} {o : Option V} {f : List Addr}, SlOk K a0 ex (Pt ++ [P]) H sv o f → SlOk K a0 ex Pt H (unp Pt.length sv) o f
  | .no, _, _, h => h
  | .own d, o, f, h => h
  | .pin k d, o, f, h => by
    obtain ⟨hf, v, g, Q, e, r, og, hk, hg⟩ := h
    show SlOk K a0 ex Pt H (if Pt.length ≤ k then (if noL d then .own d else .no) else .pin k d) o f
    by_cases c : Pt.length ≤ k
    · rw [if_pos c]
      by_cases n : noL d = true
      · rw [if_pos n]
        refine ⟨v, e, ?_⟩
        rw [hf, ← r.noL n]
        exact r
      · rw [if_neg n]
        exact hf
    · rw [if_neg c]
      rw [List.getElem?_append_left (by omega)] at hk
      exact ⟨hf, v, g, Q, e, r, og, hk, hg⟩
  | .lck k d, o, f, h => by
    obtain ⟨hf, v, g, Q, e, r, og, hk, hg, nd⟩ := h
    show SlOk K a0 ex Pt H (if Pt.length ≤ k then (if noL d then .own d else .no) else .lck k d) o f
    by_cases c : Pt.length ≤ k
    · rw [if_pos c]
      by_cases n : noL d = true
      · rw [if_pos n]
        refine ⟨v, e, ?_⟩
        rw [hf, ← r.noL n]
        exact r
      · rw [if_neg n]
        exact hf
    · rw [if_neg c]
      rw [List.getElem?_append_left (by omega)] at hk
      exact ⟨hf, v, g, Q, e, r, og, hk, hg, nd⟩
theorem Sls.unp {P : Addr → Prop} : ∀ {v : List SV} {σ : L2.St} {f : List Addr}, Sls K a0 ex (Pt ++ [P]) H v σ f → Sls K a0 ex Pt H (v.map (unp Pt.length)) σ f
  | [], _, _, h => h
  | s :: r, σ, f, h => by
    obtain ⟨o, τ, f1, f2, e1, e2, h1, h2⟩ := h
    exact ⟨o, τ, f1, f2, e1, e2, h1.unp, Sls.unp h2⟩
theorem SR.unp {P : Addr → Prop} {n : Nat} (S : SR K dx ex base' (Pt ++ [P]) m σ H own) (hn : Pt.length = n) (x : Xt ex base base') : SR K dx ex base Pt (unpM n m) σ H own := by
  subst hn
  exact ⟨x.trans S.xt, S.dr, rfl, S.sl.unp, S.nd, S.out, fun a ha => x.free (S.out a ha) (S.new a ha), fun Q hQ a ha => S.pt Q (List.mem_append_left _ hQ) a ha⟩
theorem SlOk.push {P : Addr → Prop} : ∀ {sv : SV} {o : Option V} {f : List Addr}, SlOk K a0 ex Pt H sv o f → SlOk K a0 ex (Pt ++ [P]) H sv o f
  | .no, _, _, h => h
  | .own d, o, f, h => h
  | .pin k d, o, f, h => by
    obtain ⟨hf, v, g, Q, e, r, og, hk, hg⟩ := h
    exact ⟨hf, v, g, Q, e, r, og, by rw [List.getElem?_append_left (List.getElem?_eq_some_iff.mp hk).1]; exact hk, hg⟩
  | .lck k d, o, f, h => by
    obtain ⟨hf, v, g, Q, e, r, og, hk, hg⟩ := h
    exact ⟨hf, v, g, Q, e, r, og, by rw [List.getElem?_append_left (List.getElem?_eq_some_iff.mp hk).1]; exact hk, hg⟩
theorem Sls.push {P : Addr → Prop} : ∀ {v : List SV} {σ : L2.St} {f : List Addr}, Sls K a0 ex Pt H v σ f → Sls K a0 ex (Pt ++ [P]) H v σ f
  | [], _, _, h => h
  | s :: r, σ, f, h => by
    obtain ⟨o, τ, f1, f2, e1, e2, h1, h2⟩ := h
    exact ⟨o, τ, f1, f2, e1, e2, h1.push, Sls.push h2⟩
theorem less_none {own : List Addr} {a : Addr} (h : a ∈ own) : cutH H own a = none := if_pos h
theorem less_some {own : List Addr} {a : Addr} (h : a ∉ own) : cutH H own a = H a := if_neg h
theorem xt_less {own : List Addr} : Xt ex (cutH H own) H := fun b o h _ => by
  by_cases hb : b ∈ own
  · rw [less_none hb] at h; cases h
  · rw [less_some hb] at h; exact h
/-- a level more: f is kept -/
theorem SR.push (S : SR K dx ex base Pt m σ H own) {f : List Addr} (o : Out ex f) (hd : ∀ a, a ∈ f → ∃ xs, H a = some (.lst xs)) (dj : ∀ a, a ∈ f → a ∉ own) :
    SR K dx ex (cutH H own) (Pt ++ [fun a => a ∈ f]) { m with lv := m.lv + 1 } σ H own ∧ Xt ex base (cutH H own) := by
  refine ⟨⟨xt_less, S.dr, by rw [List.length_append, S.lv]; rfl, S.sl.push, S.nd, S.out, fun a ha => less_none ha, fun P hP a ha => ?_⟩, fun b ob hb nb => ?_⟩
  · rcases List.mem_append.mp hP with hP | hP
    · exact S.pt P hP a ha
    · rw [List.mem_singleton.mp hP] at ha
      exact ⟨dj a ha, o a ha, hd a ha⟩
  · rw [less_some fun z => by rw [S.new b z] at hb; cases hb]
    exact S.xt b ob hb nb
theorem Stb.less {f : List Addr} (x : Xt ex (cutH H own) H') (e : ExL ex H) (o : Out ex f) (hd : ∀ a, a ∈ own → ∃ xs, H a = some (.lst xs)) (dj : ∀ a, a ∈ f → a ∉ own) : Stb f H H' := fun b ob hb n => by
  have nown : b ∉ own := fun z => by
    obtain ⟨xs, q⟩ := hd b z
    rw [hb] at q
    cases q
    exact dj b (n ⟨_, rfl⟩) z
  refine x b ob (by rw [less_some nown]; exact hb) fun z => ?_
  obtain ⟨xs, q⟩ := e b z ob hb
  exact o b (n ⟨xs, q⟩) z
end
section
variable {X : Cx} {cl : Nat → Value} {G : Gm} {W : WX} {pos p : Pos} {a b c e tg iter : Expr} {ea eb ec src : Ex} {sa sb : Sm} {t : Tg} {st : Stmt} {body : List Stmt}
theorem for_core {D : Ends} {σ : L2.St} {H : Hp} (h : tS X.K cl G W (.forS t src sb) D σ H) : tFor (tI X.K cl G W src) (gT X.K t) (tS X.K cl G W sb) D σ H := by
  obtain ⟨dx, ex, base, Pt, m, own, S, g⟩ := h
  refine ⟨dx, ex, base, Pt, m, own, S, ?_⟩
  simp only [exs] at g
  refine g.st S fun l s _ g => ?_
  dsimp only at g
  split at g
  · rename_i its ei
    split at g
    · rename_i hfr
      refine ⟨its, ei, fun J H1 f x1 d1 o1 fd dj wk => ?_⟩
      have S1 := S.step x1 d1
      have dj1 := dj hfr
      obtain ⟨S2, xb⟩ := S1.push o1 fd dj1
      have hown := S1.sl.dom
      have hlv := S.lv
      refine for_it wk (fun i σ' H' => ∃ m' own', SR X.K dx ex (cutH H1 own) (Pt ++ [fun a => a ∈ f]) m' σ' H' own' ∧ GdS X.K cl W dx ex base Pt ((forL t m.lv (exs G sb) (its.drop i) m').mp (unpM m.lv)) D) ⟨_, own, S2, g⟩ ?_ ?_ ?_
      · rintro i σ' H' _ ⟨m', own', S', _⟩
        exact Stb.less S'.xt d1.exl o1 hown dj1
      · rintro i x σ' H' H'' hi ⟨m', own', S', g'⟩ ⟨d, gd, e2, rd, gs, sm⟩
        have ed : its.drop i = d :: its.drop (i + 1) := by
          rw [List.drop_eq_getElem_cons hi]
          congr 1
          rw [List.getElem?_eq_getElem hi] at e2
          exact Option.some.inj e2
        rw [ed] at g'
        have S3 := S'.step (s' := m'.s) (.of_same sm) (S'.dr.same sm)
        cases ev' : bindP m.lv t d m'.v with
        | none =>
          unfold forL at g'
          rw [ev'] at g'
          exact g'.elim
        | some v' =>
          have hP : (Pt ++ [fun a => a ∈ f])[m.lv]? = some (fun a => a ∈ f) := by
            rw [← hlv, List.getElem?_append_right (Nat.le_refl _)]
            simp
          refine bindP_ok hP (vs := tgN t) (m := { m' with s := m'.s }) ev' S3 rd (fun a ha => o1 a (gs a ha)) gs (fun _ z => z) fun σ2 own2 S4 _ _ => ?_
          refine ⟨dx, ex, cutH H1 own, _, _, own2, S4, ?_⟩
          have g2 : GdS X.K cl W dx ex base Pt (RS.mp (unpM m.lv) (match exs G sb { m' with v := v' } with
            | .nx m2 => forL t m.lv (exs G sb) (its.drop (i + 1)) m2
            | .ct m2 => forL t m.lv (exs G sb) (its.drop (i + 1)) m2
            | .bk m2 => .nx m2
            | .rt d s => .rt d s
            | .er c m2 => .er c m2
            | .bad => .bad)) D := by
            have z := g'
            unfold forL at z
            rw [ev'] at z
            exact z
          show GdS X.K cl W dx ex (cutH H1 own) _ (exs G sb { m' with v := v' }) _
          cases e3 : exs G sb { m' with v := v' } with
          | nx m2 =>
            rw [e3] at g2
            exact fun σ3 H3 own3 S5 => ⟨m2, own3, S5, g2⟩
          | ct m2 =>
            rw [e3] at g2
            exact fun σ3 H3 own3 S5 => ⟨m2, own3, S5, g2⟩
          | bk m2 =>
            rw [e3] at g2
            exact fun σ3 H3 own3 S5 => g2 σ3 H3 own3 (S5.unp hlv xb)
          | rt dd s2 =>
            rw [e3] at g2
            exact fun v H3 fv y1 y2 y3 y4 y5 => g2 v H3 fv (xb.trans y1) y2 y3 y4 ⟨y5.1, fun a ha => xb.free (y4 a ha) (y5.2 a ha)⟩
          | er c m2 =>
            rw [e3] at g2
            exact fun σ3 H3 own3 S5 => g2 σ3 H3 own3 (S5.unp hlv xb)
          | bad =>
            rw [e3] at g2
            exact g2.elim
      · rintro σ' H' ⟨m', own', S', g'⟩
        rw [List.drop_length] at g'
        exact g' σ' H' own' (S'.unp hlv xb)
    · exact g.elim
  · exact g.elim
theorem ms_for (hp : PassesOwn (model X.prog X.w) X.A X.env X.xe) (hc : X.calm = true) (hi : PI X tg iter (tI X.K cl G W src)) (hg : PG X tg (gT X.K t)) (hb : PSs X body (tS X.K cl G W sb)) (hs : ∀ x, foldedSetIterable iter X.env x = pure x := by intro _; rfl) :
    PS X (.For tg iter body [] pos) (tS X.K cl G W (.forS t src sb)) := (ps_for hp hc hi hg hb hs).imp fun _ _ _ => for_core
theorem while_core {D : Ends} {σ : L2.St} {H : Hp} (h : tS X.K cl G W (.wh ec sb) D σ H) : tWhile (tT X.K cl G W ec) (tS X.K cl G W sb) D σ H := by
  obtain ⟨dx, ex, base, Pt, m, own, S, g⟩ := h
  simp only [exs] at g
  refine ⟨fun n σ' H' => ∃ m' own', SR X.K dx ex base Pt m' σ' H' own' ∧ GdS X.K cl W dx ex base Pt (whL (fun m => ev G ec true m.v m.s) (exs G sb) n m') D, ⟨fuelW, m, own, S, g⟩, ?_⟩
  rintro n σ' H' ⟨m', own', S', g'⟩
  cases n with
  | zero => exact g'.elim
  | succ n =>
    refine ⟨dx, ex, base, Pt, m', own', S', ?_⟩
    unfold whL at g'
    show Gd cl W dx ex σ' H' (ev G ec true m'.v m'.s) _
    cases e1 : ev G ec true m'.v m'.s with
    | bad => rw [e1] at g'; exact g'.elim
    | er c s =>
      rw [e1] at g'
      exact fun H2 x d => g' _ _ _ (S'.step x d)
    | ok d s =>
      rw [e1] at g'
      cases d with
      | bl k =>
        refine ⟨k, rfl, fun H2 x2 d2 => ?_⟩
        have S2 := S'.step x2 d2
        cases k with
        | true =>
          dsimp only
          rw [if_pos rfl]
          refine ⟨fun σ3 H3 => ∃ m3 own3, SR X.K dx ex base Pt m3 σ3 H3 own3 ∧ GdS X.K cl W dx ex base Pt (whL (fun m => ev G ec true m.v m.s) (exs G sb) n m3) D, fun σ3 H3 w => ⟨n, Nat.lt_succ_self n, w⟩, dx, ex, base, Pt, _, own', S2, ?_⟩
          dsimp only at g'
          cases e3 : exs G sb { m' with s := s } with
          | nx m2 =>
            rw [e3] at g'
            exact fun σ3 H3 own3 S5 => ⟨m2, own3, S5, g'⟩
          | ct m2 =>
            rw [e3] at g'
            exact fun σ3 H3 own3 S5 => ⟨m2, own3, S5, g'⟩
          | bk m2 => rw [e3] at g'; exact g'
          | rt dd s2 => rw [e3] at g'; exact g'
          | er c m2 => rw [e3] at g'; exact g'
          | bad => rw [e3] at g'; exact g'.elim
        | false =>
          dsimp only
          rw [if_neg (by decide)]
          exact g' σ' H2 own' S2
      | _ => exact g'.elim
theorem ms_while (hp : PassesOwn (model X.prog X.w) X.A X.env X.xe) (hc : PT X c (tT X.K cl G W ec)) (hb : PSs X body (tS X.K cl G W sb)) : PS X (.While c body [] pos) (tS X.K cl G W (.wh ec sb)) := (ps_while hp hc hb).imp fun _ _ _ => while_core
/-- a list that a loop walks, or that it asks of, is kept as it is for the time -/
theorem lock_core {D : Ends} {σ : L2.St} {H : Hp} {i : Nat} (h : tS X.K cl G W (.lock i sa) D σ H) : tS X.K cl G W sa D σ H := by
  obtain ⟨dx, ex, base, Pt, m, own, S, g⟩ := h
  simp only [exs] at g
  split at g
  · rename_i d e
    obtain ⟨o, p, f, q, q1, q2, ⟨v, ev, r⟩, q4⟩ := S.sl.at_ e
    have nd := S.nd
    rw [q2] at nd
    have n1 := List.nodup_append.mp nd
    have n2 := List.nodup_append.mp n1.2.1
    have sub : ∀ a, a ∈ p ++ q → a ∈ own := fun a ha => by
      rw [q2]
      simp only [List.mem_append] at ha ⊢
      exact ha.imp id .inr
    have fo : ∀ a, a ∈ f → a ∈ own := fun a ha => by rw [q2]; simp [ha]
    have dj : ∀ a, a ∈ f → a ∉ p ++ q := fun a ha hb => by
      rcases List.mem_append.mp hb with hb | hb
      · exact n1.2.2 a hb a (List.mem_append_left _ ha) rfl
      · exact n2.2.2 a ha a hb rfl
    have out : Out ex f := fun a ha => S.out a (fo a ha)
    have nd' : (p ++ q).Nodup := nodup_app n1.1 n2.2.1 fun a ha hb => n1.2.2 a ha a (List.mem_append_right _ hb) rfl
    -- the state without the list, then a level more
    have eσ : σ.set i o = σ := by
      have hi : i < σ.length := (List.getElem?_eq_some_iff.mp q1).1
      have e' := (List.getElem?_eq_some_iff.mp q1).2
      rw [← e']
      exact List.set_getElem_self hi
    have s2 := q4 (Pt ++ [fun a => a ∈ f]) H (.lck m.lv d) o [] (fun _ _ _ _ h => h.push) ⟨rfl, v, f, _, ev, r, out, by rw [← S.lv, List.getElem?_append_right (Nat.le_refl _)]; simp, fun _ z => z, n2.1⟩
    rw [eσ] at s2
    have xb : Xt ex base (cutH H (p ++ q)) := fun b ob hb nb => by
      rw [less_some fun z => by rw [S.new b (sub b z)] at hb; cases hb]
      exact S.xt b ob hb nb
    have S2 : SR X.K dx ex (cutH H (p ++ q)) (Pt ++ [fun a => a ∈ f]) { m with v := m.v.set i (.lck m.lv d), lv := m.lv + 1 } σ H (p ++ ([] ++ q)) := by
      refine ⟨xt_less, S.dr, by rw [List.length_append, S.lv]; rfl, s2, nd', fun a ha => S.out a (sub a ha), fun a ha => less_none ha, fun P hP a ha => ?_⟩
      rcases List.mem_append.mp hP with hP | hP
      · exact ⟨fun z => (S.pt P hP a ha).1 (sub a z), (S.pt P hP a ha).2⟩
      · rw [List.mem_singleton.mp hP] at ha
        exact ⟨dj a ha, out a ha, r.dom a ha⟩
    have back : ∀ {m2 : Ms} {σ2 : L2.St} {H2 : Hp} {own2 : List Addr}, SR X.K dx ex (cutH H (p ++ q)) (Pt ++ [fun a => a ∈ f]) m2 σ2 H2 own2 → ∃ own3, SR X.K dx ex base Pt (unlM i m.lv m2) σ2 H2 own3 := by
      intro m2 σ2 H2 own2 S3
      have S4 := S3.unp S.lv xb
      unfold unlM
      split
      · rename_i k d2 e2
        split
        · rename_i ek
          subst ek
          obtain ⟨o3, p3, f3, q3, w1, w2, ⟨_, v3, g3, P3, ev3, r3, og3, hk3, hg3, nd3⟩, _⟩ := S3.sl.at_ e2
          have hP3 : P3 = fun a => a ∈ f := by
            rw [← S.lv, List.getElem?_append_right (Nat.le_refl _)] at hk3
            simpa using hk3.symm
          subst hP3
          have hl : i < (unpM m.lv m2).v.length := by
            have z := (List.getElem?_eq_some_iff.mp e2).1
            simpa [unpM] using z
          have F : Fre ex base Pt own2 g3 := ⟨nd3, fun a ha => by
            have hf := hg3 a ha
            exact ⟨(S3.pt _ (List.mem_append_right _ List.mem_cons_self) a hf).1, out a hf, S.new a (fo a hf), fun P hP z => (S.pt P hP a z).1 (fo a hf)⟩⟩
          obtain ⟨own3, S5, _⟩ := S4.set (i := i) (d := d2) (u := v3) hl r3 F
          have eσ2 : σ2.set i (some v3) = σ2 := by
            rw [ev3] at w1
            have hi : i < σ2.length := (List.getElem?_eq_some_iff.mp w1).1
            have e' := (List.getElem?_eq_some_iff.mp w1).2
            rw [← e']
            exact List.set_getElem_self hi
          rw [eσ2] at S5
          exact ⟨own3, S5⟩
        · exact ⟨own2, S4⟩
      · exact ⟨own2, S4⟩
    refine ⟨dx, ex, _, _, _, _, S2, ?_⟩
    cases e3 : exs G sa { m with v := m.v.set i (.lck m.lv d), lv := m.lv + 1 } with
    | nx m2 =>
      rw [e3] at g
      exact fun σ3 H3 own3 S5 => let ⟨own4, S6⟩ := back S5; g σ3 H3 own4 S6
    | ct m2 =>
      rw [e3] at g
      exact fun σ3 H3 own3 S5 => let ⟨own4, S6⟩ := back S5; g σ3 H3 own4 S6
    | bk m2 =>
      rw [e3] at g
      exact fun σ3 H3 own3 S5 => let ⟨own4, S6⟩ := back S5; g σ3 H3 own4 S6
    | rt dd s2 =>
      rw [e3] at g
      exact fun v H3 fv y1 y2 y3 y4 y5 => g v H3 fv (xb.trans y1) y2 y3 y4 ⟨y5.1, fun a ha => xb.free (y4 a ha) (y5.2 a ha)⟩
    | er c m2 =>
      rw [e3] at g
      exact fun σ3 H3 own3 S5 => let ⟨own4, S6⟩ := back S5; g σ3 H3 own4 S6
    | bad =>
      rw [e3] at g
      exact g.elim
  · exact ⟨dx, ex, base, Pt, m, own, S, g⟩
theorem ms_lock (i : Nat) (h : PS X st (tS X.K cl G W sa)) : PS X st (tS X.K cl G W (.lock i sa)) := h.imp fun _ _ _ => lock_core
end
end BX

set_option Elab.async false
set_option linter.all false
set_option maxRecDepth 100000
set_option maxHeartbeats 4000000
namespace BX
open PySem PySem.Spec PyProof.Rows L2

/-! ## 11. defs -/
section
variable {K : PySem.W.Frag} {a0 : Addr × Addr} {dx : Addr × Addr} {ex : List Addr} {H : Hp} {P0 : Addr → Prop}
theorem sls_no : ∀ n : Nat, Sls K a0 ex [P0] H (List.replicate n .no) (List.replicate n none) []
  | 0 => ⟨rfl, rfl⟩
  | n + 1 => ⟨none, _, [], [], rfl, rfl, rfl, sls_no n⟩
theorem sls_args : ∀ {l : List D} {vs : List V} {f : List Addr} {sv : List SV} {τ : L2.St}, Rps K a0 H l vs f → Out ex f → (∀ a, a ∈ f → P0 a) → Sls K a0 ex [P0] H sv τ [] → Sls K a0 ex [P0] H (l.map (.pin 0) ++ sv) (vs.map some ++ τ) []
  | [], _, _, _, _, r, _, _, s => by
    rw [r.1]
    exact s
  | d :: l, vs, f, sv, τ, r, o, hp, s => by
    obtain ⟨v, ws, f1, f2, e1, e2, h1, h2⟩ := r
    subst e1 e2
    exact ⟨some v, _, [], [], rfl, rfl, ⟨rfl, v, f1, P0, rfl, h1, o.left, rfl, fun a ha => hp a (List.mem_append_left _ ha)⟩, sls_args h2 o.right (fun a ha => hp a (List.mem_append_right _ ha)) s⟩
end
section
variable {P : Program} {w : World} {K : PySem.W.Frag} {mg : Str → Option Value} {base : Heap} {x qual : Str} {params : Arguments} {body : List Stmt} {scope : Scope} {f : Addr} {fd : FuncData} {cl : Nat → Value} {tbl : Nat → Option Fd}
/-- at no room nothing is promised -/
theorem ok_zero {ps : List Str} {k : Nat} : FnOk P w K mg base (L2.CX P w) 0 f fd ps (spF K cl (Fn tbl 0 k)) := by
  refine ⟨fun vs H Q E h => ?_, fun A outer s H args us vs Q E _ _ _ _ h => ?_⟩
  · obtain ⟨dx, ex, args, f0, s, _, _, _, g⟩ := h
    exact g.elim
  · obtain ⟨dx, ex, args, f0, s, _, _, _, g⟩ := h
    exact g.elim
theorem ok_fn {n k : Nat} {sm : Sm} {N ps : List Str} (F : FunD K x qual params body scope [] [] f fd) (S : FnScope N ps scope) (ht : tbl k = some ⟨sm, N.length, ps.length⟩)
    (hb : ∀ (cdv : Value) (A : Around) (outer : List Env) (s : Shared) (H : Hp) (E : XK), Room n (A.deeper (envOfC qual scope s.heap.objs.size f cdv)) →
      PSs (cxOf (L2.CX P w) P w K mg base N qual scope f cdv A outer s H E) body (tS K cl ⟨Fn tbl n⟩ (fun c d _ H => E c d H) sm)) : FnOk P w K mg base (L2.CX P w) (n + 1) f fd ps (spF K cl (Fn tbl (n + 1) k)) := by
  have sl : ∀ {args : List D} {s : Option DS}, Fn tbl (n + 1) k args s = (if args.length = ps.length then (match exs ⟨Fn tbl n⟩ sm ⟨args.map (.pin 0) ++ List.replicate (N.length - args.length) .no, s, 1⟩ with
      | .rt d s => .ok d s
      | .nx m => .ok .non m.s
      | .er c m => .er c m.s
      | _ => .bad) else .bad) := fun {args s} => by
    simp only [Fn, ht]
    rfl
  refine F.ok S (fun vs H Q E h => ?_) fun cdv A outer s H vs Q E hr h => ⟨_, hb cdv A outer s H E hr, ?_⟩
  · obtain ⟨dx, ex, args, f0, s, r, _, _, g⟩ := h
    rw [sl] at g
    split at g
    · rw [r.len]; assumption
    · exact g.elim
  · obtain ⟨dx, ex, args, f0, s, r, o, d, g⟩ := h
    rw [sl] at g
    split at g
    · rename_i hl
      have hlv : vs.length = args.length := r.len
      refine ⟨dx, ex, H, [fun a => a ∈ f0], ⟨args.map (.pin 0) ++ List.replicate (N.length - args.length) .no, s, 1⟩, [], ⟨Xt.refl, d, rfl, ?_, List.nodup_nil, Out.nil, fun _ z => (nomatch z), fun Q hQ a ha => ?_⟩, ?_⟩
      · unfold L2.start
        rw [← hlv]
        exact sls_args r o (fun _ z => z) (sls_no _)
      · rw [List.mem_singleton.mp hQ] at ha
        exact ⟨fun z => (nomatch z), o a ha, r.dom a ha⟩
      · cases e : exs ⟨Fn tbl n⟩ sm ⟨args.map (.pin 0) ++ List.replicate (N.length - args.length) .no, s, 1⟩ with
        | nx m =>
          rw [e] at g
          exact fun σ' H' own' S' => g .non H' [] S'.xt S'.dr ⟨rfl, rfl⟩ Out.nil fun _ => New.nil
        | rt dd s' =>
          rw [e] at g
          exact fun v H' f' a1 a2 a3 a4 a5 => g v H' f' a1 a2 a3 a4 fun _ => a5
        | er c m =>
          rw [e] at g
          exact fun σ' H' own' S' => g H' S'.xt S'.dr
        | bk m => rw [e] at g; exact g.elim
        | ct m => rw [e] at g; exact g.elim
        | bad => rw [e] at g; exact g.elim
    · exact g.elim

/-! ### the law itself -/
/-- what is to be shown of the law: its deal is laid, then the rest says True -/
def LawR (tbl : Nat → Option Fd) (n kd N : Nat) (rest : Sm) (ns : List Int) : Prop :=
  ∃ cells big mix s0 s1, Fn tbl n kd [.frz ns] none = .ok (.lst [.lst (cells.map .int), .int big, .int mix]) s0 ∧
    exs ⟨Fn tbl n⟩ rest ⟨.pin 0 (.frz ns) :: .own (.dl false) :: List.replicate (N - 2) .no, some ⟨cells, big, mix⟩, 1⟩ = .rt (.bl true) s1
def spLaw (K : PySem.W.Frag) (R : List Int → Prop) : Sp := fun vs H Q _ => ∃ (a : Addr) (ns : List Int), vs = [.ref a] ∧ FzL K H a (ns.map V.int) ∧ R ns ∧ ∀ H', Q (.bl true) H'
theorem ints_of : ∀ {l : List Int} {vs : List V} {g : List Addr} {a0 : Addr × Addr} {H : Hp}, Rps K a0 H (l.map D.int) vs g → vs = l.map V.int ∧ g = []
  | [], _, _, _, _, h => ⟨h.1, h.2⟩
  | i :: r, vs, g, a0, H, h => by
    obtain ⟨v, ws, f1, f2, e1, e2, h1, h2⟩ := h
    obtain ⟨e3, e4⟩ := ints_of h2
    rw [e1, e2, h1.1, h1.2, e3, e4]
    exact ⟨rfl, rfl⟩
theorem ok_law {n kd : Nat} {st0 : Stmt} {sts : List Stmt} {rest : Sm} {N : List Str} {p0 p1 : Str} {Nr : List Str} (F : FunD K x qual params (st0 :: sts) scope [] [] f fd) (S : FnScope N [p0] scope) (hN : N = p0 :: p1 :: Nr)
    (h0 : ∀ (cdv : Value) (A : Around) (outer : List Env) (s : Shared) (H : Hp) (E : XK), Room n (A.deeper (envOfC qual scope s.heap.objs.size f cdv)) →
      PS (cxOf (L2.CX P w) P w K mg base N qual scope f cdv A outer s H E) st0 (tS K cl ⟨Fn tbl n⟩ (fun c d _ H => E c d H) (.asg (.nm 1) (.pcl kd (.cons (.var 0) .nil)))))
    (h1 : ∀ (cdv : Value) (A : Around) (outer : List Env) (s : Shared) (H : Hp) (E : XK), Room n (A.deeper (envOfC qual scope s.heap.objs.size f cdv)) →
      PSs (cxOf (L2.CX P w) P w K mg base N qual scope f cdv A outer s H E) sts (tS K cl ⟨Fn tbl n⟩ (fun c d _ H => E c d H) rest)) :
    FnOk P w K mg base (L2.CX P w) (n + 1) f fd [p0] (spLaw K (LawR tbl n kd N.length rest)) := by
  refine F.ok S (fun vs H Q E h => ?_) fun cdv A outer s H vs Q E hr h => ⟨_, pss_cons (h0 cdv A outer s H E hr) (h1 cdv A outer s H E hr), ?_⟩
  · obtain ⟨a, ns, rfl, _⟩ := h
    rfl
  · obtain ⟨a, ns, rfl, hz, ⟨cells, big, mix, s0, s1, hd, hrest⟩, hq⟩ := h
    have ra : Rps K (0, 0) H [.frz ns] [.ref a] [] := ⟨.ref a, [], [], [], rfl, rfl, ⟨⟨a, rfl, hz⟩, rfl⟩, rfl, rfl⟩
    refine ⟨(0, 0), [], H, [fun _ => False], ⟨.pin 0 (.frz ns) :: .no :: List.replicate (N.length - 2) .no, none, 1⟩, [], ⟨Xt.refl, rfl, rfl, ?_, List.nodup_nil, Out.nil, fun _ z => (nomatch z), fun Q hQ b hb => ?_⟩, ?_⟩
    · subst hN
      exact sls_args (l := [.frz ns]) ra Out.nil (fun _ z => nomatch z) (sls_no (Nr.length + 1))
    · rw [List.mem_singleton.mp hQ] at hb
      exact hb.elim
    · have e : exs ⟨Fn tbl n⟩ (.asg (.nm 1) (.pcl kd (.cons (.var 0) .nil))) ⟨.pin 0 (.frz ns) :: .no :: List.replicate (N.length - 2) .no, none, 1⟩ =
          .nx ⟨.pin 0 (.frz ns) :: .own (.lst [.lst (cells.map .int), .int big, .int mix]) :: List.replicate (N.length - 2) .no, none, 1⟩ := by
        simp only [exs, ev, evA, slot, List.getElem?_cons_zero, ofO, Res.bd, hd, dropS, fin, Res.st, frD, if_true, bindT, bindG]
        rw [if_pos (by simp)]
        rfl
      show GdS K cl _ (0, 0) [] H _ (exs _ _ _) _
      rw [e]
      intro σ' H' own' S'
      obtain ⟨o0, τ, f1, f2, e1, e2, h2, h3⟩ := S'.sl
      obtain ⟨o1, τ', f3, f4, e3, e4, h4, h5⟩ := h3
      obtain ⟨_, v0, g0, P0, q1, q2, q3, _, _⟩ := h2
      obtain ⟨v1, q4, pA, vs1, g1, q5, q6, q7, q8⟩ := h4
      obtain ⟨u1, w1, fa, fb, r1, r2, r3, r4⟩ := q8
      obtain ⟨u2, w2, fc, fd', r5, r6, r7, r8⟩ := r4
      obtain ⟨u3, w3, fe, ff, r9, r10, r11, r12⟩ := r8
      obtain ⟨cA, vs2, g2, t1, t2, t3, t4⟩ := r3
      obtain ⟨t5, t6⟩ := ints_of t4
      have hp : H' pA = some (.lst [.ref cA, .int big, .int mix]) := by
        rw [q6, r1, r5, r9, r12.1, t1, r7.1, r11.1]
      have hc : H' cA = some (.lst (cells.map V.int)) := by
        rw [t2, t5]
      have ne : pA ≠ cA := fun z => by
        rw [z, hc] at hp
        have z2 := congrArg (fun o : Option HO => match o with | some (.lst xs) => xs[0]? | _ => none) hp
        cases cells with
        | nil => simp at z2
        | cons i r => simp at z2
      obtain ⟨zA, zv, zs⟩ := q2
      have sfz : Rp K (pA, cA) H' (.frz ns) v0 [] := ⟨zA, rfl⟩
      refine ⟨(pA, cA), [pA, cA], H', [fun _ => False], ⟨.pin 0 (.frz ns) :: .own (.dl false) :: List.replicate (N.length - 2) .no, some ⟨cells, big, mix⟩, 1⟩, [], ⟨Xt.refl, ⟨rfl, ne, hp, hc⟩, rfl, ?_, List.nodup_nil, Out.nil, fun _ z => (nomatch z), fun Q hQ b hb => ?_⟩, ?_⟩
      · rw [e1, e3]
        refine ⟨o0, _, [], [], rfl, rfl, ⟨rfl, v0, [], _, q1, sfz, Out.nil, rfl, fun _ z => nomatch z⟩, o1, _, [], [], rfl, rfl, ⟨v1, q4, q5, rfl⟩, ?_⟩
        have el := Sls.len h5
        have en : ∀ (k : Nat) (τ : L2.St) (g : List Addr), Sls K (0, 0) [] [fun _ => False] H' (List.replicate k .no) τ g → Sls K (pA, cA) [pA, cA] [fun _ => False] H' (List.replicate k .no) τ [] := by
          intro k
          induction k with
          | zero => exact fun τ g h => ⟨h.1, rfl⟩
          | succ k ih =>
            intro τ g h
            obtain ⟨o, τ2, g1, g2, z1, z2, z3, z4⟩ := h
            exact ⟨o, τ2, [], [], z1, rfl, rfl, ih τ2 g2 z4⟩
        exact en _ _ _ h5
      · rw [List.mem_singleton.mp hQ] at hb
        exact hb.elim
      · show GdS K cl _ (pA, cA) [pA, cA] H' _ (exs _ _ _) _
        rw [hrest]
        intro v H2 f2 _ _ rv _ _
        rw [rv.1]
        exact hq H2
end
end BX

set_option Elab.async false
set_option linter.all false
set_option maxRecDepth 100000
set_option maxHeartbeats 4000000
namespace BX
open PySem PySem.Spec PyProof.Rows L2

/-! ## 12. the deal within its draw -/
section
variable {X : Cx} {cl : Nat → Value} {G : Gm} {W : WX} {pos p p2 p3 apos cpos : Pos} {a b c e tg : Expr} {ea eb ec : Ex} {t : Tg}
theorem DR.some_ {dx : Addr × Addr} {ex : List Addr} {ds : DS} {H : Hp} (d : DR dx ex (some ds) H) : ex = [dx.1, dx.2] ∧ dx.1 ≠ dx.2 ∧ H dx.1 = some (.lst [.ref dx.2, .int ds.big, .int ds.mix]) ∧ H dx.2 = some (.lst (ds.cells.map V.int)) := d
theorem me_dg {k : Int} {j : Nat} (ha : PE X a (tE X.K cl G W ea)) (hs : PlainIx (.Constant (.int k) j p2) := by exact fun _ _ => rfl) : PE X (.Subscript a (.Constant (.int k) j p2) pos) (tE X.K cl G W (.dg ea k)) := by
  refine (pe_ix ix_seq ha pe_int hs).imp fun σ H Q ⟨dx, ex, base, Pt, m, own, S, g⟩ => ⟨dx, ex, base, Pt, m, own, S, ?_⟩
  simp only [ev] at g
  refine g.seq fun x s1 e1 g v H1 f x1 d1 r1 o1 q1 => ?_
  split at g
  · rename_i ds
    obtain ⟨q2, q3, q4, q5⟩ := d1.some_
    obtain ⟨rfl, rfl⟩ := r1
    split at g
    · rename_i hk
      subst hk
      exact .inl ⟨dx.1, _, 0, _, rfl, rfl, .inl (.inl q4), rfl, g _ H1 [] x1 d1 ⟨rfl, rfl⟩ Out.nil fun _ => New.nil⟩
    · split at g
      · rename_i hk
        subst hk
        exact .inl ⟨dx.1, _, 1, _, rfl, rfl, .inl (.inl q4), rfl, g _ H1 [] x1 d1 ⟨rfl, rfl⟩ Out.nil fun _ => New.nil⟩
      · split at g
        · rename_i hk
          subst hk
          exact .inl ⟨dx.1, _, 2, _, rfl, rfl, .inl (.inl q4), rfl, g _ H1 [] x1 d1 ⟨rfl, rfl⟩ Out.nil fun _ => New.nil⟩
        · exact g.elim
  · exact g.elim
theorem me_dq {op : CmpOp} {o : Op2} {r : R2} (h : CmO X op o r) (ha : PE X a (tE X.K cl G W ea)) (hb : PE X b (tE X.K cl G W eb)) (hm : behindInMarks op b = false := by exact nomark _) : PE X (.Compare a [op] [b] pos) (tE X.K cl G W (.dq o ea eb)) := by
  refine (pe_cmpR h.op ha hb hm).imp fun σ H Q ⟨dx, ex, base, Pt, m, own, S, g⟩ => ⟨dx, ex, base, Pt, m, own, S, ?_⟩
  simp only [ev] at g
  refine g.seq fun x s1 e1 g1 v H1 f x1 d1 r1 o1 q1 => ⟨dx, ex, base, Pt, _, own, S.step x1 d1, ?_⟩
  refine (g1.at x1).seq fun y s2 e2 g2 w H2 f2 x2 d2 r2 o2 q2 => ?_
  clear g g1 e1 e2
  revert g2
  intro g
  split at g
  · rename_i ds
    obtain ⟨q3, q4, q5, q6⟩ := d2.some_
    obtain ⟨rfl, rfl⟩ := r1
    split at g
    · rename_i k ek
      have rl : Rp X.K dx H2 (.lst (ds.cells.map .int)) (.ref dx.2) [dx.2] := ⟨dx.2, _, [], rfl, q6, rfl, Rps.ints _⟩
      refine h.s2 dx H2 _ y _ w [dx.2] f2 Q (.bl k) rl r2 ek fun v' H' f' sm r3 w3 n3 => ?_
      exact g v' H' f' ((x1.trans x2).trans (.of_same sm)) (d2.same sm) r3 (by rw [r3.2]; exact Out.nil) fun _ => by rw [r3.2]; exact New.nil
    · exact g.elim
  · exact g.elim
theorem mt_dq {op : CmpOp} {o : Op2} {r : R2} (h : CmO X op o r) (ha : PE X a (tE X.K cl G W ea)) (hb : PE X b (tE X.K cl G W eb)) (hm : behindInMarks op b = false := by exact nomark _) : PT X (.Compare a [op] [b] pos) (tT X.K cl G W (.dq o ea eb)) := by
  refine (pt_cmpR h.op ha hb hm).imp fun σ H Q ⟨dx, ex, base, Pt, m, own, S, g⟩ => ⟨dx, ex, base, Pt, m, own, S, ?_⟩
  simp only [ev] at g
  refine g.seq fun x s1 e1 g1 v H1 f x1 d1 r1 o1 q1 => ⟨dx, ex, base, Pt, _, own, S.step x1 d1, ?_⟩
  refine (g1.at x1).seq fun y s2 e2 g2 w H2 f2 x2 d2 r2 o2 q2 => ?_
  clear g g1 e1 e2
  revert g2
  intro g
  split at g
  · rename_i ds
    obtain ⟨q3, q4, q5, q6⟩ := d2.some_
    obtain ⟨rfl, rfl⟩ := r1
    split at g
    · rename_i k ek
      have rl : Rp X.K dx H2 (.lst (ds.cells.map .int)) (.ref dx.2) [dx.2] := ⟨dx.2, _, [], rfl, q6, rfl, Rps.ints _⟩
      obtain ⟨k', e', g⟩ := g
      cases e'
      refine h.s2 dx H2 _ y _ w [dx.2] f2 _ (.bl k) rl r2 ek fun v' H' f' sm r3 w3 n3 => ?_
      exact ⟨k, r3.1, g H' ((x1.trans x2).trans (.of_same sm)) (d2.same sm)⟩
    · exact g.elim
  · exact g.elim
theorem xt_upd {dx : Addr × Addr} {ex : List Addr} {H : Hp} {q : Addr} {o : HO} (h : q ∈ ex) : Xt ex H (upd H q o) := fun b ob hb n => by
  rw [upd_ne (fun z : b = q => n (by rw [z]; exact h))]
  exact hb
theorem ms_dset {k : Int} {j : Nat} (he : PE X e (tE X.K cl G W eb)) (ha : PE X a (tE X.K cl G W ea)) (hA : ∀ v, assign (.Subscript a (.Constant (.int k) j p3) p2) X.env v = (do
      let ov ← holding [v] (eval a X.env)
      let iv ← holding [v, ov] (eval (.Constant (.int k) j p3) X.env)
      standAt p2
      holding [v, ov, iv] (setItem ov iv v)
      release [v, ov, iv] []) := by intro _; rfl) (hs : swapsWithSole [.Subscript a (.Constant (.int k) j p3) p2] e pos.line X.env = pure false := by rfl) (hw : swappedStores [.Subscript a (.Constant (.int k) j p3) p2] e X.env = pure none := by rfl)
    (h1 : (assignEach [.Subscript a (.Constant (.int k) j p3) p2] X.env).map (·.2) = [assign (.Subscript a (.Constant (.int k) j p3) p2) X.env] := by rfl) :
    PS X (.Assign [.Subscript a (.Constant (.int k) j p3) p2] e pos) (tS X.K cl G W (.dset ea k eb)) := by
  refine (ps_asg he (pg_sub ha pe_int set_list hA) hs hw h1).imp fun D σ H ⟨dx, ex, base, Pt, m, own, S, g⟩ => ⟨dx, ex, base, Pt, m, own, S, ?_⟩
  simp only [exs] at g
  refine g.st S fun d s1 e1 g1 v H1 f x1 d1 r1 o1 q1 => ?_
  have S1 := S.step x1 d1
  refine ⟨dx, ex, base, Pt, _, own, S1, ?_⟩
  refine g1.st S1 fun x s2 e2 g w H2 f2 x2 d2 r2 o2 q2 => ?_
  have S2 := S1.step x2 d2
  clear e1 e2 g1
  rename_i g0
  clear g0
  dsimp only at g
  split at g
  · rename_i z ds
    obtain ⟨q3, q4, q5, q6⟩ := d2.some_
    obtain ⟨rfl, rfl⟩ := r2
    obtain ⟨rfl, rfl⟩ := r1
    have hx : dx.1 ∈ ex := by rw [q3]; exact List.mem_cons_self
    split at g
    · rename_i hk
      subst hk
      have d3 : DR dx ex (some { ds with big := z }) (upd H2 dx.1 (.lst ([V.ref dx.2, .int ds.big, .int ds.mix].set 1 (.int z)))) := ⟨q3, q4, upd_same, by rw [upd_ne (Ne.symm q4)]; exact q6⟩
      exact ⟨dx.1, _, 1, 1, rfl, rfl, q5, rfl, g _ _ own (S2.step (xt_upd (dx := dx) hx) d3)⟩
    · split at g
      · rename_i hk
        subst hk
        have d3 : DR dx ex (some { ds with mix := z }) (upd H2 dx.1 (.lst ([V.ref dx.2, .int ds.big, .int ds.mix].set 2 (.int z)))) := ⟨q3, q4, upd_same, by rw [upd_ne (Ne.symm q4)]; exact q6⟩
        exact ⟨dx.1, _, 2, 2, rfl, rfl, q5, rfl, g _ _ own (S2.step (xt_upd (dx := dx) hx) d3)⟩
      · exact g.elim
  · exact g.elim
theorem ms_dpop (ha : PE X a (tE X.K cl G W ea)) (he : PE X e (tE X.K cl G W eb)) (hg : PG X tg (gT X.K t)) (hs1 : starEach [e] X.env = (false, eval e X.env) :: starEach [] X.env := by rfl) (hbase : attributeBase a "pop" X.env (eval a X.env) = eval a X.env := by rfl)
    (hfew : ((backTo cpos (starEach [e] X.env)).all (fun x => !x.1) && (backToKw cpos (keywordEach [] X.env)).all (fun x => x.1.isSome) && decide ([e].length + ([] : List Keyword).length + (if ([] : List Keyword).isEmpty then 0 else 1) < 30)) = true := by rfl)
    (hline : (apos.endLine == cpos.line) = true := by rfl) (hpl : (backTo cpos (starEach [] X.env)).any (·.1) = false := by rfl)
    (hs : swapsWithSole [tg] (.Call (.Attribute a "pop" apos) [e] [] cpos) pos.line X.env = pure false := by rfl) (hw : swappedStores [tg] (.Call (.Attribute a "pop" apos) [e] [] cpos) X.env = pure none := by rfl) (h1 : (assignEach [tg] X.env).map (·.2) = [assign tg X.env] := by rfl) :
    PS X (.Assign [tg] (.Call (.Attribute a "pop" apos) [e] [] cpos) pos) (tS X.K cl G W (.dpop t ea eb)) := by
  refine (ps_asg (pe_bm PySem.F.plainAttrs_list PySem.F.slot_list_pop PySem.F.type_list_pop mt_popAt ha (pa_cons he pa_nil hs1) hbase hfew hline hs1 hpl) hg hs hw h1).imp fun D σ H ⟨dx, ex, base, Pt, m, own, S, g⟩ => ⟨dx, ex, base, Pt, m, own, S, ?_⟩
  simp only [exs] at g
  refine g.st S fun x s1 e1 g1 v H1 f x1 d1 r1 o1 q1 => ?_
  have S1 := S.step x1 d1
  clear e1 g
  dsimp only at g1
  split at g1
  · rename_i ds0
    obtain ⟨p3, p4, p5, p6⟩ := d1.some_
    obtain ⟨rfl, rfl⟩ := r1
    refine ⟨tyl p6, dx, ex, base, Pt, _, own, S1, ?_⟩
    refine g1.st S1 fun k s2 e2 g w H2 f2 x2 d2 r2 o2 q2 => ?_
    clear e2 g1
    dsimp only at g
    split at g
    · rename_i k ds
      split at g
      · rename_i z r ez
        split at g
        · rename_i hk
          subst hk
          split at g
          · rename_i v' ev'
            obtain ⟨q3, q4, q5, q6⟩ := d2.some_
            have hx : dx.2 ∈ ex := by rw [q3]; simp
            have d3 : DR dx ex (some { ds with cells := r }) (upd H2 dx.2 (.lst ((ds.cells.map V.int).eraseIdx 0))) := ⟨q3, q4, by rw [upd_ne q4]; exact q5, by rw [upd_same, ez]; rfl⟩
            have S3 := (S1.step x2 d2).step (xt_upd (dx := dx) (o := .lst ((ds.cells.map V.int).eraseIdx 0)) hx) d3
            refine ⟨dx.2, _, 0, 0, .int z, rfl, by rw [r2.1], q6, by decide, by decide, ?_, by rw [ez]; rfl, ?_⟩
            · rw [ez]
              rw [seqIndex_of (Int.le_refl 0) (by simp)]
              rfl
            · exact bindT_ok (m := { m with s := some { ds with cells := r } }) ev' S3 ⟨rfl, rfl⟩ Fre.nil fun σ' own' S' _ => g σ' _ own' S'
          · exact g.elim
        · exact g.elim
      · exact g.elim
    · exact g.elim
  · exact g1.elim
end
end BX

set_option Elab.async false
set_option linter.all false
set_option maxRecDepth 100000
set_option maxHeartbeats 4000000
namespace BX
open PySem PySem.Spec PyProof.Rows L2

/-! ## 13. the end -/
theorem fz_of {K : PySem.W.Frag} {H : Hp} {a : Addr} {xs : List V} (hO : Only H) (hS : SqL K H a xs) : FzL K H a xs := by
  rcases hS with (h | h) | h
  · rcases hO a with e | ⟨o, ys, e⟩
    · rw [h] at e; cases e
    · rw [h] at e; cases e
  · exact .inl h
  · exact .inr fun H' => .inr h
theorem walk_X {l : PySem.W.OpenLaw} {n k : Nat} {q : Program} {loose : List Str} {XP : (Str → Option Value) → Heap → Prop} {YP : World → Heap → Prop} {d : DefRec} {x : Str} (hn : l.most = some n) (hn2 : n ≤ sizeLine) (hdf : d.params.defaults = []) (hr : Room k callerA)
    (F : ∀ (w : World) (mg : Str → Option Value) (fa : Addr) (h : Heap), YP w h → h.Ns mainGlobals mg → mg d.name = some (.ref fa) → ∃ (K : PySem.W.Frag) (fd : FuncData) (R : List Int → Prop), K.In h ∧ (∀ (s : Shared) (u : Value), BindsTo s fd ⟨[u], []⟩ [(x, u)]) ∧
      (∀ ns : List Int, ns.length ≤ n → R ns) ∧ ∀ base : Heap, K.In base → base.Ns mainGlobals mg → FnOk l.prog w K mg base (L2.CX l.prog w) k fa fd [x] (spLaw K R)) : PySem.W.WalkO q loose XP YP l.row.toRowW d [] (fun f vs => PySem.call f vs) := by
  refine Att.attach_call hn hdf ?_
  intro w t0 t1 mg mb fa o pm cd doc a vs ns G Y ho hd hcd hmg hobj hints hlen hg
  obtain ⟨K, fd, R, kx, hb, hR, hF⟩ := F w mg fa _ Y G.T.g hmg
  refine law_call kx G.T.g G.T.b G.T.builtins G.T.nolimit hg hobj hints (Nat.le_trans hlen hn2) hr hF hb ?_ ?_
  · exact fun H hO hS => ⟨a, ns, rfl, fz_of hO hS, hR ns hlen, fun _ => rfl⟩
  · rintro H e s' ⟨_, _, _, _, _, _, _, _, _, _, _, _, z⟩
    exact z.elim
end BX

set_option Elab.async false
set_option linter.all false
set_option maxRecDepth 100000
set_option maxHeartbeats 4000000
namespace BX
open PySem PySem.Spec PyProof.Rows L2

/-! ## 14. the deal of the first family of laws: cells, great cell, mixed number -/
def aDeal : Sm := (.ret (.lst (.cons (.cmp (.op2 .mod (.op1 .int (.var 1)) (.op2 .pow (.lit (.int 10)) (.lit (.int 60)))) (.nm 1) (.sq (.slc (.var 0) .nil (.cons (.lit (.int 63)) .nil))) .yes) (.cons (.lit (.int 0)) (.cons (.lit (.int 8123)) .nil)))))
def aTake : Sm := (.seq (.asg (.nm 2) (.dg (.var 0) 0)) (.seq (.ife (.an (.op2 .lt (.dg (.var 0) 1) (.op2 .pow (.lit (.int 10)) (.lit (.int 6)))) (.dq .ne (.var 2) (.lst .nil))) (.seq (.dpop (.nm 3) (.var 2) (.lit (.int 0))) (.ife (.op2 .ge (.var 3) (.op2 .pow (.lit (.int 10)) (.lit (.int 18)))) (.dset (.var 0) 1 (.var 3)) (.dset (.var 0) 2 (.op2 .mod (.op1 .int (.op2 .add (.op2 .add (.op2 .mul (.dg (.var 0) 2) (.lit (.int 48271))) (.op2 .mul (.op2 .mod (.var 3) (.lit (.int 2147483563))) (.lit (.int 17)))) (.lit (.int 5)))) (.lit (.int 2147483647)))))) .skip) (.seq (.ife (.op2 .ge (.dg (.var 0) 1) (.op2 .pow (.lit (.int 10)) (.lit (.int 6)))) (.seq (.asg (.nm 4) (.op2 .mod (.op1 .int (.dg (.var 0) 1)) (.var 1))) (.seq (.dset (.var 0) 1 (.op2 .fdiv (.dg (.var 0) 1) (.var 1))) (.ret (.var 4)))) .skip) (.seq (.dset (.var 0) 2 (.op2 .mod (.op1 .int (.op2 .add (.op2 .mul (.dg (.var 0) 2) (.lit (.int 69621))) (.lit (.int 13)))) (.lit (.int 2147483647)))) (.ret (.op2 .mod (.op1 .int (.op2 .fdiv (.dg (.var 0) 2) (.lit (.int 59)))) (.var 1)))))))
theorem compL_map {F : D → Option DS → Res (Option D)} {g : Int → D} {s : Option DS} (h : ∀ i, F (.int i) s = .ok (some (g i)) s) : ∀ l : List Int, compL F (l.map .int) s = .ok (l.map g) s
  | [] => rfl
  | i :: r => by
    rw [List.map_cons]
    unfold compL
    rw [h]
    show (match compL F (r.map .int) s with | .ok l s2 => Res.ok (g i :: l) s2 | .er _ _ => .bad | .bad => .bad) = _
    rw [compL_map h r]
    rfl
theorem cut_len {l : List D} {h : Option Int} : (cutD l none h).length ≤ l.length := by
  unfold cutD
  rw [List.length_take, List.length_drop]
  omega
theorem cut_map (ns : List Int) (lo hi : Option Int) : ∃ cs : List Int, cutD (ns.map .int) lo hi = cs.map .int ∧ cs.length ≤ ns.length := by
  refine ⟨(ns.drop (HT.sIx ns.length 0 lo)).take (HT.sIx ns.length ns.length hi - HT.sIx ns.length 0 lo), ?_, ?_⟩
  · unfold cutD
    rw [List.length_map, List.map_take, List.map_drop]
  · rw [List.length_take, List.length_drop]
    omega
theorem deal_ok {tbl : Nat → Option Fd} {kd n : Nat} (h : tbl kd = some ⟨aDeal, 2, 1⟩) (ns : List Int) (hl : ns.length ≤ 63) : ∃ cells : List Int, Fn tbl (n + 1) kd [.frz ns] none = .ok (.lst [.lst (cells.map .int), .int 0, .int 8123]) none := by
  obtain ⟨cs, e1, e2⟩ := cut_map ns none (some 63)
  refine ⟨cs.map fun i => i.fmod (10 ^ 60), ?_⟩
  have ec : compL (cmF ⟨Fn tbl n⟩ (.op2 .mod (.op1 .int (.var 1)) (.op2 .pow (.lit (.int 10)) (.lit (.int 60)))) (.nm 1) .yes [.pin 0 (.frz ns), .no]) (cs.map .int) none = .ok (cs.map fun i => .int (i.fmod (10 ^ 60))) none :=
    compL_map (fun i => by kernel_rfl) cs
  have ef : fitL (cs.map fun i => D.int (i.fmod (10 ^ 60))) = some (cs.map fun i => D.int (i.fmod (10 ^ 60))) := if_pos (by
    rw [List.length_map, sizeLine_eq]
    omega)
  have e3 : evA ⟨Fn tbl n⟩ (.sq (.slc (.var 0) .nil (.cons (.lit (.int 63)) .nil))) [.pin 0 (.frz ns), .no] none = .ok [.lst (cs.map .int)] none := by
    rw [← e1]
    rfl
  have e4 : ev ⟨Fn tbl n⟩ (.cmp (.op2 .mod (.op1 .int (.var 1)) (.op2 .pow (.lit (.int 10)) (.lit (.int 60)))) (.nm 1) (.sq (.slc (.var 0) .nil (.cons (.lit (.int 63)) .nil))) .yes) false [.pin 0 (.frz ns), .no] none = .ok (.lst (cs.map fun i => D.int (i.fmod (10 ^ 60)))) none := by
    rw [ev_cmp, e3, bd_ok]
    show (compL _ (cs.map .int) none).bd _ = _
    rw [ec, bd_ok, ef]
    rfl
  have e5 : Fn tbl (n + 1) kd [.frz ns] none = (match exs ⟨Fn tbl n⟩ aDeal ⟨[.pin 0 (.frz ns), .no], none, 1⟩ with
      | .rt d s => .ok d s
      | .nx m => .ok .non m.s
      | .er c m => .er c m.s
      | _ => .bad) := by
    simp only [Fn, h]
    rfl
  rw [e5]
  unfold aDeal
  simp only [exs, ev, evA] at e4 ⊢
  rw [e4]
  simp only [List.map_map]
  rfl
section
variable {G : Gm} {k : Int} {x3 x4 : SV} {ds : DS}
/-- a cell is read, where it is due -/
def aRead : Sm := (.ife (.an (.op2 .lt (.dg (.var 0) 1) (.op2 .pow (.lit (.int 10)) (.lit (.int 6)))) (.dq .ne (.var 2) (.lst .nil))) (.seq (.dpop (.nm 3) (.var 2) (.lit (.int 0))) (.ife (.op2 .ge (.var 3) (.op2 .pow (.lit (.int 10)) (.lit (.int 18)))) (.dset (.var 0) 1 (.var 3)) (.dset (.var 0) 2 (.op2 .mod (.op1 .int (.op2 .add (.op2 .add (.op2 .mul (.dg (.var 0) 2) (.lit (.int 48271))) (.op2 .mul (.op2 .mod (.var 3) (.lit (.int 2147483563))) (.lit (.int 17)))) (.lit (.int 5)))) (.lit (.int 2147483647)))))) .skip)
theorem toPs_ints : ∀ l : List Int, toPs (l.map .int) = some (l.map .int)
  | [] => rfl
  | i :: r => by
    rw [List.map_cons, List.map_cons]
    unfold toPs
    rw [toPs_ints r]
    rfl
theorem lay_ints : ∀ l : List Int, PyData.canLayAll0 (l.map .int) = true
  | [] => rfl
  | i :: r => by
    rw [List.map_cons]
    unfold PyData.canLayAll0
    rw [lay_ints r]
    rfl
theorem depth_ints : ∀ l : List Int, PyData.depthAll (l.map .int) = 0
  | [] => rfl
  | i :: r => by
    rw [List.map_cons]
    unfold PyData.depthAll
    rw [depth_ints r]
    rfl
theorem ne_nil (l : List Int) : f2 .ne (.lst (l.map .int)) (.lst []) = some (.bl (!l.isEmpty)) := by
  have e1 : toP (.lst (l.map .int)) = some (.list (l.map .int)) := by
    unfold toP
    rw [toPs_ints]
    rfl
  have e2 : SeqAt.shaped (.list (l.map .int)) = true := by
    unfold SeqAt.shaped PyData.canLay0 PyData.depth
    rw [lay_ints, depth_ints]
    rfl
  show Option.map (fun c => D.bl (!c)) (match toP (.lst (l.map .int)), toP (.lst []) with
    | some x, some y => if SeqAt.shaped x && SeqAt.shaped y then some (PyData.eqv x y) else none
    | _, _ => none) = _
  rw [e1]
  show Option.map _ (if SeqAt.shaped (.list (l.map .int)) && SeqAt.shaped (.list []) then some (PyData.eqv (.list (l.map .int)) (.list [])) else none) = _
  rw [e2]
  cases l <;> rfl
theorem ife_t {c : Ex} {a b : Sm} {v : List SV} {s s' : Option DS} {n : Nat} (h : ev G c true v s = .ok (.bl true) s') : exs G (.ife c a b) ⟨v, s, n⟩ = exs G a ⟨v, s', n⟩ := by
  simp only [exs, h]
  rfl
theorem ife_f {c : Ex} {a b : Sm} {v : List SV} {s s' : Option DS} {n : Nat} (h : ev G c true v s = .ok (.bl false) s') : exs G (.ife c a b) ⟨v, s, n⟩ = exs G b ⟨v, s', n⟩ := by
  simp only [exs, h]
  rfl
theorem seq_nx {a b : Sm} {m m' : Ms} (h : exs G a m = .nx m') : exs G (.seq a b) m = exs G b m' := by
  simp only [exs, h]
  rfl
theorem an_t {a b : Ex} {m : Bool} {v : List SV} {s s' : Option DS} (h : ev G a m v s = .ok (.bl true) s') : ev G (.an a b) m v s = ev G b m v s' := by
  simp only [ev, h]
  rfl
theorem an_f {a b : Ex} {m : Bool} {v : List SV} {s s' : Option DS} (h : ev G a m v s = .ok (.bl false) s') : ev G (.an a b) m v s = .ok (.bl false) s' := by
  simp only [ev, h]
  rfl
theorem read_ok : ∃ x3' ds', exs G aRead ⟨[.pin 0 (.dl false), .pin 0 (.int k), .own (.dl true), x3, x4], some ds, 1⟩ = .nx ⟨[.pin 0 (.dl false), .pin 0 (.int k), .own (.dl true), x3', x4], some ds', 1⟩ := by
  obtain ⟨cells, big, mix⟩ := ds
  have e1 : ev G (.op2 .lt (.dg (.var 0) 1) (.op2 .pow (.lit (.int 10)) (.lit (.int 6)))) true [.pin 0 (.dl false), .pin 0 (.int k), .own (.dl true), x3, x4] (some ⟨cells, big, mix⟩) = .ok (.bl (decide (big < 1000000))) (some ⟨cells, big, mix⟩) := by kernel_rfl
  have e2 : ev G (.dq .ne (.var 2) (.lst .nil)) true [.pin 0 (.dl false), .pin 0 (.int k), .own (.dl true), x3, x4] (some ⟨cells, big, mix⟩) = .ok (.bl (!cells.isEmpty)) (some ⟨cells, big, mix⟩) := by
    have e3 : ev G (.dq .ne (.var 2) (.lst .nil)) true [.pin 0 (.dl false), .pin 0 (.int k), .own (.dl true), x3, x4] (some ⟨cells, big, mix⟩) = (match f2 .ne (.lst (cells.map .int)) (.lst []) with
        | some (.bl r) => fin true (.bl r) (some ⟨cells, big, mix⟩)
        | _ => .bad) := by kernel_rfl
    rw [e3, ne_nil]
    rfl
  by_cases h1 : big < 1000000
  · rw [decide_eq_true h1] at e1
    cases cells with
    | nil => exact ⟨x3, ⟨[], big, mix⟩, by unfold aRead; rw [ife_f ((an_t e1).trans e2)]; simp only [exs]⟩
    | cons c r =>
      have e3 : exs G (.dpop (.nm 3) (.var 2) (.lit (.int 0))) ⟨[.pin 0 (.dl false), .pin 0 (.int k), .own (.dl true), x3, x4], some ⟨c :: r, big, mix⟩, 1⟩ = .nx ⟨[.pin 0 (.dl false), .pin 0 (.int k), .own (.dl true), .own (.int c), x4], some ⟨r, big, mix⟩, 1⟩ := by kernel_rfl
      have e4 : ev G (.op2 .ge (.var 3) (.op2 .pow (.lit (.int 10)) (.lit (.int 18)))) true [.pin 0 (.dl false), .pin 0 (.int k), .own (.dl true), .own (.int c), x4] (some ⟨r, big, mix⟩) = .ok (.bl (decide (1000000000000000000 ≤ c))) (some ⟨r, big, mix⟩) := by kernel_rfl
      unfold aRead
      rw [ife_t ((an_t e1).trans e2), seq_nx e3]
      by_cases h2 : 1000000000000000000 ≤ c
      · rw [decide_eq_true h2] at e4
        rw [ife_t e4]
        exact ⟨.own (.int c), ⟨r, c, mix⟩, by kernel_rfl⟩
      · rw [decide_eq_false h2] at e4
        rw [ife_f e4]
        exact ⟨.own (.int c), ⟨r, big, (mix * 48271 + c.fmod 2147483563 * 17 + 5).fmod 2147483647⟩, by kernel_rfl⟩
  · rw [decide_eq_false h1] at e1
    exact ⟨x3, ⟨cells, big, mix⟩, by unfold aRead; rw [ife_f (an_f e1)]; simp only [exs]⟩
end
theorem fmod_range (i : Int) {k : Int} (h : 0 < k) : 0 ≤ i.fmod k ∧ i.fmod k < k := ⟨Int.fmod_nonneg_of_pos i h, Int.fmod_lt_of_pos i h⟩
theorem take_run {G : Gm} {k : Int} {ds : DS} (h0 : 0 < k) (h1 : k < 1073741824) : ∃ r ds', exs G aTake ⟨[.pin 0 (.dl false), .pin 0 (.int k), .no, .no, .no], some ds, 1⟩ = .rt (.int r) (some ds') ∧ 0 ≤ r ∧ r < k := by
  obtain ⟨x3, ⟨cells, big, mix⟩, e1⟩ := read_ok (G := G) (k := k) (x3 := .no) (x4 := .no) (ds := ds)
  have e0 : exs G (.asg (.nm 2) (.dg (.var 0) 0)) ⟨[.pin 0 (.dl false), .pin 0 (.int k), .no, .no, .no], some ds, 1⟩ = .nx ⟨[.pin 0 (.dl false), .pin 0 (.int k), .own (.dl true), .no, .no], some ds, 1⟩ := by kernel_rfl
  have e2 : ev G (.op2 .ge (.dg (.var 0) 1) (.op2 .pow (.lit (.int 10)) (.lit (.int 6)))) true [.pin 0 (.dl false), .pin 0 (.int k), .own (.dl true), x3, .no] (some ⟨cells, big, mix⟩) = .ok (.bl (decide (1000000 ≤ big))) (some ⟨cells, big, mix⟩) := by kernel_rfl
  have ne : k ≠ 0 := by omega
  have fm : ∀ i : Int, f2 .mod (.int i) (.int k) = some (.int (i.fmod k)) := fun i => if_pos ne
  have fd : ∀ i : Int, f2 .fdiv (.int i) (.int k) = some (.int (i.fdiv k)) := fun i => if_pos ⟨ne, by omega⟩
  unfold aTake
  unfold aRead at e1
  rw [seq_nx e0, seq_nx e1]
  by_cases hb : 1000000 ≤ big
  · rw [decide_eq_true hb] at e2
    have e3 : exs G (.asg (.nm 4) (.op2 .mod (.op1 .int (.dg (.var 0) 1)) (.var 1))) ⟨[.pin 0 (.dl false), .pin 0 (.int k), .own (.dl true), x3, .no], some ⟨cells, big, mix⟩, 1⟩ = .nx ⟨[.pin 0 (.dl false), .pin 0 (.int k), .own (.dl true), x3, .own (.int (big.fmod k))], some ⟨cells, big, mix⟩, 1⟩ := by
      have z : exs G (.asg (.nm 4) (.op2 .mod (.op1 .int (.dg (.var 0) 1)) (.var 1))) ⟨[.pin 0 (.dl false), .pin 0 (.int k), .own (.dl true), x3, .no], some ⟨cells, big, mix⟩, 1⟩ = ((ofO (f2 .mod (.int big) (.int k)) (some ⟨cells, big, mix⟩)).bd (fin false)).st ⟨[.pin 0 (.dl false), .pin 0 (.int k), .own (.dl true), x3, .no], some ⟨cells, big, mix⟩, 1⟩ fun d m =>
          if frD (.op2 .mod (.op1 .int (.dg (.var 0) 1)) (.var 1)) d then (match bindT (.nm 4) d m.v with
            | some v' => .nx { m with v := v' }
            | none => .bad) else .bad := by kernel_rfl
      rw [z, fm]
      kernel_rfl
    have e4 : exs G (.dset (.var 0) 1 (.op2 .fdiv (.dg (.var 0) 1) (.var 1))) ⟨[.pin 0 (.dl false), .pin 0 (.int k), .own (.dl true), x3, .own (.int (big.fmod k))], some ⟨cells, big, mix⟩, 1⟩ = .nx ⟨[.pin 0 (.dl false), .pin 0 (.int k), .own (.dl true), x3, .own (.int (big.fmod k))], some ⟨cells, big.fdiv k, mix⟩, 1⟩ := by
      have z : exs G (.dset (.var 0) 1 (.op2 .fdiv (.dg (.var 0) 1) (.var 1))) ⟨[.pin 0 (.dl false), .pin 0 (.int k), .own (.dl true), x3, .own (.int (big.fmod k))], some ⟨cells, big, mix⟩, 1⟩ = ((ofO (f2 .fdiv (.int big) (.int k)) (some ⟨cells, big, mix⟩)).bd (fin false)).st ⟨[.pin 0 (.dl false), .pin 0 (.int k), .own (.dl true), x3, .own (.int (big.fmod k))], some ⟨cells, big, mix⟩, 1⟩ fun d m => (ev G (.var 0) false m.v m.s).st m fun x m =>
          match d, x, m.s with
          | .int z, .dl false, some ds => if (1 : Int) = 1 then .nx { m with s := some { ds with big := z } } else if (1 : Int) = 2 then .nx { m with s := some { ds with mix := z } } else .bad
          | _, _, _ => .bad := by kernel_rfl
      rw [z, fd]
      kernel_rfl
    refine ⟨big.fmod k, ⟨cells, big.fdiv k, mix⟩, ?_, fmod_range big h0⟩
    have e5 : exs G (.ret (.var 4)) ⟨[.pin 0 (.dl false), .pin 0 (.int k), .own (.dl true), x3, .own (.int (big.fmod k))], some ⟨cells, big.fdiv k, mix⟩, 1⟩ = .rt (.int (big.fmod k)) (some ⟨cells, big.fdiv k, mix⟩) := by kernel_rfl
    have e6 : exs G (.ife (.op2 .ge (.dg (.var 0) 1) (.op2 .pow (.lit (.int 10)) (.lit (.int 6)))) (.seq (.asg (.nm 4) (.op2 .mod (.op1 .int (.dg (.var 0) 1)) (.var 1))) (.seq (.dset (.var 0) 1 (.op2 .fdiv (.dg (.var 0) 1) (.var 1))) (.ret (.var 4)))) .skip) ⟨[.pin 0 (.dl false), .pin 0 (.int k), .own (.dl true), x3, .no], some ⟨cells, big, mix⟩, 1⟩ = .rt (.int (big.fmod k)) (some ⟨cells, big.fdiv k, mix⟩) := by
      rw [ife_t e2, seq_nx e3, seq_nx e4, e5]
    simp only [exs] at e6 ⊢
    rw [e6]
    rfl
  · rw [decide_eq_false hb] at e2
    have e6 : exs G (.ife (.op2 .ge (.dg (.var 0) 1) (.op2 .pow (.lit (.int 10)) (.lit (.int 6)))) (.seq (.asg (.nm 4) (.op2 .mod (.op1 .int (.dg (.var 0) 1)) (.var 1))) (.seq (.dset (.var 0) 1 (.op2 .fdiv (.dg (.var 0) 1) (.var 1))) (.ret (.var 4)))) .skip) ⟨[.pin 0 (.dl false), .pin 0 (.int k), .own (.dl true), x3, .no], some ⟨cells, big, mix⟩, 1⟩ = .nx ⟨[.pin 0 (.dl false), .pin 0 (.int k), .own (.dl true), x3, .no], some ⟨cells, big, mix⟩, 1⟩ := by
      rw [ife_f e2]
      simp only [exs]
    rw [seq_nx e6]
    have e7 : exs G (.dset (.var 0) 2 (.op2 .mod (.op1 .int (.op2 .add (.op2 .mul (.dg (.var 0) 2) (.lit (.int 69621))) (.lit (.int 13)))) (.lit (.int 2147483647)))) ⟨[.pin 0 (.dl false), .pin 0 (.int k), .own (.dl true), x3, .no], some ⟨cells, big, mix⟩, 1⟩ = .nx ⟨[.pin 0 (.dl false), .pin 0 (.int k), .own (.dl true), x3, .no], some ⟨cells, big, (mix * 69621 + 13).fmod 2147483647⟩, 1⟩ := by kernel_rfl
    rw [seq_nx e7]
    generalize (mix * 69621 + 13).fmod 2147483647 = mx
    refine ⟨(mx.fdiv 59).fmod k, ⟨cells, big, mx⟩, ?_, fmod_range _ h0⟩
    have z : exs G (.ret (.op2 .mod (.op1 .int (.op2 .fdiv (.dg (.var 0) 2) (.lit (.int 59)))) (.var 1))) ⟨[.pin 0 (.dl false), .pin 0 (.int k), .own (.dl true), x3, .no], some ⟨cells, big, mx⟩, 1⟩ = ((ofO (f2 .mod (.int (mx.fdiv 59)) (.int k)) (some ⟨cells, big, mx⟩)).bd (fin false)).st ⟨[.pin 0 (.dl false), .pin 0 (.int k), .own (.dl true), x3, .no], some ⟨cells, big, mx⟩, 1⟩ fun d m =>
        if retOk (.op2 .mod (.op1 .int (.op2 .fdiv (.dg (.var 0) 2) (.lit (.int 59)))) (.var 1)) d m.v then .rt d m.s else .bad := by kernel_rfl
    rw [z, fm]
    kernel_rfl
theorem take_ok {tbl : Nat → Option Fd} {kt n : Nat} (h : tbl kt = some ⟨aTake, 5, 2⟩) (ds : DS) (k : Int) (h0 : 0 < k) (h1 : k < 1073741824) : ∃ r ds', Fn tbl (n + 1) kt [.dl false, .int k] (some ds) = .ok (.int r) (some ds') ∧ 0 ≤ r ∧ r < k := by
  obtain ⟨r, ds', e, b⟩ := take_run (G := ⟨Fn tbl n⟩) (ds := ds) h0 h1
  refine ⟨r, ds', ?_, b⟩
  have e5 : Fn tbl (n + 1) kt [.dl false, .int k] (some ds) = (match exs ⟨Fn tbl n⟩ aTake ⟨[.pin 0 (.dl false), .pin 0 (.int k), .no, .no, .no], some ds, 1⟩ with
      | .rt d s => .ok d s
      | .nx m => .ok .non m.s
      | .er c m => .er c m.s
      | _ => .bad) := by
    simp only [Fn, h]
    rfl
  rw [e5, e]
end BX

set_option Elab.async false
set_option linter.all false
set_option maxRecDepth 100000
set_option maxHeartbeats 4000000
namespace BX
open PySem PySem.Spec PyProof.Rows L2

/-! ## 15. going through the machine by hand -/
section
variable {G : Gm} {v : List SV} {s s1 s2 : Option DS} {a b : Ex} {x y z : D} {l : List D}
theorem ev_op2 {o : Op2} (h1 : ev G a false v s = .ok x s1) (h2 : ev G b false v s1 = .ok y s2) (h3 : f2 o x y = some z) : ev G (.op2 o a b) false v s = .ok z s2 := by
  simp only [ev, h1, bd_ok, h2, h3]
  rfl
theorem ev_op1 {o : Op1} (h1 : ev G a false v s = .ok x s1) (h3 : f1 o x = some z) : ev G (.op1 o a) false v s = .ok z s1 := by
  simp only [ev, h1, bd_ok, h3]
  rfl
theorem ev_lit : ev G (.lit x) false v s = .ok x s := by
  simp only [ev]
  rfl
theorem ev_var {i : Nat} (h : slot v i = some x) : ev G (.var i) false v s = .ok x s := by
  simp only [ev, h]
  rfl
theorem evA_nil : evA G .nil v s = .ok [] s := by
  simp only [evA]
theorem evA_cons (h1 : ev G a false v s = .ok x s1) (h2 : evA G b v s1 = .ok l s2) : evA G (.cons a b) v s = .ok (x :: l) s2 := by
  simp only [evA, h1, bd_ok, h2]
theorem fitL_of (h : l.length ≤ sizeLine) : fitL l = some l := if_pos h
theorem ev_lst (h1 : evA G a v s = .ok l s1) (h : l.length ≤ 1000 := by simp) : ev G (.lst a) false v s = .ok (.lst l) s1 := by
  have e : fitL l = some l := fitL_of (by rw [sizeLine_eq]; omega)
  simp only [ev, h1, bd_ok, e]
  rfl
theorem ev_tup (h1 : evA G a v s = .ok l s1) (h : l.length ≤ 1000 := by simp) : ev G (.tup a) false v s = .ok (.tup l) s1 := by
  have e : fitL l = some l := fitL_of (by rw [sizeLine_eq]; omega)
  simp only [ev, h1, bd_ok, e]
  rfl
theorem ev_call {k : Nat} (h1 : evA G a v s = .ok l s1) (h2 : G.fn k l s1 = .ok z s2) : ev G (.call k a) false v s = .ok z s2 := by
  simp only [ev, h1, bd_ok, h2]
  rfl
theorem ev_pcl {k : Nat} (h1 : evA G a v s = .ok l s1) (h2 : G.fn k l none = .ok z s2) : ev G (.pcl k a) false v s = .ok z s1 := by
  simp only [ev, h1, bd_ok, h2, dropS]
  rfl
theorem asg_nx {t : Tg} {e : Ex} {n : Nat} {v' : List SV} (h1 : ev G e false v s = .ok x s1) (h2 : frD e x = true) (h3 : bindT t x v = some v') : exs G (.asg t e) ⟨v, s, n⟩ = .nx ⟨v', s1, n⟩ := by
  simp only [exs, h1, Res.st, h2, if_true, h3]
theorem ret_rt {e : Ex} {n : Nat} (h1 : ev G e false v s = .ok x s1) (h2 : retOk e x v = true) : exs G (.ret e) ⟨v, s, n⟩ = .rt x s1 := by
  simp only [exs, h1, Res.st, h2, if_true]
end
/-- a loop with an invariant -/
theorem forL_inv {t : Tg} {n : Nat} {b : Ms → RS} {I : Ms → Prop} : ∀ {its : List D}, (∀ x, x ∈ its → ∀ m, I m → ∃ v' m', bindP n t x m.v = some v' ∧ (b { m with v := v' } = .nx m' ∨ b { m with v := v' } = .ct m') ∧ I m') → ∀ {m}, I m → ∃ m', forL t n b its m = .nx m' ∧ I m'
  | [], _, m, h => ⟨m, rfl, h⟩
  | x :: r, hb, m, h => by
    obtain ⟨v', m1, e1, e2, h1⟩ := hb x List.mem_cons_self m h
    obtain ⟨m2, e3, h2⟩ := forL_inv (its := r) (fun y hy => hb y (List.mem_cons_of_mem _ hy)) h1
    refine ⟨m2, ?_, h2⟩
    unfold forL
    rw [e1]
    dsimp only
    rcases e2 with e2 | e2 <;> rw [e2] <;> exact e3
theorem for_nx {G : Gm} {t : Tg} {src : Ex} {b : Sm} {m m1 : Ms} {l its : List D} {s1 : Option DS} (h1 : evA G src m.v m.s = .ok l s1) (h2 : itD src l = some its) (h3 : frI m.v src l = true) (h4 : forL t m.lv (exs G b) its { m with s := s1, lv := m.lv + 1 } = .nx m1) : exs G (.forS t src b) m = .nx (unpM m.lv m1) := by
  simp only [exs, h1, Res.st, h2, h3, if_true, h4, RS.mp]
end BX

set_option Elab.async false
set_option linter.all false
set_option maxRecDepth 100000
set_option maxHeartbeats 0
namespace K72
open PySem PySem.Spec PyProof.Rows L2 BX
def top (i : Nat) : Stmt := PySem.Challenge.pw_boxeskept_k72_trees_counted.main.body.getD i (.Pass ⟨0, 0, 0, 0⟩)
def b0 : Sm := (.ret (.an (.op1 (.isi .int) (.var 0)) (.nt (.op1 (.isi .bool) (.var 0)))))
def b1 : Sm := (.ret (.an (.pcl 0 (.cons (.var 0) .nil)) (.chn .le .le (.var 1) (.var 0) (.var 2))))
def b2 : Sm := (.ret (.pcl 1 (.cons (.var 0) (.cons (.lit (.int 1)) (.cons (.lit (.int 12)) .nil)))))
def b3 : Sm := (.ret (.pcl 1 (.cons (.var 0) (.cons (.lit (.int 1)) (.cons (.lit (.int 4)) .nil)))))
def b4 : Sm := (.seq (.ife (.nt (.pcl 2 (.cons (.var 0) .nil))) (.rais 1) .skip) (.ife (.nt (.pcl 3 (.cons (.var 1) .nil))) (.rais 2) .skip))
def b5 : Sm := (.ife (.nt (.pcl 2 (.cons (.var 0) .nil))) (.rais 1) .skip)
def b6 : Sm := (.seq (.asg (.nm 2) (.lit (.int 1))) (.seq (.forS (.nm 3) (.r1 (.var 1)) (.asg (.nm 2) (.op2 .fdiv (.op2 .mul (.var 2) (.op2 .sub (.var 0) (.var 3))) (.op2 .add (.var 3) (.lit (.int 1)))))) (.ret (.var 2))))
def b7 : Sm := (.seq (.asg (.tp (.cn (.nm 2) (.cn (.nm 3) (.cn (.nm 4) .nl)))) (.tup (.cons (.lst (.cons (.lit (.int 0)) (.cons (.lit (.int 0)) .nil))) (.cons (.lst (.cons (.lit (.int 0)) (.cons (.lit (.int 1)) .nil))) (.cons (.lst (.cons (.lit (.int 1)) (.cons (.lit (.int 1)) .nil))) .nil))))) (.seq (.forS (.nm 5) (.r2 (.lit (.int 2)) (.op2 .add (.var 0) (.lit (.int 1)))) (.seq (.asg (.nm 6) (.op1 .sum (.cmp (.op2 .mul (.op2 .mul (.pcl 6 (.cons (.var 5) (.cons (.var 7) .nil))) (.op2 .ix (.var 3) (.var 7))) (.op2 .ix (.var 4) (.op2 .sub (.var 5) (.var 7)))) (.nm 7) (.r2 (.lit (.int 1)) (.var 5)) .yes))) (.seq (.app 2 (.var 6)) (.seq (.app 3 (.op2 .mul (.op2 .sub (.var 1) (.lit (.int 1))) (.var 6))) (.app 4 (.op2 .mul (.var 1) (.var 6))))))) (.ret (.var 2))))
def b8 : Sm := (.ret (.ife (.op2 .eq (.var 0) (.lit (.int 1))) (.lit (.int 1)) (.op2 .mul (.var 1) (.op2 .ix (.pcl 7 (.cons (.var 0) (.cons (.var 1) .nil))) (.var 0)))))
def b9 : Sm := (.seq (.expr (.pcl 4 (.cons (.var 0) (.cons (.var 1) .nil)))) (.ret (.pcl 8 (.cons (.var 0) (.cons (.var 1) .nil)))))
def b10 : Sm := (.seq (.expr (.pcl 5 (.cons (.var 0) .nil))) (.ret (.pcl 8 (.cons (.var 0) (.cons (.lit (.int 2)) .nil)))))
def b11 : Sm := (.ret (.lst (.cons (.cmp (.op2 .mod (.op1 .int (.var 1)) (.op2 .pow (.lit (.int 10)) (.lit (.int 60)))) (.nm 1) (.sq (.slc (.var 0) .nil (.cons (.lit (.int 63)) .nil))) .yes) (.cons (.lit (.int 0)) (.cons (.lit (.int 8123)) .nil)))))
def b12 : Sm := (.seq (.asg (.nm 2) (.dg (.var 0) 0)) (.seq (.ife (.an (.op2 .lt (.dg (.var 0) 1) (.op2 .pow (.lit (.int 10)) (.lit (.int 6)))) (.dq .ne (.var 2) (.lst .nil))) (.seq (.dpop (.nm 3) (.var 2) (.lit (.int 0))) (.ife (.op2 .ge (.var 3) (.op2 .pow (.lit (.int 10)) (.lit (.int 18)))) (.dset (.var 0) 1 (.var 3)) (.dset (.var 0) 2 (.op2 .mod (.op1 .int (.op2 .add (.op2 .add (.op2 .mul (.dg (.var 0) 2) (.lit (.int 48271))) (.op2 .mul (.op2 .mod (.var 3) (.lit (.int 2147483563))) (.lit (.int 17)))) (.lit (.int 5)))) (.lit (.int 2147483647)))))) .skip) (.seq (.ife (.op2 .ge (.dg (.var 0) 1) (.op2 .pow (.lit (.int 10)) (.lit (.int 6)))) (.seq (.asg (.nm 4) (.op2 .mod (.op1 .int (.dg (.var 0) 1)) (.var 1))) (.seq (.dset (.var 0) 1 (.op2 .fdiv (.dg (.var 0) 1) (.var 1))) (.ret (.var 4)))) .skip) (.seq (.dset (.var 0) 2 (.op2 .mod (.op1 .int (.op2 .add (.op2 .mul (.dg (.var 0) 2) (.lit (.int 69621))) (.lit (.int 13)))) (.lit (.int 2147483647)))) (.ret (.op2 .mod (.op1 .int (.op2 .fdiv (.dg (.var 0) 2) (.lit (.int 59)))) (.var 1)))))))
def b13 : Sm := (.seq (.asg (.nm 2) (.lst (.cons (.tup (.cons (.var 0) (.cons (.var 1) .nil))) .nil))) (.seq (.wh (.op2 .ne (.var 2) (.lst .nil)) (.seq (.popA (.tp (.cn (.nm 3) (.cn (.nm 4) .nl))) 2) (.ife (.op1 (.isi .tuple) (.var 4)) (.seq (.ife (.orr (.nt (.op1 (.isi .tuple) (.var 3))) (.op2 .ne (.op1 .len (.var 3)) (.op1 .len (.var 4)))) (.ret (.lit (.bl false))) .skip) (.ext 2 (.cmp (.tup (.cons (.op2 .ix (.var 3) (.var 5)) (.cons (.op2 .ix (.var 4) (.var 5)) .nil))) (.nm 5) (.r1 (.op1 .len (.var 4))) .yes))) (.ife (.op1 .isN (.var 4)) (.ife (.op1 .ntN (.var 3)) (.ret (.lit (.bl false))) .skip) (.ife (.op1 (.isi .bool) (.var 4)) (.ife (.orr (.nt (.op1 (.isi .bool) (.var 3))) (.op2 .ne (.var 3) (.var 4))) (.ret (.lit (.bl false))) .skip) (.ife (.op1 (.isi .str) (.var 4)) (.ife (.orr (.nt (.op1 (.isi .str) (.var 3))) (.op2 .ne (.var 3) (.var 4))) (.ret (.lit (.bl false))) .skip) (.ife (.orr (.nt (.op1 (.isi .int) (.var 3))) (.orr (.op1 (.isi .bool) (.var 3)) (.op2 .ne (.var 3) (.var 4)))) (.ret (.lit (.bl false))) .skip))))))) (.ret (.lit (.bl true)))))
def b14 : Sm := (.seq (.asg (.nm 2) (.lit (.int 1))) (.seq (.forS (.nm 3) (.r1 (.var 1)) (.asg (.nm 2) (.op2 .fdiv (.op2 .mul (.var 2) (.op2 .sub (.var 0) (.var 3))) (.op2 .add (.var 3) (.lit (.int 1)))))) (.ret (.var 2))))
def b15 : Sm := (.seq (.asg (.tp (.cn (.nm 2) (.cn (.nm 3) (.cn (.nm 4) .nl)))) (.tup (.cons (.lst (.cons (.lit (.int 0)) (.cons (.lit (.int 0)) .nil))) (.cons (.lst (.cons (.lit (.int 0)) (.cons (.lit (.int 1)) .nil))) (.cons (.lst (.cons (.lit (.int 1)) (.cons (.lit (.int 1)) .nil))) .nil))))) (.seq (.forS (.nm 5) (.r2 (.lit (.int 2)) (.op2 .add (.var 0) (.lit (.int 1)))) (.seq (.asg (.nm 6) (.op1 .sum (.cmp (.op2 .mul (.op2 .mul (.pcl 14 (.cons (.var 5) (.cons (.var 7) .nil))) (.op2 .ix (.var 3) (.var 7))) (.op2 .ix (.var 4) (.op2 .sub (.var 5) (.var 7)))) (.nm 7) (.r2 (.lit (.int 1)) (.var 5)) .yes))) (.seq (.app 2 (.var 6)) (.seq (.app 3 (.op2 .mul (.op2 .sub (.var 1) (.lit (.int 1))) (.var 6))) (.app 4 (.op2 .add (.var 6) (.op2 .ix (.var 3) (.var 5)))))))) (.ret (.var 2))))
def b16 : Sm := (.seq (.asg (.nm 1) (.lit (.int 1))) (.seq (.forS (.nm 2) (.r2 (.lit (.int 2)) (.op2 .add (.var 0) (.lit (.int 1)))) (.asg (.nm 1) (.op2 .mul (.var 1) (.var 2)))) (.ret (.var 1))))
def b17 : Sm := (.seq (.asg (.nm 3) (.lit (.str "told"))) (.seq (.tryS (.asg (.nm 4) (.ife (.op2 .eq (.var 0) (.lit (.int 0))) (.pcl 9 (.cons (.var 1) (.cons (.var 2) .nil))) (.pcl 10 (.cons (.var 1) .nil)))) (.hcons 1 (.asg (.nm 3) (.lit (.str "count"))) (.hcons 2 (.asg (.nm 3) (.lit (.str "axes"))) (.hcons 0 (.asg (.nm 3) (.lit (.str "more"))) .hnil)))) (.ret (.var 3))))
def b18 : Sm := (.seq (.asg (.nm 2) (.lst (.cons (.lit (.int 1)) (.cons (.lit (.int 2)) (.cons (.lit (.int 6)) (.cons (.lit (.int 22)) (.cons (.lit (.int 90)) (.cons (.lit (.int 394)) (.cons (.lit (.int 1806)) (.cons (.lit (.int 8558)) .nil)))))))))) (.seq (.forS (.nm 3) (.r1 (.op2 .add (.lit (.int 3)) (.op2 .min (.op1 .len (.var 0)) (.lit (.int 6))))) (.seq (.asg (.tp (.cn (.nm 4) (.cn (.nm 5) .nl))) (.tup (.cons (.op2 .ix (.lst (.cons (.lit (.int 1)) (.cons (.lit (.int 2)) (.cons (.lit (.int 12)) (.cons (.op2 .add (.lit (.int 1)) (.call 12 (.cons (.var 1) (.cons (.lit (.int 12)) .nil)))) .nil))))) (.call 12 (.cons (.var 1) (.cons (.lit (.int 4)) .nil)))) (.cons (.op2 .add (.lit (.int 1)) (.call 12 (.cons (.var 1) (.cons (.lit (.int 4)) .nil)))) .nil)))) (.seq (.asg (.nm 6) (.ife (.op2 .eq (.var 4) (.lit (.int 1))) (.lit (.int 1)) (.op2 .mul (.var 5) (.op2 .ix (.pcl 15 (.cons (.var 4) (.cons (.var 5) .nil))) (.var 4))))) (.seq (.ife (.orr (.nt (.pcl 13 (.cons (.pcl 9 (.cons (.var 4) (.cons (.var 5) .nil))) (.cons (.var 6) .nil)))) (.nt (.pcl 13 (.cons (.pcl 9 (.cons (.var 4) (.cons (.lit (.int 1)) .nil))) (.cons (.pcl 16 (.cons (.var 4) .nil)) .nil))))) (.ret (.lit (.bl false))) .skip) (.seq (.ife (.orr (.nt (.pcl 13 (.cons (.pcl 10 (.cons (.var 4) .nil)) (.cons (.ife (.op2 .eq (.var 4) (.lit (.int 1))) (.lit (.int 1)) (.op2 .mul (.lit (.int 2)) (.op2 .ix (.pcl 15 (.cons (.var 4) (.cons (.lit (.int 2)) .nil))) (.var 4)))) .nil)))) (.nt (.pcl 13 (.cons (.pcl 10 (.cons (.var 4) .nil)) (.cons (.pcl 9 (.cons (.var 4) (.cons (.lit (.int 2)) .nil))) .nil))))) (.ret (.lit (.bl false))) .skip) (.seq (.ife (.an (.op2 .lt (.var 4) (.lit (.int 9))) (.op2 .ne (.pcl 10 (.cons (.var 4) .nil)) (.op2 .mul (.pcl 16 (.cons (.var 4) .nil)) (.op2 .ix (.var 2) (.op2 .sub (.var 4) (.lit (.int 1))))))) (.ret (.lit (.bl false))) .skip) (.seq (.asg (.tp (.cn (.nm 7) (.cn (.nm 8) .nl))) (.tup (.cons (.op2 .ix (.lst (.cons (.lit (.int 0)) (.cons (.lit (.int 13)) (.cons (.op1 .neg (.lit (.int 1))) (.cons (.lit .non) (.cons (.lit (.bl true)) (.cons (.lit (.str "3")) .nil))))))) (.call 12 (.cons (.var 1) (.cons (.lit (.int 6)) .nil)))) (.cons (.op2 .ix (.lst (.cons (.lit (.int 0)) (.cons (.lit (.int 5)) (.cons (.lit .non) (.cons (.lit (.bl true)) (.cons (.tup (.cons (.lit (.int 2)) .nil)) .nil)))))) (.call 12 (.cons (.var 1) (.cons (.lit (.int 5)) .nil)))) .nil)))) (.ife (.op2 .ne (.lst (.cons (.pcl 17 (.cons (.lit (.int 0)) (.cons (.var 7) (.cons (.var 8) .nil)))) (.cons (.pcl 17 (.cons (.lit (.int 0)) (.cons (.var 4) (.cons (.var 8) .nil)))) (.cons (.pcl 17 (.cons (.lit (.int 1)) (.cons (.var 7) (.cons (.lit .non) .nil)))) (.cons (.pcl 17 (.cons (.lit (.int 0)) (.cons (.var 7) (.cons (.lit (.int 2)) .nil)))) .nil))))) (.lst (.cons (.lit (.str "count")) (.cons (.lit (.str "axes")) (.cons (.lit (.str "count")) (.cons (.lit (.str "count")) .nil)))))) (.ret (.lit (.bl false))) .skip)))))))) (.ret (.an (.op2 .eq (.cmp (.pcl 10 (.cons (.op2 .add (.var 9) (.lit (.int 1))) .nil)) (.nm 9) (.r1 (.lit (.int 6))) .yes) (.lst (.cons (.lit (.int 1)) (.cons (.lit (.int 4)) (.cons (.lit (.int 36)) (.cons (.lit (.int 528)) (.cons (.lit (.int 10800)) (.cons (.lit (.int 283680)) .nil)))))))) (.op2 .eq (.pcl 9 (.cons (.lit (.int 3)) (.cons (.lit (.int 3)) .nil))) (.lit (.int 90)))))))
def tbl : Nat → Option Fd
  | 0 => some ⟨b0, 1, 1⟩
  | 1 => some ⟨b1, 3, 3⟩
  | 2 => some ⟨b2, 1, 1⟩
  | 3 => some ⟨b3, 1, 1⟩
  | 4 => some ⟨b4, 2, 2⟩
  | 5 => some ⟨b5, 1, 1⟩
  | 6 => some ⟨b6, 4, 2⟩
  | 7 => some ⟨b7, 8, 2⟩
  | 8 => some ⟨b8, 2, 2⟩
  | 9 => some ⟨b9, 2, 2⟩
  | 10 => some ⟨b10, 1, 1⟩
  | 11 => some ⟨b11, 2, 1⟩
  | 12 => some ⟨b12, 5, 2⟩
  | 13 => some ⟨b13, 6, 2⟩
  | 14 => some ⟨b14, 4, 2⟩
  | 15 => some ⟨b15, 8, 2⟩
  | 16 => some ⟨b16, 3, 1⟩
  | 17 => some ⟨b17, 5, 3⟩
  | _ => none
theorem S0 : FnScope ["thing"] ["thing"] (defScope (top 7)) := ⟨rfl, rfl, rfl, by decide +kernel, rfl, by decide +kernel, by decide +kernel⟩
theorem S1 : FnScope ["thing", "low", "high"] ["thing", "low", "high"] (defScope (top 8)) := ⟨rfl, rfl, rfl, by decide +kernel, rfl, by decide +kernel, by decide +kernel⟩
theorem S2 : FnScope ["thing"] ["thing"] (defScope (top 9)) := ⟨rfl, rfl, rfl, by decide +kernel, rfl, by decide +kernel, by decide +kernel⟩
theorem S3 : FnScope ["thing"] ["thing"] (defScope (top 10)) := ⟨rfl, rfl, rfl, by decide +kernel, rfl, by decide +kernel, by decide +kernel⟩
theorem S4 : FnScope ["n", "d"] ["n", "d"] (defScope (top 12)) := ⟨rfl, rfl, rfl, by decide +kernel, rfl, by decide +kernel, by decide +kernel⟩
theorem S5 : FnScope ["n"] ["n"] (defScope (top 14)) := ⟨rfl, rfl, rfl, by decide +kernel, rfl, by decide +kernel, by decide +kernel⟩
theorem S6 : FnScope ["n", "k", "found", "step"] ["n", "k"] (defScope (top 16)) := ⟨rfl, rfl, rfl, by decide +kernel, rfl, by decide +kernel, by decide +kernel⟩
theorem S7 : FnScope ["n", "d", "topped", "parts", "rows", "size", "found", "k"] ["n", "d"] (defScope (top 17)) := ⟨rfl, rfl, rfl, by decide +kernel, rfl, by decide +kernel, by decide +kernel⟩
theorem S8 : FnScope ["n", "d"] ["n", "d"] (defScope (top 18)) := ⟨rfl, rfl, rfl, by decide +kernel, rfl, by decide +kernel, by decide +kernel⟩
theorem S9 : FnScope ["n", "d"] ["n", "d"] (defScope (top 19)) := ⟨rfl, rfl, rfl, by decide +kernel, rfl, by decide +kernel, by decide +kernel⟩
theorem S10 : FnScope ["n"] ["n"] (defScope (top 20)) := ⟨rfl, rfl, rfl, by decide +kernel, rfl, by decide +kernel, by decide +kernel⟩
theorem S11 : FnScope ["script", "cell"] ["script"] (defScope (top 22)) := ⟨rfl, rfl, rfl, by decide +kernel, rfl, by decide +kernel, by decide +kernel⟩
theorem S12 : FnScope ["deal", "many", "cells", "cell", "found"] ["deal", "many"] (defScope (top 23)) := ⟨rfl, rfl, rfl, by decide +kernel, rfl, by decide +kernel, by decide +kernel⟩
theorem S13 : FnScope ["told", "due", "waiting", "one", "two", "k"] ["told", "due"] (defScope (top 24)) := ⟨rfl, rfl, rfl, by decide +kernel, rfl, by decide +kernel, by decide +kernel⟩
theorem S14 : FnScope ["n", "k", "found", "step"] ["n", "k"] (defScope (top 25)) := ⟨rfl, rfl, rfl, by decide +kernel, rfl, by decide +kernel, by decide +kernel⟩
theorem S15 : FnScope ["most", "d", "tops", "weights", "rows", "n", "found", "k"] ["most", "d"] (defScope (top 26)) := ⟨rfl, rfl, rfl, by decide +kernel, rfl, by decide +kernel, by decide +kernel⟩
theorem S16 : FnScope ["n", "found", "k"] ["n"] (defScope (top 27)) := ⟨rfl, rfl, rfl, by decide +kernel, rfl, by decide +kernel, by decide +kernel⟩
theorem S17 : FnScope ["which", "n", "d", "word", "told"] ["which", "n", "d"] (defScope (top 28)) := ⟨rfl, rfl, rfl, by decide +kernel, rfl, by decide +kernel, by decide +kernel⟩
theorem S18 : FnScope ["script", "deal", "known", "turn", "n", "d", "due", "bad", "odd", "k"] ["script"] (defScope (top 29)) := ⟨rfl, rfl, rfl, by decide +kernel, rfl, by decide +kernel, by decide +kernel⟩
theorem bn0 {K : PySem.W.Frag} {f : Addr} {fd : FuncData} (F : FunD K "is_int" "is_int" (defArgs (top 7)) (defBody (top 7)) (defScope (top 7)) [] [] f fd) : Binds K fd ["thing"] [] := F.bindsN fun _ _ _ _ _ _ us hl => match us, hl with | [_], _ => rfl
theorem bn1 {K : PySem.W.Frag} {f : Addr} {fd : FuncData} (F : FunD K "within" "within" (defArgs (top 8)) (defBody (top 8)) (defScope (top 8)) [] [] f fd) : Binds K fd ["thing", "low", "high"] [] := F.bindsN fun _ _ _ _ _ _ us hl => match us, hl with | [_, _, _], _ => rfl
theorem bn2 {K : PySem.W.Frag} {f : Addr} {fd : FuncData} (F : FunD K "is_count" "is_count" (defArgs (top 9)) (defBody (top 9)) (defScope (top 9)) [] [] f fd) : Binds K fd ["thing"] [] := F.bindsN fun _ _ _ _ _ _ us hl => match us, hl with | [_], _ => rfl
theorem bn3 {K : PySem.W.Frag} {f : Addr} {fd : FuncData} (F : FunD K "is_axes_count" "is_axes_count" (defArgs (top 10)) (defBody (top 10)) (defScope (top 10)) [] [] f fd) : Binds K fd ["thing"] [] := F.bindsN fun _ _ _ _ _ _ us hl => match us, hl with | [_], _ => rfl
theorem bn4 {K : PySem.W.Frag} {f : Addr} {fd : FuncData} (F : FunD K "need_counts" "need_counts" (defArgs (top 12)) (defBody (top 12)) (defScope (top 12)) [] [] f fd) : Binds K fd ["n", "d"] [] := F.bindsN fun _ _ _ _ _ _ us hl => match us, hl with | [_, _], _ => rfl
theorem bn5 {K : PySem.W.Frag} {f : Addr} {fd : FuncData} (F : FunD K "need_count" "need_count" (defArgs (top 14)) (defBody (top 14)) (defScope (top 14)) [] [] f fd) : Binds K fd ["n"] [] := F.bindsN fun _ _ _ _ _ _ us hl => match us, hl with | [_], _ => rfl
theorem bn6 {K : PySem.W.Frag} {f : Addr} {fd : FuncData} (F : FunD K "choices" "choices" (defArgs (top 16)) (defBody (top 16)) (defScope (top 16)) [] [] f fd) : Binds K fd ["n", "k"] [] := F.bindsN fun _ _ _ _ _ _ us hl => match us, hl with | [_, _], _ => rfl
theorem bn7 {K : PySem.W.Frag} {f : Addr} {fd : FuncData} (F : FunD K "topped_counts" "topped_counts" (defArgs (top 17)) (defBody (top 17)) (defScope (top 17)) [] [] f fd) : Binds K fd ["n", "d"] [] := F.bindsN fun _ _ _ _ _ _ us hl => match us, hl with | [_, _], _ => rfl
theorem bn8 {K : PySem.W.Frag} {f : Addr} {fd : FuncData} (F : FunD K "trees_count_in" "trees_count_in" (defArgs (top 18)) (defBody (top 18)) (defScope (top 18)) [] [] f fd) : Binds K fd ["n", "d"] [] := F.bindsN fun _ _ _ _ _ _ us hl => match us, hl with | [_, _], _ => rfl
theorem bn9 {K : PySem.W.Frag} {f : Addr} {fd : FuncData} (F : FunD K "trees_count" "trees_count" (defArgs (top 19)) (defBody (top 19)) (defScope (top 19)) [] [] f fd) : Binds K fd ["n", "d"] [] := F.bindsN fun _ _ _ _ _ _ us hl => match us, hl with | [_, _], _ => rfl
theorem bk9 {K : PySem.W.Frag} {f : Addr} {fd : FuncData} (F : FunD K "trees_count" "trees_count" (defArgs (top 19)) (defBody (top 19)) (defScope (top 19)) [] [] f fd) : KwB K fd ["n", "d"] ["n", "d"] := kwB_of F fun _ _ _ _ _ _ us hl => match us, hl with | [_, _], _ => rfl
theorem bn10 {K : PySem.W.Frag} {f : Addr} {fd : FuncData} (F : FunD K "cutting_count" "cutting_count" (defArgs (top 20)) (defBody (top 20)) (defScope (top 20)) [] [] f fd) : Binds K fd ["n"] [] := F.bindsN fun _ _ _ _ _ _ us hl => match us, hl with | [_], _ => rfl
theorem bk10 {K : PySem.W.Frag} {f : Addr} {fd : FuncData} (F : FunD K "cutting_count" "cutting_count" (defArgs (top 20)) (defBody (top 20)) (defScope (top 20)) [] [] f fd) : KwB K fd ["n"] ["n"] := kwB_of F fun _ _ _ _ _ _ us hl => match us, hl with | [_], _ => rfl
theorem bn11 {K : PySem.W.Frag} {f : Addr} {fd : FuncData} (F : FunD K "_law_deal" "_law_deal" (defArgs (top 22)) (defBody (top 22)) (defScope (top 22)) [] [] f fd) : Binds K fd ["script"] [] := F.bindsN fun _ _ _ _ _ _ us hl => match us, hl with | [_], _ => rfl
theorem bn12 {K : PySem.W.Frag} {f : Addr} {fd : FuncData} (F : FunD K "_law_take" "_law_take" (defArgs (top 23)) (defBody (top 23)) (defScope (top 23)) [] [] f fd) : Binds K fd ["deal", "many"] [] := F.bindsN fun _ _ _ _ _ _ us hl => match us, hl with | [_, _], _ => rfl
theorem bn13 {K : PySem.W.Frag} {f : Addr} {fd : FuncData} (F : FunD K "_law_same" "_law_same" (defArgs (top 24)) (defBody (top 24)) (defScope (top 24)) [] [] f fd) : Binds K fd ["told", "due"] [] := F.bindsN fun _ _ _ _ _ _ us hl => match us, hl with | [_, _], _ => rfl
theorem bn14 {K : PySem.W.Frag} {f : Addr} {fd : FuncData} (F : FunD K "_law_over" "_law_over" (defArgs (top 25)) (defBody (top 25)) (defScope (top 25)) [] [] f fd) : Binds K fd ["n", "k"] [] := F.bindsN fun _ _ _ _ _ _ us hl => match us, hl with | [_, _], _ => rfl
theorem bn15 {K : PySem.W.Frag} {f : Addr} {fd : FuncData} (F : FunD K "_law_counts" "_law_counts" (defArgs (top 26)) (defBody (top 26)) (defScope (top 26)) [] [] f fd) : Binds K fd ["most", "d"] [] := F.bindsN fun _ _ _ _ _ _ us hl => match us, hl with | [_, _], _ => rfl
theorem bn16 {K : PySem.W.Frag} {f : Addr} {fd : FuncData} (F : FunD K "_law_many" "_law_many" (defArgs (top 27)) (defBody (top 27)) (defScope (top 27)) [] [] f fd) : Binds K fd ["n"] [] := F.bindsN fun _ _ _ _ _ _ us hl => match us, hl with | [_], _ => rfl
theorem bn17 {K : PySem.W.Frag} {f : Addr} {fd : FuncData} (F : FunD K "_law_word" "_law_word" (defArgs (top 28)) (defBody (top 28)) (defScope (top 28)) [] [] f fd) : Binds K fd ["which", "n", "d"] [] := F.bindsN fun _ _ _ _ _ _ us hl => match us, hl with | [_, _, _], _ => rfl
theorem bn18 {K : PySem.W.Frag} {f : Addr} {fd : FuncData} (F : FunD K "law" "law" (defArgs (top 29)) (defBody (top 29)) (defScope (top 29)) [] [] f fd) : Binds K fd ["script"] [] := F.bindsN fun _ _ _ _ _ _ us hl => match us, hl with | [_], _ => rfl
def cl (K : PySem.W.Frag) : Nat → Value
  | 0 => .ref (He.ga K "BoxError")
  | 1 => .ref (He.ga K "BadCount")
  | 2 => .ref (He.ga K "BadAxes")
  | _ => .ref (He.ga K "BoxError")
structure Fx (K : PySem.W.Frag) (mg : Str → Option Value) (fd : Nat → FuncData) : Prop where
  bi : Bi mg
  g0 : mg "is_int" = some (.ref (He.ga K "is_int"))
  f0 : FunD K "is_int" "is_int" (defArgs (top 7)) (defBody (top 7)) (defScope (top 7)) [] [] (He.ga K "is_int") (fd 0)
  g1 : mg "within" = some (.ref (He.ga K "within"))
  f1 : FunD K "within" "within" (defArgs (top 8)) (defBody (top 8)) (defScope (top 8)) [] [] (He.ga K "within") (fd 1)
  g2 : mg "is_count" = some (.ref (He.ga K "is_count"))
  f2 : FunD K "is_count" "is_count" (defArgs (top 9)) (defBody (top 9)) (defScope (top 9)) [] [] (He.ga K "is_count") (fd 2)
  g3 : mg "is_axes_count" = some (.ref (He.ga K "is_axes_count"))
  f3 : FunD K "is_axes_count" "is_axes_count" (defArgs (top 10)) (defBody (top 10)) (defScope (top 10)) [] [] (He.ga K "is_axes_count") (fd 3)
  g4 : mg "need_counts" = some (.ref (He.ga K "need_counts"))
  f4 : FunD K "need_counts" "need_counts" (defArgs (top 12)) (defBody (top 12)) (defScope (top 12)) [] [] (He.ga K "need_counts") (fd 4)
  g5 : mg "need_count" = some (.ref (He.ga K "need_count"))
  f5 : FunD K "need_count" "need_count" (defArgs (top 14)) (defBody (top 14)) (defScope (top 14)) [] [] (He.ga K "need_count") (fd 5)
  g6 : mg "choices" = some (.ref (He.ga K "choices"))
  f6 : FunD K "choices" "choices" (defArgs (top 16)) (defBody (top 16)) (defScope (top 16)) [] [] (He.ga K "choices") (fd 6)
  g7 : mg "topped_counts" = some (.ref (He.ga K "topped_counts"))
  f7 : FunD K "topped_counts" "topped_counts" (defArgs (top 17)) (defBody (top 17)) (defScope (top 17)) [] [] (He.ga K "topped_counts") (fd 7)
  g8 : mg "trees_count_in" = some (.ref (He.ga K "trees_count_in"))
  f8 : FunD K "trees_count_in" "trees_count_in" (defArgs (top 18)) (defBody (top 18)) (defScope (top 18)) [] [] (He.ga K "trees_count_in") (fd 8)
  g9 : mg "trees_count" = some (.ref (He.ga K "trees_count"))
  f9 : FunD K "trees_count" "trees_count" (defArgs (top 19)) (defBody (top 19)) (defScope (top 19)) [] [] (He.ga K "trees_count") (fd 9)
  g10 : mg "cutting_count" = some (.ref (He.ga K "cutting_count"))
  f10 : FunD K "cutting_count" "cutting_count" (defArgs (top 20)) (defBody (top 20)) (defScope (top 20)) [] [] (He.ga K "cutting_count") (fd 10)
  g11 : mg "_law_deal" = some (.ref (He.ga K "_law_deal"))
  f11 : FunD K "_law_deal" "_law_deal" (defArgs (top 22)) (defBody (top 22)) (defScope (top 22)) [] [] (He.ga K "_law_deal") (fd 11)
  g12 : mg "_law_take" = some (.ref (He.ga K "_law_take"))
  f12 : FunD K "_law_take" "_law_take" (defArgs (top 23)) (defBody (top 23)) (defScope (top 23)) [] [] (He.ga K "_law_take") (fd 12)
  g13 : mg "_law_same" = some (.ref (He.ga K "_law_same"))
  f13 : FunD K "_law_same" "_law_same" (defArgs (top 24)) (defBody (top 24)) (defScope (top 24)) [] [] (He.ga K "_law_same") (fd 13)
  g14 : mg "_law_over" = some (.ref (He.ga K "_law_over"))
  f14 : FunD K "_law_over" "_law_over" (defArgs (top 25)) (defBody (top 25)) (defScope (top 25)) [] [] (He.ga K "_law_over") (fd 14)
  g15 : mg "_law_counts" = some (.ref (He.ga K "_law_counts"))
  f15 : FunD K "_law_counts" "_law_counts" (defArgs (top 26)) (defBody (top 26)) (defScope (top 26)) [] [] (He.ga K "_law_counts") (fd 15)
  g16 : mg "_law_many" = some (.ref (He.ga K "_law_many"))
  f16 : FunD K "_law_many" "_law_many" (defArgs (top 27)) (defBody (top 27)) (defScope (top 27)) [] [] (He.ga K "_law_many") (fd 16)
  g17 : mg "_law_word" = some (.ref (He.ga K "_law_word"))
  f17 : FunD K "_law_word" "_law_word" (defArgs (top 28)) (defBody (top 28)) (defScope (top 28)) [] [] (He.ga K "_law_word") (fd 17)
  g18 : mg "law" = some (.ref (He.ga K "law"))
  f18 : FunD K "law" "law" (defArgs (top 29)) (defBody (top 29)) (defScope (top 29)) [] [] (He.ga K "law") (fd 18)
  i_MOST_AXES : ∃ t, mg "MOST_AXES" = some (.int 4 t)
  i_MOST_BOXES : ∃ t, mg "MOST_BOXES" = some (.int 12 t)
  x_BoxError : mg "BoxError" = some (.ref (He.ga K "BoxError"))
  e_BoxError : PySem.W.excIn K (He.ga K "BoxError") He.veBase "ValueError.__new__" = true ∧ PySem.W.keepIn K (.ref (He.ga K "BoxError")) = true ∧ PySem.W.subIn K (.ref (He.ga K "BoxError")) (.type "BaseException") = some true ∧ PySem.W.typeIn K (.ref (He.ga K "BoxError")) = some (.type "type")
  x_BadCount : mg "BadCount" = some (.ref (He.ga K "BadCount"))
  e_BadCount : PySem.W.excIn K (He.ga K "BadCount") He.veBase "ValueError.__new__" = true ∧ PySem.W.keepIn K (.ref (He.ga K "BadCount")) = true ∧ PySem.W.subIn K (.ref (He.ga K "BadCount")) (.type "BaseException") = some true ∧ PySem.W.typeIn K (.ref (He.ga K "BadCount")) = some (.type "type")
  x_BadAxes : mg "BadAxes" = some (.ref (He.ga K "BadAxes"))
  e_BadAxes : PySem.W.excIn K (He.ga K "BadAxes") He.veBase "ValueError.__new__" = true ∧ PySem.W.keepIn K (.ref (He.ga K "BadAxes")) = true ∧ PySem.W.subIn K (.ref (He.ga K "BadAxes")) (.type "BaseException") = some true ∧ PySem.W.typeIn K (.ref (He.ga K "BadAxes")) = some (.type "type")
  m_0_0 : PySem.W.exmOne K (.ref (He.ga K "BoxError")) (.ref (He.ga K "BoxError")) = some true
  m_1_0 : PySem.W.exmOne K (.ref (He.ga K "BadCount")) (.ref (He.ga K "BoxError")) = some true
  m_2_0 : PySem.W.exmOne K (.ref (He.ga K "BadAxes")) (.ref (He.ga K "BoxError")) = some true
  m_0_1 : PySem.W.exmOne K (.ref (He.ga K "BoxError")) (.ref (He.ga K "BadCount")) = some false
  m_1_1 : PySem.W.exmOne K (.ref (He.ga K "BadCount")) (.ref (He.ga K "BadCount")) = some true
  m_2_1 : PySem.W.exmOne K (.ref (He.ga K "BadAxes")) (.ref (He.ga K "BadCount")) = some false
  m_0_2 : PySem.W.exmOne K (.ref (He.ga K "BoxError")) (.ref (He.ga K "BadAxes")) = some false
  m_1_2 : PySem.W.exmOne K (.ref (He.ga K "BadCount")) (.ref (He.ga K "BadAxes")) = some false
  m_2_2 : PySem.W.exmOne K (.ref (He.ga K "BadAxes")) (.ref (He.ga K "BadAxes")) = some true
theorem exh0 {K : PySem.W.Frag} {mg : Str → Option Value} {fd : Nat → FuncData} (hy : Fx K mg fd) : ∀ j, PySem.W.exmOne K (cl K j) (cl K 0) = some (decide (0 = 0 ∨ 0 = j))
  | 0 => hy.m_0_0
  | 1 => hy.m_1_0
  | 2 => hy.m_2_0
  | j + 3 => by
    have e : decide (0 = 0 ∨ 0 = j + 3) = true := by simp <;> omega
    rw [e]
    exact hy.m_0_0
theorem exh1 {K : PySem.W.Frag} {mg : Str → Option Value} {fd : Nat → FuncData} (hy : Fx K mg fd) : ∀ j, PySem.W.exmOne K (cl K j) (cl K 1) = some (decide (1 = 0 ∨ 1 = j))
  | 0 => hy.m_0_1
  | 1 => hy.m_1_1
  | 2 => hy.m_2_1
  | j + 3 => by
    have e : decide (1 = 0 ∨ 1 = j + 3) = false := by simp <;> omega
    rw [e]
    exact hy.m_0_1
theorem exh2 {K : PySem.W.Frag} {mg : Str → Option Value} {fd : Nat → FuncData} (hy : Fx K mg fd) : ∀ j, PySem.W.exmOne K (cl K j) (cl K 2) = some (decide (2 = 0 ∨ 2 = j))
  | 0 => hy.m_0_2
  | 1 => hy.m_1_2
  | 2 => hy.m_2_2
  | j + 3 => by
    have e : decide (2 = 0 ∨ 2 = j + 3) = false := by simp <;> omega
    rw [e]
    exact hy.m_0_2
structure Oks (P : Program) (w : World) (K : PySem.W.Frag) (mg : Str → Option Value) (base : Heap) (fd : Nat → FuncData) (n : Nat) : Prop where
  o0 : FnOk P w K mg base (L2.CX P w) n (He.ga K "is_int") (fd 0) ["thing"] (spF K (cl K) (Fn tbl n 0))
  o1 : FnOk P w K mg base (L2.CX P w) n (He.ga K "within") (fd 1) ["thing", "low", "high"] (spF K (cl K) (Fn tbl n 1))
  o2 : FnOk P w K mg base (L2.CX P w) n (He.ga K "is_count") (fd 2) ["thing"] (spF K (cl K) (Fn tbl n 2))
  o3 : FnOk P w K mg base (L2.CX P w) n (He.ga K "is_axes_count") (fd 3) ["thing"] (spF K (cl K) (Fn tbl n 3))
  o4 : FnOk P w K mg base (L2.CX P w) n (He.ga K "need_counts") (fd 4) ["n", "d"] (spF K (cl K) (Fn tbl n 4))
  o5 : FnOk P w K mg base (L2.CX P w) n (He.ga K "need_count") (fd 5) ["n"] (spF K (cl K) (Fn tbl n 5))
  o6 : FnOk P w K mg base (L2.CX P w) n (He.ga K "choices") (fd 6) ["n", "k"] (spF K (cl K) (Fn tbl n 6))
  o7 : FnOk P w K mg base (L2.CX P w) n (He.ga K "topped_counts") (fd 7) ["n", "d"] (spF K (cl K) (Fn tbl n 7))
  o8 : FnOk P w K mg base (L2.CX P w) n (He.ga K "trees_count_in") (fd 8) ["n", "d"] (spF K (cl K) (Fn tbl n 8))
  o9 : FnOk P w K mg base (L2.CX P w) n (He.ga K "trees_count") (fd 9) ["n", "d"] (spF K (cl K) (Fn tbl n 9))
  o10 : FnOk P w K mg base (L2.CX P w) n (He.ga K "cutting_count") (fd 10) ["n"] (spF K (cl K) (Fn tbl n 10))
  o11 : FnOk P w K mg base (L2.CX P w) n (He.ga K "_law_deal") (fd 11) ["script"] (spF K (cl K) (Fn tbl n 11))
  o12 : FnOk P w K mg base (L2.CX P w) n (He.ga K "_law_take") (fd 12) ["deal", "many"] (spF K (cl K) (Fn tbl n 12))
  o13 : FnOk P w K mg base (L2.CX P w) n (He.ga K "_law_same") (fd 13) ["told", "due"] (spF K (cl K) (Fn tbl n 13))
  o14 : FnOk P w K mg base (L2.CX P w) n (He.ga K "_law_over") (fd 14) ["n", "k"] (spF K (cl K) (Fn tbl n 14))
  o15 : FnOk P w K mg base (L2.CX P w) n (He.ga K "_law_counts") (fd 15) ["most", "d"] (spF K (cl K) (Fn tbl n 15))
  o16 : FnOk P w K mg base (L2.CX P w) n (He.ga K "_law_many") (fd 16) ["n"] (spF K (cl K) (Fn tbl n 16))
  o17 : FnOk P w K mg base (L2.CX P w) n (He.ga K "_law_word") (fd 17) ["which", "n", "d"] (spF K (cl K) (Fn tbl n 17))
section
variable {P : Program} {w : World} {K : PySem.W.Frag} {mg : Str → Option Value} {base : Heap} {fd : Nat → FuncData} {n : Nat} (hy : Fx K mg fd) (ok : Oks P w K mg base fd n)
include hy ok
theorem d0 (cdv : Value) (A : Around) (outer : List Env) (s : Shared) (H : Hp) (E : XK) (hr : Room n (A.deeper (envOfC "is_int" (defScope (top 7)) s.heap.objs.size (He.ga K "is_int") cdv))) : PSs (cxOf (L2.CX P w) P w K mg base ["thing"] "is_int" (defScope (top 7)) (He.ga K "is_int") cdv A outer s H E) (defBody (top 7)) (tS K (cl K) ⟨Fn tbl n⟩ (fun c d _ H => E c d H) b0) := by
  have tk : Takes (cxOf (L2.CX P w) P w K mg base ["thing"] "is_int" (defScope (top 7)) (He.ga K "is_int") cdv A outer s H E) (fun c d _ H => E c d H) := takes_of rfl rfl rfl rfl
  have ps : PassesOwn (model (cxOf (L2.CX P w) P w K mg base ["thing"] "is_int" (defScope (top 7)) (He.ga K "is_int") cdv A outer s H E).prog (cxOf (L2.CX P w) P w K mg base ["thing"] "is_int" (defScope (top 7)) (He.ga K "is_int") cdv A outer s H E).w) (cxOf (L2.CX P w) P w K mg base ["thing"] "is_int" (defScope (top 7)) (He.ga K "is_int") cdv A outer s H E).A (cxOf (L2.CX P w) P w K mg base ["thing"] "is_int" (defScope (top 7)) (He.ga K "is_int") cdv A outer s H E).env (cxOf (L2.CX P w) P w K mg base ["thing"] "is_int" (defScope (top 7)) (He.ga K "is_int") cdv A outer s H E).xe := passes_of rfl
  exact (mss_one (ms_ret (me_and (me_isInt hy.bi rfl rfl (me_var 0)) (me_one (me_not (me_isBool hy.bi rfl rfl (me_var 0)))))))
theorem d1 (cdv : Value) (A : Around) (outer : List Env) (s : Shared) (H : Hp) (E : XK) (hr : Room n (A.deeper (envOfC "within" (defScope (top 8)) s.heap.objs.size (He.ga K "within") cdv))) : PSs (cxOf (L2.CX P w) P w K mg base ["thing", "low", "high"] "within" (defScope (top 8)) (He.ga K "within") cdv A outer s H E) (defBody (top 8)) (tS K (cl K) ⟨Fn tbl n⟩ (fun c d _ H => E c d H) b1) := by
  have tk : Takes (cxOf (L2.CX P w) P w K mg base ["thing", "low", "high"] "within" (defScope (top 8)) (He.ga K "within") cdv A outer s H E) (fun c d _ H => E c d H) := takes_of rfl rfl rfl rfl
  have ps : PassesOwn (model (cxOf (L2.CX P w) P w K mg base ["thing", "low", "high"] "within" (defScope (top 8)) (He.ga K "within") cdv A outer s H E).prog (cxOf (L2.CX P w) P w K mg base ["thing", "low", "high"] "within" (defScope (top 8)) (He.ga K "within") cdv A outer s H E).w) (cxOf (L2.CX P w) P w K mg base ["thing", "low", "high"] "within" (defScope (top 8)) (He.ga K "within") cdv A outer s H E).A (cxOf (L2.CX P w) P w K mg base ["thing", "low", "high"] "within" (defScope (top 8)) (He.ga K "within") cdv A outer s H E).env (cxOf (L2.CX P w) P w K mg base ["thing", "low", "high"] "within" (defScope (top 8)) (He.ga K "within") cdv A outer s H E).xe := passes_of rfl
  exact (mss_one (ms_ret (me_and (me_pcl ok.o0 hr rfl hy.g0 hy.f0.kp (bn0 hy.f0) tk (ma_cons (me_var 0) ma_nil)) (me_one (me_chn cm_le cm_le (me_var 1) (me_var 0) (me_var 2))))))
theorem d2 (cdv : Value) (A : Around) (outer : List Env) (s : Shared) (H : Hp) (E : XK) (hr : Room n (A.deeper (envOfC "is_count" (defScope (top 9)) s.heap.objs.size (He.ga K "is_count") cdv))) : PSs (cxOf (L2.CX P w) P w K mg base ["thing"] "is_count" (defScope (top 9)) (He.ga K "is_count") cdv A outer s H E) (defBody (top 9)) (tS K (cl K) ⟨Fn tbl n⟩ (fun c d _ H => E c d H) b2) := by
  have tk : Takes (cxOf (L2.CX P w) P w K mg base ["thing"] "is_count" (defScope (top 9)) (He.ga K "is_count") cdv A outer s H E) (fun c d _ H => E c d H) := takes_of rfl rfl rfl rfl
  have ps : PassesOwn (model (cxOf (L2.CX P w) P w K mg base ["thing"] "is_count" (defScope (top 9)) (He.ga K "is_count") cdv A outer s H E).prog (cxOf (L2.CX P w) P w K mg base ["thing"] "is_count" (defScope (top 9)) (He.ga K "is_count") cdv A outer s H E).w) (cxOf (L2.CX P w) P w K mg base ["thing"] "is_count" (defScope (top 9)) (He.ga K "is_count") cdv A outer s H E).A (cxOf (L2.CX P w) P w K mg base ["thing"] "is_count" (defScope (top 9)) (He.ga K "is_count") cdv A outer s H E).env (cxOf (L2.CX P w) P w K mg base ["thing"] "is_count" (defScope (top 9)) (He.ga K "is_count") cdv A outer s H E).xe := passes_of rfl
  exact (mss_one (ms_ret (me_pcl ok.o1 hr rfl hy.g1 hy.f1.kp (bn1 hy.f1) tk (ma_cons (me_var 0) (ma_cons me_int (ma_cons (hy.i_MOST_BOXES.elim fun _ h => me_globI h rfl) ma_nil))))))
theorem d3 (cdv : Value) (A : Around) (outer : List Env) (s : Shared) (H : Hp) (E : XK) (hr : Room n (A.deeper (envOfC "is_axes_count" (defScope (top 10)) s.heap.objs.size (He.ga K "is_axes_count") cdv))) : PSs (cxOf (L2.CX P w) P w K mg base ["thing"] "is_axes_count" (defScope (top 10)) (He.ga K "is_axes_count") cdv A outer s H E) (defBody (top 10)) (tS K (cl K) ⟨Fn tbl n⟩ (fun c d _ H => E c d H) b3) := by
  have tk : Takes (cxOf (L2.CX P w) P w K mg base ["thing"] "is_axes_count" (defScope (top 10)) (He.ga K "is_axes_count") cdv A outer s H E) (fun c d _ H => E c d H) := takes_of rfl rfl rfl rfl
  have ps : PassesOwn (model (cxOf (L2.CX P w) P w K mg base ["thing"] "is_axes_count" (defScope (top 10)) (He.ga K "is_axes_count") cdv A outer s H E).prog (cxOf (L2.CX P w) P w K mg base ["thing"] "is_axes_count" (defScope (top 10)) (He.ga K "is_axes_count") cdv A outer s H E).w) (cxOf (L2.CX P w) P w K mg base ["thing"] "is_axes_count" (defScope (top 10)) (He.ga K "is_axes_count") cdv A outer s H E).A (cxOf (L2.CX P w) P w K mg base ["thing"] "is_axes_count" (defScope (top 10)) (He.ga K "is_axes_count") cdv A outer s H E).env (cxOf (L2.CX P w) P w K mg base ["thing"] "is_axes_count" (defScope (top 10)) (He.ga K "is_axes_count") cdv A outer s H E).xe := passes_of rfl
  exact (mss_one (ms_ret (me_pcl ok.o1 hr rfl hy.g1 hy.f1.kp (bn1 hy.f1) tk (ma_cons (me_var 0) (ma_cons me_int (ma_cons (hy.i_MOST_AXES.elim fun _ h => me_globI h rfl) ma_nil))))))
theorem d4 (cdv : Value) (A : Around) (outer : List Env) (s : Shared) (H : Hp) (E : XK) (hr : Room n (A.deeper (envOfC "need_counts" (defScope (top 12)) s.heap.objs.size (He.ga K "need_counts") cdv))) : PSs (cxOf (L2.CX P w) P w K mg base ["n", "d"] "need_counts" (defScope (top 12)) (He.ga K "need_counts") cdv A outer s H E) (defBody (top 12)) (tS K (cl K) ⟨Fn tbl n⟩ (fun c d _ H => E c d H) b4) := by
  have tk : Takes (cxOf (L2.CX P w) P w K mg base ["n", "d"] "need_counts" (defScope (top 12)) (He.ga K "need_counts") cdv A outer s H E) (fun c d _ H => E c d H) := takes_of rfl rfl rfl rfl
  have ps : PassesOwn (model (cxOf (L2.CX P w) P w K mg base ["n", "d"] "need_counts" (defScope (top 12)) (He.ga K "need_counts") cdv A outer s H E).prog (cxOf (L2.CX P w) P w K mg base ["n", "d"] "need_counts" (defScope (top 12)) (He.ga K "need_counts") cdv A outer s H E).w) (cxOf (L2.CX P w) P w K mg base ["n", "d"] "need_counts" (defScope (top 12)) (He.ga K "need_counts") cdv A outer s H E).A (cxOf (L2.CX P w) P w K mg base ["n", "d"] "need_counts" (defScope (top 12)) (He.ga K "need_counts") cdv A outer s H E).env (cxOf (L2.CX P w) P w K mg base ["n", "d"] "need_counts" (defScope (top 12)) (He.ga K "need_counts") cdv A outer s H E).xe := passes_of rfl
  exact (mss_cons (ms_if (mt_not (mt_of bv_pcl (me_pcl ok.o2 hr rfl hy.g2 hy.f2.kp (bn2 hy.f2) tk (ma_cons (me_var 0) ma_nil)))) (mss_one (ms_raise (k := 1) rfl tk PySem.F.excBase_ValueError hy.e_BadCount.1 hy.x_BadCount hy.e_BadCount.2.1 (raises_own hy.e_BadCount.2.2.1 hy.e_BadCount.2.2.2) rfl rfl)) mss_nil) (mss_one (ms_if (mt_not (mt_of bv_pcl (me_pcl ok.o3 hr rfl hy.g3 hy.f3.kp (bn3 hy.f3) tk (ma_cons (me_var 1) ma_nil)))) (mss_one (ms_raise (k := 2) rfl tk PySem.F.excBase_ValueError hy.e_BadAxes.1 hy.x_BadAxes hy.e_BadAxes.2.1 (raises_own hy.e_BadAxes.2.2.1 hy.e_BadAxes.2.2.2) rfl rfl)) mss_nil)))
theorem d5 (cdv : Value) (A : Around) (outer : List Env) (s : Shared) (H : Hp) (E : XK) (hr : Room n (A.deeper (envOfC "need_count" (defScope (top 14)) s.heap.objs.size (He.ga K "need_count") cdv))) : PSs (cxOf (L2.CX P w) P w K mg base ["n"] "need_count" (defScope (top 14)) (He.ga K "need_count") cdv A outer s H E) (defBody (top 14)) (tS K (cl K) ⟨Fn tbl n⟩ (fun c d _ H => E c d H) b5) := by
  have tk : Takes (cxOf (L2.CX P w) P w K mg base ["n"] "need_count" (defScope (top 14)) (He.ga K "need_count") cdv A outer s H E) (fun c d _ H => E c d H) := takes_of rfl rfl rfl rfl
  have ps : PassesOwn (model (cxOf (L2.CX P w) P w K mg base ["n"] "need_count" (defScope (top 14)) (He.ga K "need_count") cdv A outer s H E).prog (cxOf (L2.CX P w) P w K mg base ["n"] "need_count" (defScope (top 14)) (He.ga K "need_count") cdv A outer s H E).w) (cxOf (L2.CX P w) P w K mg base ["n"] "need_count" (defScope (top 14)) (He.ga K "need_count") cdv A outer s H E).A (cxOf (L2.CX P w) P w K mg base ["n"] "need_count" (defScope (top 14)) (He.ga K "need_count") cdv A outer s H E).env (cxOf (L2.CX P w) P w K mg base ["n"] "need_count" (defScope (top 14)) (He.ga K "need_count") cdv A outer s H E).xe := passes_of rfl
  exact (mss_one (ms_if (mt_not (mt_of bv_pcl (me_pcl ok.o2 hr rfl hy.g2 hy.f2.kp (bn2 hy.f2) tk (ma_cons (me_var 0) ma_nil)))) (mss_one (ms_raise (k := 1) rfl tk PySem.F.excBase_ValueError hy.e_BadCount.1 hy.x_BadCount hy.e_BadCount.2.1 (raises_own hy.e_BadCount.2.2.1 hy.e_BadCount.2.2.2) rfl rfl)) mss_nil))
theorem d6 (cdv : Value) (A : Around) (outer : List Env) (s : Shared) (H : Hp) (E : XK) (hr : Room n (A.deeper (envOfC "choices" (defScope (top 16)) s.heap.objs.size (He.ga K "choices") cdv))) : PSs (cxOf (L2.CX P w) P w K mg base ["n", "k", "found", "step"] "choices" (defScope (top 16)) (He.ga K "choices") cdv A outer s H E) (defBody (top 16)) (tS K (cl K) ⟨Fn tbl n⟩ (fun c d _ H => E c d H) b6) := by
  have tk : Takes (cxOf (L2.CX P w) P w K mg base ["n", "k", "found", "step"] "choices" (defScope (top 16)) (He.ga K "choices") cdv A outer s H E) (fun c d _ H => E c d H) := takes_of rfl rfl rfl rfl
  have ps : PassesOwn (model (cxOf (L2.CX P w) P w K mg base ["n", "k", "found", "step"] "choices" (defScope (top 16)) (He.ga K "choices") cdv A outer s H E).prog (cxOf (L2.CX P w) P w K mg base ["n", "k", "found", "step"] "choices" (defScope (top 16)) (He.ga K "choices") cdv A outer s H E).w) (cxOf (L2.CX P w) P w K mg base ["n", "k", "found", "step"] "choices" (defScope (top 16)) (He.ga K "choices") cdv A outer s H E).A (cxOf (L2.CX P w) P w K mg base ["n", "k", "found", "step"] "choices" (defScope (top 16)) (He.ga K "choices") cdv A outer s H E).env (cxOf (L2.CX P w) P w K mg base ["n", "k", "found", "step"] "choices" (defScope (top 16)) (He.ga K "choices") cdv A outer s H E).xe := passes_of rfl
  exact (mss_cons (ms_set S6.nd 2 me_int) (mss_cons (ms_for ps rfl (mi_r1 rfl hy.bi (me_var 1)) (mg_nm S6.nd 3) (mss_one (ms_set S6.nd 2 (me_fdiv (me_mul (me_var 2) (me_sub (me_var 0) (me_var 3))) (me_add (me_var 3) me_int))))) (mss_one (ms_retV 2))))
theorem d7 (cdv : Value) (A : Around) (outer : List Env) (s : Shared) (H : Hp) (E : XK) (hr : Room n (A.deeper (envOfC "topped_counts" (defScope (top 17)) s.heap.objs.size (He.ga K "topped_counts") cdv))) : PSs (cxOf (L2.CX P w) P w K mg base ["n", "d", "topped", "parts", "rows", "size", "found", "k"] "topped_counts" (defScope (top 17)) (He.ga K "topped_counts") cdv A outer s H E) (defBody (top 17)) (tS K (cl K) ⟨Fn tbl n⟩ (fun c d _ H => E c d H) b7) := by
  have tk : Takes (cxOf (L2.CX P w) P w K mg base ["n", "d", "topped", "parts", "rows", "size", "found", "k"] "topped_counts" (defScope (top 17)) (He.ga K "topped_counts") cdv A outer s H E) (fun c d _ H => E c d H) := takes_of rfl rfl rfl rfl
  have ps : PassesOwn (model (cxOf (L2.CX P w) P w K mg base ["n", "d", "topped", "parts", "rows", "size", "found", "k"] "topped_counts" (defScope (top 17)) (He.ga K "topped_counts") cdv A outer s H E).prog (cxOf (L2.CX P w) P w K mg base ["n", "d", "topped", "parts", "rows", "size", "found", "k"] "topped_counts" (defScope (top 17)) (He.ga K "topped_counts") cdv A outer s H E).w) (cxOf (L2.CX P w) P w K mg base ["n", "d", "topped", "parts", "rows", "size", "found", "k"] "topped_counts" (defScope (top 17)) (He.ga K "topped_counts") cdv A outer s H E).A (cxOf (L2.CX P w) P w K mg base ["n", "d", "topped", "parts", "rows", "size", "found", "k"] "topped_counts" (defScope (top 17)) (He.ga K "topped_counts") cdv A outer s H E).env (cxOf (L2.CX P w) P w K mg base ["n", "d", "topped", "parts", "rows", "size", "found", "k"] "topped_counts" (defScope (top 17)) (He.ga K "topped_counts") cdv A outer s H E).xe := passes_of rfl
  exact (mss_cons (ms_asg (me_tup (ma_cons (me_lst (ma_cons me_int (ma_cons me_int ma_nil))) (ma_cons (me_lst (ma_cons me_int (ma_cons me_int ma_nil))) (ma_cons (me_lst (ma_cons me_int (ma_cons me_int ma_nil))) ma_nil)))) (mg_tup rfl (mgs_cons (mg_nm S7.nd 2) (mgs_cons (mg_nm S7.nd 3) (mgs_cons (mg_nm S7.nd 4) mgs_nil))))) (mss_cons (ms_for ps rfl (mi_r2 rfl hy.bi me_int (me_add (me_var 0) me_int)) (mg_nm S7.nd 5) (mss_cons (ms_set S7.nd 6 (me_sum rfl hy.bi rfl (me_lc rfl S7.nd [("k", 7)] (blkOk_by (by kernel_rfl)) (mi_r2 rfl hy.bi me_int (me_var 5)) (fun _ _ _ _ _ => (mg_nm S7.nd 7)) (fun _ _ _ _ _ => mts_nil) (fun _ _ _ _ _ => (me_mul (me_mul (me_pcl ok.o6 hr rfl hy.g6 hy.f6.kp (bn6 hy.f6) takes0 (ma_cons (me_var 5) (ma_cons (me_var 7) ma_nil))) (me_ix (me_var 3) (me_var 7))) (me_ix (me_var 4) (me_sub (me_var 5) (me_var 7)))))))) (mss_cons (ms_app 2 (me_var 6)) (mss_cons (ms_app 3 (me_mul (me_sub (me_var 1) me_int) (me_var 6))) (mss_one (ms_app 4 (me_mul (me_var 1) (me_var 6)))))))) (mss_one (ms_retV 2))))
theorem d8 (cdv : Value) (A : Around) (outer : List Env) (s : Shared) (H : Hp) (E : XK) (hr : Room n (A.deeper (envOfC "trees_count_in" (defScope (top 18)) s.heap.objs.size (He.ga K "trees_count_in") cdv))) : PSs (cxOf (L2.CX P w) P w K mg base ["n", "d"] "trees_count_in" (defScope (top 18)) (He.ga K "trees_count_in") cdv A outer s H E) (defBody (top 18)) (tS K (cl K) ⟨Fn tbl n⟩ (fun c d _ H => E c d H) b8) := by
  have tk : Takes (cxOf (L2.CX P w) P w K mg base ["n", "d"] "trees_count_in" (defScope (top 18)) (He.ga K "trees_count_in") cdv A outer s H E) (fun c d _ H => E c d H) := takes_of rfl rfl rfl rfl
  have ps : PassesOwn (model (cxOf (L2.CX P w) P w K mg base ["n", "d"] "trees_count_in" (defScope (top 18)) (He.ga K "trees_count_in") cdv A outer s H E).prog (cxOf (L2.CX P w) P w K mg base ["n", "d"] "trees_count_in" (defScope (top 18)) (He.ga K "trees_count_in") cdv A outer s H E).w) (cxOf (L2.CX P w) P w K mg base ["n", "d"] "trees_count_in" (defScope (top 18)) (He.ga K "trees_count_in") cdv A outer s H E).A (cxOf (L2.CX P w) P w K mg base ["n", "d"] "trees_count_in" (defScope (top 18)) (He.ga K "trees_count_in") cdv A outer s H E).env (cxOf (L2.CX P w) P w K mg base ["n", "d"] "trees_count_in" (defScope (top 18)) (He.ga K "trees_count_in") cdv A outer s H E).xe := passes_of rfl
  exact (mss_one (ms_ret (me_ife (mt_cmp (cm_eq hr.units) (me_var 0) me_int) me_int (me_mul (me_var 1) (me_ix (me_pcl ok.o7 hr rfl hy.g7 hy.f7.kp (bn7 hy.f7) tk (ma_cons (me_var 0) (ma_cons (me_var 1) ma_nil))) (me_var 0))))))
theorem d9 (cdv : Value) (A : Around) (outer : List Env) (s : Shared) (H : Hp) (E : XK) (hr : Room n (A.deeper (envOfC "trees_count" (defScope (top 19)) s.heap.objs.size (He.ga K "trees_count") cdv))) : PSs (cxOf (L2.CX P w) P w K mg base ["n", "d"] "trees_count" (defScope (top 19)) (He.ga K "trees_count") cdv A outer s H E) (defBody (top 19)) (tS K (cl K) ⟨Fn tbl n⟩ (fun c d _ H => E c d H) b9) := by
  have tk : Takes (cxOf (L2.CX P w) P w K mg base ["n", "d"] "trees_count" (defScope (top 19)) (He.ga K "trees_count") cdv A outer s H E) (fun c d _ H => E c d H) := takes_of rfl rfl rfl rfl
  have ps : PassesOwn (model (cxOf (L2.CX P w) P w K mg base ["n", "d"] "trees_count" (defScope (top 19)) (He.ga K "trees_count") cdv A outer s H E).prog (cxOf (L2.CX P w) P w K mg base ["n", "d"] "trees_count" (defScope (top 19)) (He.ga K "trees_count") cdv A outer s H E).w) (cxOf (L2.CX P w) P w K mg base ["n", "d"] "trees_count" (defScope (top 19)) (He.ga K "trees_count") cdv A outer s H E).A (cxOf (L2.CX P w) P w K mg base ["n", "d"] "trees_count" (defScope (top 19)) (He.ga K "trees_count") cdv A outer s H E).env (cxOf (L2.CX P w) P w K mg base ["n", "d"] "trees_count" (defScope (top 19)) (He.ga K "trees_count") cdv A outer s H E).xe := passes_of rfl
  exact (mss_cons (ms_expr (me_pcl ok.o4 hr rfl hy.g4 hy.f4.kp (bn4 hy.f4) tk (ma_cons (me_var 0) (ma_cons (me_var 1) ma_nil)))) (mss_one (ms_ret (me_pcl ok.o8 hr rfl hy.g8 hy.f8.kp (bn8 hy.f8) tk (ma_cons (me_var 0) (ma_cons (me_var 1) ma_nil))))))
theorem d10 (cdv : Value) (A : Around) (outer : List Env) (s : Shared) (H : Hp) (E : XK) (hr : Room n (A.deeper (envOfC "cutting_count" (defScope (top 20)) s.heap.objs.size (He.ga K "cutting_count") cdv))) : PSs (cxOf (L2.CX P w) P w K mg base ["n"] "cutting_count" (defScope (top 20)) (He.ga K "cutting_count") cdv A outer s H E) (defBody (top 20)) (tS K (cl K) ⟨Fn tbl n⟩ (fun c d _ H => E c d H) b10) := by
  have tk : Takes (cxOf (L2.CX P w) P w K mg base ["n"] "cutting_count" (defScope (top 20)) (He.ga K "cutting_count") cdv A outer s H E) (fun c d _ H => E c d H) := takes_of rfl rfl rfl rfl
  have ps : PassesOwn (model (cxOf (L2.CX P w) P w K mg base ["n"] "cutting_count" (defScope (top 20)) (He.ga K "cutting_count") cdv A outer s H E).prog (cxOf (L2.CX P w) P w K mg base ["n"] "cutting_count" (defScope (top 20)) (He.ga K "cutting_count") cdv A outer s H E).w) (cxOf (L2.CX P w) P w K mg base ["n"] "cutting_count" (defScope (top 20)) (He.ga K "cutting_count") cdv A outer s H E).A (cxOf (L2.CX P w) P w K mg base ["n"] "cutting_count" (defScope (top 20)) (He.ga K "cutting_count") cdv A outer s H E).env (cxOf (L2.CX P w) P w K mg base ["n"] "cutting_count" (defScope (top 20)) (He.ga K "cutting_count") cdv A outer s H E).xe := passes_of rfl
  exact (mss_cons (ms_expr (me_pcl ok.o5 hr rfl hy.g5 hy.f5.kp (bn5 hy.f5) tk (ma_cons (me_var 0) ma_nil))) (mss_one (ms_ret (me_pcl ok.o8 hr rfl hy.g8 hy.f8.kp (bn8 hy.f8) tk (ma_cons (me_var 0) (ma_cons me_int ma_nil))))))
theorem d11 (cdv : Value) (A : Around) (outer : List Env) (s : Shared) (H : Hp) (E : XK) (hr : Room n (A.deeper (envOfC "_law_deal" (defScope (top 22)) s.heap.objs.size (He.ga K "_law_deal") cdv))) : PSs (cxOf (L2.CX P w) P w K mg base ["script", "cell"] "_law_deal" (defScope (top 22)) (He.ga K "_law_deal") cdv A outer s H E) (defBody (top 22)) (tS K (cl K) ⟨Fn tbl n⟩ (fun c d _ H => E c d H) b11) := by
  have tk : Takes (cxOf (L2.CX P w) P w K mg base ["script", "cell"] "_law_deal" (defScope (top 22)) (He.ga K "_law_deal") cdv A outer s H E) (fun c d _ H => E c d H) := takes_of rfl rfl rfl rfl
  have ps : PassesOwn (model (cxOf (L2.CX P w) P w K mg base ["script", "cell"] "_law_deal" (defScope (top 22)) (He.ga K "_law_deal") cdv A outer s H E).prog (cxOf (L2.CX P w) P w K mg base ["script", "cell"] "_law_deal" (defScope (top 22)) (He.ga K "_law_deal") cdv A outer s H E).w) (cxOf (L2.CX P w) P w K mg base ["script", "cell"] "_law_deal" (defScope (top 22)) (He.ga K "_law_deal") cdv A outer s H E).A (cxOf (L2.CX P w) P w K mg base ["script", "cell"] "_law_deal" (defScope (top 22)) (He.ga K "_law_deal") cdv A outer s H E).env (cxOf (L2.CX P w) P w K mg base ["script", "cell"] "_law_deal" (defScope (top 22)) (He.ga K "_law_deal") cdv A outer s H E).xe := passes_of rfl
  exact (mss_one (ms_ret (me_lst (ma_cons (me_lc rfl S11.nd [("cell", 1)] (blkOk_by (by kernel_rfl)) (mi_sq (mp_of (me_slc (me_var 0) mo_none (mo_some me_int)) fun _ => rfl)) (fun _ _ _ _ _ => (mg_nm S11.nd 1)) (fun _ _ _ _ _ => mts_nil) (fun _ _ _ _ _ => (me_mod (me_intc hy.bi rfl (me_var 1)) (me_pow me_int me_int)))) (ma_cons me_int (ma_cons me_int ma_nil))))))
theorem d12 (cdv : Value) (A : Around) (outer : List Env) (s : Shared) (H : Hp) (E : XK) (hr : Room n (A.deeper (envOfC "_law_take" (defScope (top 23)) s.heap.objs.size (He.ga K "_law_take") cdv))) : PSs (cxOf (L2.CX P w) P w K mg base ["deal", "many", "cells", "cell", "found"] "_law_take" (defScope (top 23)) (He.ga K "_law_take") cdv A outer s H E) (defBody (top 23)) (tS K (cl K) ⟨Fn tbl n⟩ (fun c d _ H => E c d H) b12) := by
  have tk : Takes (cxOf (L2.CX P w) P w K mg base ["deal", "many", "cells", "cell", "found"] "_law_take" (defScope (top 23)) (He.ga K "_law_take") cdv A outer s H E) (fun c d _ H => E c d H) := takes_of rfl rfl rfl rfl
  have ps : PassesOwn (model (cxOf (L2.CX P w) P w K mg base ["deal", "many", "cells", "cell", "found"] "_law_take" (defScope (top 23)) (He.ga K "_law_take") cdv A outer s H E).prog (cxOf (L2.CX P w) P w K mg base ["deal", "many", "cells", "cell", "found"] "_law_take" (defScope (top 23)) (He.ga K "_law_take") cdv A outer s H E).w) (cxOf (L2.CX P w) P w K mg base ["deal", "many", "cells", "cell", "found"] "_law_take" (defScope (top 23)) (He.ga K "_law_take") cdv A outer s H E).A (cxOf (L2.CX P w) P w K mg base ["deal", "many", "cells", "cell", "found"] "_law_take" (defScope (top 23)) (He.ga K "_law_take") cdv A outer s H E).env (cxOf (L2.CX P w) P w K mg base ["deal", "many", "cells", "cell", "found"] "_law_take" (defScope (top 23)) (He.ga K "_law_take") cdv A outer s H E).xe := passes_of rfl
  exact (mss_cons (ms_set S12.nd 2 (me_dg (me_var 0))) (mss_cons (ms_if (PW.pt (mw_and (mt_cmp cm_lt (me_dg (me_var 0)) (me_pow me_int me_int)) (mw_and1 (mt_dq (cm_ne hr.units) (me_var 2) (me_lst ma_nil))))) (mss_cons (ms_dpop (me_var 2) me_int (mg_nm S12.nd 3)) (mss_one (ms_if (mt_cmp cm_ge (me_var 3) (me_pow me_int me_int)) (mss_one (ms_dset (me_var 3) (me_var 0))) (mss_one (ms_dset (me_mod (me_intc hy.bi rfl (me_add (me_add (me_mul (me_dg (me_var 0)) me_int) (me_mul (me_mod (me_var 3) me_int) me_int)) me_int)) me_int) (me_var 0)))))) mss_nil) (mss_cons (ms_if (mt_cmp cm_ge (me_dg (me_var 0)) (me_pow me_int me_int)) (mss_cons (ms_set S12.nd 4 (me_mod (me_intc hy.bi rfl (me_dg (me_var 0))) (me_var 1))) (mss_cons (ms_dset (me_fdiv (me_dg (me_var 0)) (me_var 1)) (me_var 0)) (mss_one (ms_retV 4)))) mss_nil) (mss_cons (ms_dset (me_mod (me_intc hy.bi rfl (me_add (me_mul (me_dg (me_var 0)) me_int) me_int)) me_int) (me_var 0)) (mss_one (ms_ret (me_mod (me_intc hy.bi rfl (me_fdiv (me_dg (me_var 0)) me_int)) (me_var 1))))))))
theorem d13 (cdv : Value) (A : Around) (outer : List Env) (s : Shared) (H : Hp) (E : XK) (hr : Room n (A.deeper (envOfC "_law_same" (defScope (top 24)) s.heap.objs.size (He.ga K "_law_same") cdv))) : PSs (cxOf (L2.CX P w) P w K mg base ["told", "due", "waiting", "one", "two", "k"] "_law_same" (defScope (top 24)) (He.ga K "_law_same") cdv A outer s H E) (defBody (top 24)) (tS K (cl K) ⟨Fn tbl n⟩ (fun c d _ H => E c d H) b13) := by
  have tk : Takes (cxOf (L2.CX P w) P w K mg base ["told", "due", "waiting", "one", "two", "k"] "_law_same" (defScope (top 24)) (He.ga K "_law_same") cdv A outer s H E) (fun c d _ H => E c d H) := takes_of rfl rfl rfl rfl
  have ps : PassesOwn (model (cxOf (L2.CX P w) P w K mg base ["told", "due", "waiting", "one", "two", "k"] "_law_same" (defScope (top 24)) (He.ga K "_law_same") cdv A outer s H E).prog (cxOf (L2.CX P w) P w K mg base ["told", "due", "waiting", "one", "two", "k"] "_law_same" (defScope (top 24)) (He.ga K "_law_same") cdv A outer s H E).w) (cxOf (L2.CX P w) P w K mg base ["told", "due", "waiting", "one", "two", "k"] "_law_same" (defScope (top 24)) (He.ga K "_law_same") cdv A outer s H E).A (cxOf (L2.CX P w) P w K mg base ["told", "due", "waiting", "one", "two", "k"] "_law_same" (defScope (top 24)) (He.ga K "_law_same") cdv A outer s H E).env (cxOf (L2.CX P w) P w K mg base ["told", "due", "waiting", "one", "two", "k"] "_law_same" (defScope (top 24)) (He.ga K "_law_same") cdv A outer s H E).xe := passes_of rfl
  exact (mss_cons (ms_set S13.nd 2 (me_lst (ma_cons (me_tup (ma_cons (me_var 0) (ma_cons (me_var 1) ma_nil))) ma_nil))) (mss_cons (ms_while ps (mt_cmp (cm_ne hr.units) (me_var 2) (me_lst ma_nil)) (mss_cons (ms_popA 2 (mg_tup rfl (mgs_cons (mg_nm S13.nd 3) (mgs_cons (mg_nm S13.nd 4) mgs_nil)))) (mss_one (ms_if (mt_of bv_op1 (me_isTup hy.bi rfl rfl (me_var 4))) (mss_cons (ms_if (PW.pt (mw_or (mt_not (mt_of bv_op1 (me_isTup hy.bi rfl rfl (me_var 3)))) (mw_or1 (mt_cmp (cm_ne hr.units) (me_len hy.bi rfl (me_var 3)) (me_len hy.bi rfl (me_var 4)))))) (mss_one (ms_ret me_bl)) mss_nil) (mss_one (ms_ext 2 (me_lc rfl S13.nd [("k", 5)] (blkOk_by (by kernel_rfl)) (mi_r1 rfl hy.bi (me_len hy.bi rfl (me_var 4))) (fun _ _ _ _ _ => (mg_nm S13.nd 5)) (fun _ _ _ _ _ => mts_nil) (fun _ _ _ _ _ => (me_tup (ma_cons (me_ix (me_var 3) (me_var 5)) (ma_cons (me_ix (me_var 4) (me_var 5)) ma_nil)))))))) (mss_one (ms_if (mt_isN (me_var 4)) (mss_one (ms_if (mt_ntN (me_var 3)) (mss_one (ms_ret me_bl)) mss_nil)) (mss_one (ms_if (mt_of bv_op1 (me_isBool hy.bi rfl rfl (me_var 4))) (mss_one (ms_if (PW.pt (mw_or (mt_not (mt_of bv_op1 (me_isBool hy.bi rfl rfl (me_var 3)))) (mw_or1 (mt_cmp (cm_ne hr.units) (me_var 3) (me_var 4))))) (mss_one (ms_ret me_bl)) mss_nil)) (mss_one (ms_if (mt_of bv_op1 (me_isStr hy.bi rfl rfl (me_var 4))) (mss_one (ms_if (PW.pt (mw_or (mt_not (mt_of bv_op1 (me_isStr hy.bi rfl rfl (me_var 3)))) (mw_or1 (mt_cmp (cm_ne hr.units) (me_var 3) (me_var 4))))) (mss_one (ms_ret me_bl)) mss_nil)) (mss_one (ms_if (PW.pt (mw_or (mt_not (mt_of bv_op1 (me_isInt hy.bi rfl rfl (me_var 3)))) (mw_or (mt_of bv_op1 (me_isBool hy.bi rfl rfl (me_var 3))) (mw_or1 (mt_cmp (cm_ne hr.units) (me_var 3) (me_var 4)))))) (mss_one (ms_ret me_bl)) mss_nil)))))))))))) (mss_one (ms_ret me_bl))))
theorem d14 (cdv : Value) (A : Around) (outer : List Env) (s : Shared) (H : Hp) (E : XK) (hr : Room n (A.deeper (envOfC "_law_over" (defScope (top 25)) s.heap.objs.size (He.ga K "_law_over") cdv))) : PSs (cxOf (L2.CX P w) P w K mg base ["n", "k", "found", "step"] "_law_over" (defScope (top 25)) (He.ga K "_law_over") cdv A outer s H E) (defBody (top 25)) (tS K (cl K) ⟨Fn tbl n⟩ (fun c d _ H => E c d H) b14) := by
  have tk : Takes (cxOf (L2.CX P w) P w K mg base ["n", "k", "found", "step"] "_law_over" (defScope (top 25)) (He.ga K "_law_over") cdv A outer s H E) (fun c d _ H => E c d H) := takes_of rfl rfl rfl rfl
  have ps : PassesOwn (model (cxOf (L2.CX P w) P w K mg base ["n", "k", "found", "step"] "_law_over" (defScope (top 25)) (He.ga K "_law_over") cdv A outer s H E).prog (cxOf (L2.CX P w) P w K mg base ["n", "k", "found", "step"] "_law_over" (defScope (top 25)) (He.ga K "_law_over") cdv A outer s H E).w) (cxOf (L2.CX P w) P w K mg base ["n", "k", "found", "step"] "_law_over" (defScope (top 25)) (He.ga K "_law_over") cdv A outer s H E).A (cxOf (L2.CX P w) P w K mg base ["n", "k", "found", "step"] "_law_over" (defScope (top 25)) (He.ga K "_law_over") cdv A outer s H E).env (cxOf (L2.CX P w) P w K mg base ["n", "k", "found", "step"] "_law_over" (defScope (top 25)) (He.ga K "_law_over") cdv A outer s H E).xe := passes_of rfl
  exact (mss_cons (ms_set S14.nd 2 me_int) (mss_cons (ms_for ps rfl (mi_r1 rfl hy.bi (me_var 1)) (mg_nm S14.nd 3) (mss_one (ms_set S14.nd 2 (me_fdiv (me_mul (me_var 2) (me_sub (me_var 0) (me_var 3))) (me_add (me_var 3) me_int))))) (mss_one (ms_retV 2))))
theorem d15 (cdv : Value) (A : Around) (outer : List Env) (s : Shared) (H : Hp) (E : XK) (hr : Room n (A.deeper (envOfC "_law_counts" (defScope (top 26)) s.heap.objs.size (He.ga K "_law_counts") cdv))) : PSs (cxOf (L2.CX P w) P w K mg base ["most", "d", "tops", "weights", "rows", "n", "found", "k"] "_law_counts" (defScope (top 26)) (He.ga K "_law_counts") cdv A outer s H E) (defBody (top 26)) (tS K (cl K) ⟨Fn tbl n⟩ (fun c d _ H => E c d H) b15) := by
  have tk : Takes (cxOf (L2.CX P w) P w K mg base ["most", "d", "tops", "weights", "rows", "n", "found", "k"] "_law_counts" (defScope (top 26)) (He.ga K "_law_counts") cdv A outer s H E) (fun c d _ H => E c d H) := takes_of rfl rfl rfl rfl
  have ps : PassesOwn (model (cxOf (L2.CX P w) P w K mg base ["most", "d", "tops", "weights", "rows", "n", "found", "k"] "_law_counts" (defScope (top 26)) (He.ga K "_law_counts") cdv A outer s H E).prog (cxOf (L2.CX P w) P w K mg base ["most", "d", "tops", "weights", "rows", "n", "found", "k"] "_law_counts" (defScope (top 26)) (He.ga K "_law_counts") cdv A outer s H E).w) (cxOf (L2.CX P w) P w K mg base ["most", "d", "tops", "weights", "rows", "n", "found", "k"] "_law_counts" (defScope (top 26)) (He.ga K "_law_counts") cdv A outer s H E).A (cxOf (L2.CX P w) P w K mg base ["most", "d", "tops", "weights", "rows", "n", "found", "k"] "_law_counts" (defScope (top 26)) (He.ga K "_law_counts") cdv A outer s H E).env (cxOf (L2.CX P w) P w K mg base ["most", "d", "tops", "weights", "rows", "n", "found", "k"] "_law_counts" (defScope (top 26)) (He.ga K "_law_counts") cdv A outer s H E).xe := passes_of rfl
  exact (mss_cons (ms_asg (me_tup (ma_cons (me_lst (ma_cons me_int (ma_cons me_int ma_nil))) (ma_cons (me_lst (ma_cons me_int (ma_cons me_int ma_nil))) (ma_cons (me_lst (ma_cons me_int (ma_cons me_int ma_nil))) ma_nil)))) (mg_tup rfl (mgs_cons (mg_nm S15.nd 2) (mgs_cons (mg_nm S15.nd 3) (mgs_cons (mg_nm S15.nd 4) mgs_nil))))) (mss_cons (ms_for ps rfl (mi_r2 rfl hy.bi me_int (me_add (me_var 0) me_int)) (mg_nm S15.nd 5) (mss_cons (ms_set S15.nd 6 (me_sum rfl hy.bi rfl (me_lc rfl S15.nd [("k", 7)] (blkOk_by (by kernel_rfl)) (mi_r2 rfl hy.bi me_int (me_var 5)) (fun _ _ _ _ _ => (mg_nm S15.nd 7)) (fun _ _ _ _ _ => mts_nil) (fun _ _ _ _ _ => (me_mul (me_mul (me_pcl ok.o14 hr rfl hy.g14 hy.f14.kp (bn14 hy.f14) takes0 (ma_cons (me_var 5) (ma_cons (me_var 7) ma_nil))) (me_ix (me_var 3) (me_var 7))) (me_ix (me_var 4) (me_sub (me_var 5) (me_var 7)))))))) (mss_cons (ms_app 2 (me_var 6)) (mss_cons (ms_app 3 (me_mul (me_sub (me_var 1) me_int) (me_var 6))) (mss_one (ms_app 4 (me_add (me_var 6) (me_ix (me_var 3) (me_var 5))))))))) (mss_one (ms_retV 2))))
theorem d16 (cdv : Value) (A : Around) (outer : List Env) (s : Shared) (H : Hp) (E : XK) (hr : Room n (A.deeper (envOfC "_law_many" (defScope (top 27)) s.heap.objs.size (He.ga K "_law_many") cdv))) : PSs (cxOf (L2.CX P w) P w K mg base ["n", "found", "k"] "_law_many" (defScope (top 27)) (He.ga K "_law_many") cdv A outer s H E) (defBody (top 27)) (tS K (cl K) ⟨Fn tbl n⟩ (fun c d _ H => E c d H) b16) := by
  have tk : Takes (cxOf (L2.CX P w) P w K mg base ["n", "found", "k"] "_law_many" (defScope (top 27)) (He.ga K "_law_many") cdv A outer s H E) (fun c d _ H => E c d H) := takes_of rfl rfl rfl rfl
  have ps : PassesOwn (model (cxOf (L2.CX P w) P w K mg base ["n", "found", "k"] "_law_many" (defScope (top 27)) (He.ga K "_law_many") cdv A outer s H E).prog (cxOf (L2.CX P w) P w K mg base ["n", "found", "k"] "_law_many" (defScope (top 27)) (He.ga K "_law_many") cdv A outer s H E).w) (cxOf (L2.CX P w) P w K mg base ["n", "found", "k"] "_law_many" (defScope (top 27)) (He.ga K "_law_many") cdv A outer s H E).A (cxOf (L2.CX P w) P w K mg base ["n", "found", "k"] "_law_many" (defScope (top 27)) (He.ga K "_law_many") cdv A outer s H E).env (cxOf (L2.CX P w) P w K mg base ["n", "found", "k"] "_law_many" (defScope (top 27)) (He.ga K "_law_many") cdv A outer s H E).xe := passes_of rfl
  exact (mss_cons (ms_set S16.nd 1 me_int) (mss_cons (ms_for ps rfl (mi_r2 rfl hy.bi me_int (me_add (me_var 0) me_int)) (mg_nm S16.nd 2) (mss_one (ms_set S16.nd 1 (me_mul (me_var 1) (me_var 2))))) (mss_one (ms_retV 1))))
theorem d17 (cdv : Value) (A : Around) (outer : List Env) (s : Shared) (H : Hp) (E : XK) (hr : Room n (A.deeper (envOfC "_law_word" (defScope (top 28)) s.heap.objs.size (He.ga K "_law_word") cdv))) : PSs (cxOf (L2.CX P w) P w K mg base ["which", "n", "d", "word", "told"] "_law_word" (defScope (top 28)) (He.ga K "_law_word") cdv A outer s H E) (defBody (top 28)) (tS K (cl K) ⟨Fn tbl n⟩ (fun c d _ H => E c d H) b17) := by
  have tk : Takes (cxOf (L2.CX P w) P w K mg base ["which", "n", "d", "word", "told"] "_law_word" (defScope (top 28)) (He.ga K "_law_word") cdv A outer s H E) (fun c d _ H => E c d H) := takes_of rfl rfl rfl rfl
  have ps : PassesOwn (model (cxOf (L2.CX P w) P w K mg base ["which", "n", "d", "word", "told"] "_law_word" (defScope (top 28)) (He.ga K "_law_word") cdv A outer s H E).prog (cxOf (L2.CX P w) P w K mg base ["which", "n", "d", "word", "told"] "_law_word" (defScope (top 28)) (He.ga K "_law_word") cdv A outer s H E).w) (cxOf (L2.CX P w) P w K mg base ["which", "n", "d", "word", "told"] "_law_word" (defScope (top 28)) (He.ga K "_law_word") cdv A outer s H E).A (cxOf (L2.CX P w) P w K mg base ["which", "n", "d", "word", "told"] "_law_word" (defScope (top 28)) (He.ga K "_law_word") cdv A outer s H E).env (cxOf (L2.CX P w) P w K mg base ["which", "n", "d", "word", "told"] "_law_word" (defScope (top 28)) (He.ga K "_law_word") cdv A outer s H E).xe := passes_of rfl
  exact (mss_cons (ms_set S17.nd 3 me_str) (mss_cons (ms_try rfl rfl tk (fun _ _ _ tk2 ps2 => (mss_one (ms_set S17.nd 4 (me_ife (mt_cmp (cm_eq hr.units) (me_var 0) me_int) (me_pclK ok.o9 hr rfl hy.g9 hy.f9.kp (bk9 hy.f9) tk2 (mk_cons (me_var 1) (mk_cons (me_var 2) mk_nil))) (me_pclK ok.o10 hr rfl hy.g10 hy.f10.kp (bk10 hy.f10) tk2 (mk_cons (me_var 1) mk_nil)))))) (.cons ⟨rfl, rfl, Or.inl hy.x_BadCount⟩ (exh1 hy) (fun _ _ _ => (mss_one (ms_set S17.nd 3 me_str))) (.cons ⟨rfl, rfl, Or.inl hy.x_BadAxes⟩ (exh2 hy) (fun _ _ _ => (mss_one (ms_set S17.nd 3 me_str))) (.cons ⟨rfl, rfl, Or.inl hy.x_BoxError⟩ (exh0 hy) (fun _ _ _ => (mss_one (ms_set S17.nd 3 me_str))) .nil)))) (mss_one (ms_retV 3))))
theorem dl0 (cdv : Value) (A : Around) (outer : List Env) (s : Shared) (H : Hp) (E : XK) (hr : Room n (A.deeper (envOfC "law" (defScope (top 29)) s.heap.objs.size (He.ga K "law") cdv))) : PS (cxOf (L2.CX P w) P w K mg base ["script", "deal", "known", "turn", "n", "d", "due", "bad", "odd", "k"] "law" (defScope (top 29)) (He.ga K "law") cdv A outer s H E) ((defBody (top 29)).headD (.Pass ⟨0, 0, 0, 0⟩)) (tS K (cl K) ⟨Fn tbl n⟩ (fun c d _ H => E c d H) (.asg (.nm 1) (.pcl 11 (.cons (.var 0) .nil)))) := by
  have tk : Takes (cxOf (L2.CX P w) P w K mg base ["script", "deal", "known", "turn", "n", "d", "due", "bad", "odd", "k"] "law" (defScope (top 29)) (He.ga K "law") cdv A outer s H E) (fun c d _ H => E c d H) := takes_of rfl rfl rfl rfl
  have ps : PassesOwn (model (cxOf (L2.CX P w) P w K mg base ["script", "deal", "known", "turn", "n", "d", "due", "bad", "odd", "k"] "law" (defScope (top 29)) (He.ga K "law") cdv A outer s H E).prog (cxOf (L2.CX P w) P w K mg base ["script", "deal", "known", "turn", "n", "d", "due", "bad", "odd", "k"] "law" (defScope (top 29)) (He.ga K "law") cdv A outer s H E).w) (cxOf (L2.CX P w) P w K mg base ["script", "deal", "known", "turn", "n", "d", "due", "bad", "odd", "k"] "law" (defScope (top 29)) (He.ga K "law") cdv A outer s H E).A (cxOf (L2.CX P w) P w K mg base ["script", "deal", "known", "turn", "n", "d", "due", "bad", "odd", "k"] "law" (defScope (top 29)) (He.ga K "law") cdv A outer s H E).env (cxOf (L2.CX P w) P w K mg base ["script", "deal", "known", "turn", "n", "d", "due", "bad", "odd", "k"] "law" (defScope (top 29)) (He.ga K "law") cdv A outer s H E).xe := passes_of rfl
  exact (ms_set S18.nd 1 (me_pcl ok.o11 hr rfl hy.g11 hy.f11.kp (bn11 hy.f11) tk (ma_cons (me_var 0) ma_nil)))
theorem d18 (cdv : Value) (A : Around) (outer : List Env) (s : Shared) (H : Hp) (E : XK) (hr : Room n (A.deeper (envOfC "law" (defScope (top 29)) s.heap.objs.size (He.ga K "law") cdv))) : PSs (cxOf (L2.CX P w) P w K mg base ["script", "deal", "known", "turn", "n", "d", "due", "bad", "odd", "k"] "law" (defScope (top 29)) (He.ga K "law") cdv A outer s H E) (defBody (top 29)).tail (tS K (cl K) ⟨Fn tbl n⟩ (fun c d _ H => E c d H) b18) := by
  have tk : Takes (cxOf (L2.CX P w) P w K mg base ["script", "deal", "known", "turn", "n", "d", "due", "bad", "odd", "k"] "law" (defScope (top 29)) (He.ga K "law") cdv A outer s H E) (fun c d _ H => E c d H) := takes_of rfl rfl rfl rfl
  have ps : PassesOwn (model (cxOf (L2.CX P w) P w K mg base ["script", "deal", "known", "turn", "n", "d", "due", "bad", "odd", "k"] "law" (defScope (top 29)) (He.ga K "law") cdv A outer s H E).prog (cxOf (L2.CX P w) P w K mg base ["script", "deal", "known", "turn", "n", "d", "due", "bad", "odd", "k"] "law" (defScope (top 29)) (He.ga K "law") cdv A outer s H E).w) (cxOf (L2.CX P w) P w K mg base ["script", "deal", "known", "turn", "n", "d", "due", "bad", "odd", "k"] "law" (defScope (top 29)) (He.ga K "law") cdv A outer s H E).A (cxOf (L2.CX P w) P w K mg base ["script", "deal", "known", "turn", "n", "d", "due", "bad", "odd", "k"] "law" (defScope (top 29)) (He.ga K "law") cdv A outer s H E).env (cxOf (L2.CX P w) P w K mg base ["script", "deal", "known", "turn", "n", "d", "due", "bad", "odd", "k"] "law" (defScope (top 29)) (He.ga K "law") cdv A outer s H E).xe := passes_of rfl
  exact (mss_cons (ms_set S18.nd 2 (me_lst (ma_cons me_int (ma_cons me_int (ma_cons me_int (ma_cons me_int (ma_cons me_int (ma_cons me_int (ma_cons me_int (ma_cons me_int ma_nil)))))))))) (mss_cons (ms_for ps rfl (mi_r1 rfl hy.bi (me_add me_int (me_min2 rfl hy.bi rfl (me_len hy.bi rfl (me_var 0)) me_int))) (mg_nm S18.nd 3) (mss_cons (ms_par rfl S18.nd 4 5 (by decide) (ma_cons (me_ix (me_lst (ma_cons me_int (ma_cons me_int (ma_cons me_int (ma_cons (me_add me_int (me_call ok.o12 hr rfl hy.g12 hy.f12.kp (bn12 hy.f12) tk (ma_cons (me_var 1) (ma_cons me_int ma_nil)))) ma_nil))))) (me_call ok.o12 hr rfl hy.g12 hy.f12.kp (bn12 hy.f12) tk (ma_cons (me_var 1) (ma_cons me_int ma_nil)))) (ma_cons (me_add me_int (me_call ok.o12 hr rfl hy.g12 hy.f12.kp (bn12 hy.f12) tk (ma_cons (me_var 1) (ma_cons me_int ma_nil)))) ma_nil))) (mss_cons (ms_set S18.nd 6 (me_ife (mt_cmp (cm_eq hr.units) (me_var 4) me_int) me_int (me_mul (me_var 5) (me_ix (me_pcl ok.o15 hr rfl hy.g15 hy.f15.kp (bn15 hy.f15) tk (ma_cons (me_var 4) (ma_cons (me_var 5) ma_nil))) (me_var 4))))) (mss_cons (ms_if (PW.pt (mw_or (mt_not (mt_of bv_pcl (me_pcl ok.o13 hr rfl hy.g13 hy.f13.kp (bn13 hy.f13) tk (ma_cons (me_pclK ok.o9 hr rfl hy.g9 hy.f9.kp (bk9 hy.f9) tk (mk_cons (me_var 4) (mk_cons (me_var 5) mk_nil))) (ma_cons (me_var 6) ma_nil))))) (mw_or1 (mt_not (mt_of bv_pcl (me_pcl ok.o13 hr rfl hy.g13 hy.f13.kp (bn13 hy.f13) tk (ma_cons (me_pcl ok.o9 hr rfl hy.g9 hy.f9.kp (bn9 hy.f9) tk (ma_cons (me_var 4) (ma_cons me_int ma_nil))) (ma_cons (me_pcl ok.o16 hr rfl hy.g16 hy.f16.kp (bn16 hy.f16) tk (ma_cons (me_var 4) ma_nil)) ma_nil)))))))) (mss_one (ms_ret me_bl)) mss_nil) (mss_cons (ms_if (PW.pt (mw_or (mt_not (mt_of bv_pcl (me_pcl ok.o13 hr rfl hy.g13 hy.f13.kp (bn13 hy.f13) tk (ma_cons (me_pclK ok.o10 hr rfl hy.g10 hy.f10.kp (bk10 hy.f10) tk (mk_cons (me_var 4) mk_nil)) (ma_cons (me_ife (mt_cmp (cm_eq hr.units) (me_var 4) me_int) me_int (me_mul me_int (me_ix (me_pcl ok.o15 hr rfl hy.g15 hy.f15.kp (bn15 hy.f15) tk (ma_cons (me_var 4) (ma_cons me_int ma_nil))) (me_var 4)))) ma_nil))))) (mw_or1 (mt_not (mt_of bv_pcl (me_pcl ok.o13 hr rfl hy.g13 hy.f13.kp (bn13 hy.f13) tk (ma_cons (me_pcl ok.o10 hr rfl hy.g10 hy.f10.kp (bn10 hy.f10) tk (ma_cons (me_var 4) ma_nil)) (ma_cons (me_pcl ok.o9 hr rfl hy.g9 hy.f9.kp (bn9 hy.f9) tk (ma_cons (me_var 4) (ma_cons me_int ma_nil))) ma_nil)))))))) (mss_one (ms_ret me_bl)) mss_nil) (mss_cons (ms_if (PW.pt (mw_and (mt_cmp cm_lt (me_var 4) me_int) (mw_and1 (mt_cmp (cm_ne hr.units) (me_pcl ok.o10 hr rfl hy.g10 hy.f10.kp (bn10 hy.f10) tk (ma_cons (me_var 4) ma_nil)) (me_mul (me_pcl ok.o16 hr rfl hy.g16 hy.f16.kp (bn16 hy.f16) tk (ma_cons (me_var 4) ma_nil)) (me_ix (me_var 2) (me_sub (me_var 4) me_int))))))) (mss_one (ms_ret me_bl)) mss_nil) (mss_cons (ms_par rfl S18.nd 7 8 (by decide) (ma_cons (me_ix (me_lst (ma_cons me_int (ma_cons me_int (ma_cons (me_neg me_int) (ma_cons me_non (ma_cons me_bl (ma_cons me_str ma_nil))))))) (me_call ok.o12 hr rfl hy.g12 hy.f12.kp (bn12 hy.f12) tk (ma_cons (me_var 1) (ma_cons me_int ma_nil)))) (ma_cons (me_ix (me_lst (ma_cons me_int (ma_cons me_int (ma_cons me_non (ma_cons me_bl (ma_cons (me_tup (ma_cons me_int ma_nil)) ma_nil)))))) (me_call ok.o12 hr rfl hy.g12 hy.f12.kp (bn12 hy.f12) tk (ma_cons (me_var 1) (ma_cons me_int ma_nil)))) ma_nil))) (mss_one (ms_if (mt_cmp (cm_ne hr.units) (me_lst (ma_cons (me_pcl ok.o17 hr rfl hy.g17 hy.f17.kp (bn17 hy.f17) tk (ma_cons me_int (ma_cons (me_var 7) (ma_cons (me_var 8) ma_nil)))) (ma_cons (me_pcl ok.o17 hr rfl hy.g17 hy.f17.kp (bn17 hy.f17) tk (ma_cons me_int (ma_cons (me_var 4) (ma_cons (me_var 8) ma_nil)))) (ma_cons (me_pcl ok.o17 hr rfl hy.g17 hy.f17.kp (bn17 hy.f17) tk (ma_cons me_int (ma_cons (me_var 7) (ma_cons me_non ma_nil)))) (ma_cons (me_pcl ok.o17 hr rfl hy.g17 hy.f17.kp (bn17 hy.f17) tk (ma_cons me_int (ma_cons (me_var 7) (ma_cons me_int ma_nil)))) ma_nil))))) (me_lst (ma_cons me_str (ma_cons me_str (ma_cons me_str (ma_cons me_str ma_nil)))))) (mss_one (ms_ret me_bl)) mss_nil))))))))) (mss_one (ms_ret (me_and (me_cmp (cm_eq hr.units) (me_lc rfl S18.nd [("k", 9)] (blkOk_by (by kernel_rfl)) (mi_r1 rfl hy.bi me_int) (fun _ _ _ _ _ => (mg_nm S18.nd 9)) (fun _ _ _ _ _ => mts_nil) (fun _ _ _ _ _ => (me_pcl ok.o10 hr rfl hy.g10 hy.f10.kp (bn10 hy.f10) takes0 (ma_cons (me_add (me_var 9) me_int) ma_nil)))) (me_lst (ma_cons me_int (ma_cons me_int (ma_cons me_int (ma_cons me_int (ma_cons me_int (ma_cons me_int ma_nil)))))))) (me_one (me_cmp (cm_eq hr.units) (me_pcl ok.o9 hr rfl hy.g9 hy.f9.kp (bn9 hy.f9) tk (ma_cons me_int (ma_cons me_int ma_nil))) me_int)))))))
end
theorem oks {P : Program} {w : World} {K : PySem.W.Frag} {mg : Str → Option Value} {base : Heap} {fd : Nat → FuncData} (hy : Fx K mg fd) : ∀ n, Oks P w K mg base fd n
  | 0 => ⟨ok_zero, ok_zero, ok_zero, ok_zero, ok_zero, ok_zero, ok_zero, ok_zero, ok_zero, ok_zero, ok_zero, ok_zero, ok_zero, ok_zero, ok_zero, ok_zero, ok_zero, ok_zero⟩
  | n + 1 => have ih := oks hy n
    ⟨ok_fn hy.f0 S0 rfl (d0 hy ih), ok_fn hy.f1 S1 rfl (d1 hy ih), ok_fn hy.f2 S2 rfl (d2 hy ih), ok_fn hy.f3 S3 rfl (d3 hy ih), ok_fn hy.f4 S4 rfl (d4 hy ih), ok_fn hy.f5 S5 rfl (d5 hy ih), ok_fn hy.f6 S6 rfl (d6 hy ih), ok_fn hy.f7 S7 rfl (d7 hy ih), ok_fn hy.f8 S8 rfl (d8 hy ih), ok_fn hy.f9 S9 rfl (d9 hy ih), ok_fn hy.f10 S10 rfl (d10 hy ih), ok_fn hy.f11 S11 rfl (d11 hy ih), ok_fn hy.f12 S12 rfl (d12 hy ih), ok_fn hy.f13 S13 rfl (d13 hy ih), ok_fn hy.f14 S14 rfl (d14 hy ih), ok_fn hy.f15 S15 rfl (d15 hy ih), ok_fn hy.f16 S16 rfl (d16 hy ih), ok_fn hy.f17 S17 rfl (d17 hy ih)⟩
end K72

set_option Elab.async false
set_option linter.all false
set_option maxRecDepth 100000
set_option maxHeartbeats 0
namespace K72
open PySem PySem.Spec PyProof.Rows L2 BX
def h0 : He.DefD := ⟨("is_int", none), "is_int", "is_int", defArgs (top 7), defBody (top 7), defScope (top 7), [], []⟩
def h1 : He.DefD := ⟨("within", none), "within", "within", defArgs (top 8), defBody (top 8), defScope (top 8), [], []⟩
def h2 : He.DefD := ⟨("is_count", none), "is_count", "is_count", defArgs (top 9), defBody (top 9), defScope (top 9), [], []⟩
def h3 : He.DefD := ⟨("is_axes_count", none), "is_axes_count", "is_axes_count", defArgs (top 10), defBody (top 10), defScope (top 10), [], []⟩
def h4 : He.DefD := ⟨("need_counts", none), "need_counts", "need_counts", defArgs (top 12), defBody (top 12), defScope (top 12), [], []⟩
def h5 : He.DefD := ⟨("need_count", none), "need_count", "need_count", defArgs (top 14), defBody (top 14), defScope (top 14), [], []⟩
def h6 : He.DefD := ⟨("choices", none), "choices", "choices", defArgs (top 16), defBody (top 16), defScope (top 16), [], []⟩
def h7 : He.DefD := ⟨("topped_counts", none), "topped_counts", "topped_counts", defArgs (top 17), defBody (top 17), defScope (top 17), [], []⟩
def h8 : He.DefD := ⟨("trees_count_in", none), "trees_count_in", "trees_count_in", defArgs (top 18), defBody (top 18), defScope (top 18), [], []⟩
def h9 : He.DefD := ⟨("trees_count", none), "trees_count", "trees_count", defArgs (top 19), defBody (top 19), defScope (top 19), [], []⟩
def h10 : He.DefD := ⟨("cutting_count", none), "cutting_count", "cutting_count", defArgs (top 20), defBody (top 20), defScope (top 20), [], []⟩
def h11 : He.DefD := ⟨("_law_deal", none), "_law_deal", "_law_deal", defArgs (top 22), defBody (top 22), defScope (top 22), [], []⟩
def h12 : He.DefD := ⟨("_law_take", none), "_law_take", "_law_take", defArgs (top 23), defBody (top 23), defScope (top 23), [], []⟩
def h13 : He.DefD := ⟨("_law_same", none), "_law_same", "_law_same", defArgs (top 24), defBody (top 24), defScope (top 24), [], []⟩
def h14 : He.DefD := ⟨("_law_over", none), "_law_over", "_law_over", defArgs (top 25), defBody (top 25), defScope (top 25), [], []⟩
def h15 : He.DefD := ⟨("_law_counts", none), "_law_counts", "_law_counts", defArgs (top 26), defBody (top 26), defScope (top 26), [], []⟩
def h16 : He.DefD := ⟨("_law_many", none), "_law_many", "_law_many", defArgs (top 27), defBody (top 27), defScope (top 27), [], []⟩
def h17 : He.DefD := ⟨("_law_word", none), "_law_word", "_law_word", defArgs (top 28), defBody (top 28), defScope (top 28), [], []⟩
def h18 : He.DefD := ⟨("law", none), "law", "law", defArgs (top 29), defBody (top 29), defScope (top 29), [], []⟩
def fn : List He.DefD := [h0, h1, h2, h3, h4, h5, h6, h7, h8, h9, h10, h11, h12, h13, h14, h15, h16, h17, h18]
def fa0 : List He.Fa := [.free "len", .free "tuple", .free "list", .free "int", .free "sum", .free "any", .free "all", .free "max", .free "min", .free "isinstance", .free "range", .free "zip", .free "enumerate", .free "bool", .free "str", .glo "is_int", .glo "within", .glo "is_count", .glo "is_axes_count", .glo "need_counts", .glo "need_count", .glo "choices", .glo "topped_counts", .glo "trees_count_in", .glo "trees_count", .glo "cutting_count", .glo "_law_deal", .glo "_law_take", .glo "_law_same", .glo "_law_over"]
def fa1 : List He.Fa := [.glo "_law_counts", .glo "_law_many", .glo "_law_word", .glo "law", .int "MOST_AXES" 4, .int "MOST_BOXES" 12, .glo "BoxError", .exc "BoxError", .glo "BadCount", .exc "BadCount", .glo "BadAxes", .exc "BadAxes", .exm "BoxError" "BoxError" true, .exm "BadCount" "BoxError" true, .exm "BadAxes" "BoxError" true, .exm "BoxError" "BadCount" false, .exm "BadCount" "BadCount" true, .exm "BadAxes" "BadCount" false, .exm "BoxError" "BadAxes" false, .exm "BadCount" "BadAxes" false, .exm "BadAxes" "BadAxes" true]
def fa : List He.Fa := fa0 ++ fa1
abbrev R : PySem.W.OpenRow := PySem.W.OpenLaw.row PySem.Challenge.rw_boxeskept_k72_trees_counted
abbrev hk : PySem.W.Hook := He.hookD 4 fa fn
def ob (s : PySem.W.SharedT) : He.AlD := He.obsDG 4 fa fn (HandSHeadRun.getT s)
theorem ob_eq (s : PySem.W.SharedT) : ob s = hk.obs s.abs := He.obsDG_eq (HandSHeadRun.getT_eq s)
def loose : List Str := (["BoxError", "BadCount", "BadAxes", "MOST_BOXES", "MOST_AXES", "is_int", "within", "is_count", "is_axes_count", "need_counts", "need_count", "choices", "topped_counts", "trees_count_in", "trees_count", "cutting_count", "_law_deal", "_law_take", "_law_same", "_law_over", "_law_counts", "_law_many", "_law_word"] : List Str)
theorem run (w : World) : HandSHeadRun.RunEq R (PySem.W.view R.prog [29]) hk ob 4000 loose w := by
  intro os
  kernel_rfl
theorem fx {K : PySem.W.Frag} {h : Heap} {mg : Str → Option Value} (X : K.In h) (G : h.Ns mainGlobals mg) (c : He.SaysD fa fn K) : ∃ fd, Fx K mg fd := by
  obtain ⟨fd0, f0⟩ := c.def_ 0 (d := h0) rfl
  obtain ⟨fd1, f1⟩ := c.def_ 1 (d := h1) rfl
  obtain ⟨fd2, f2⟩ := c.def_ 2 (d := h2) rfl
  obtain ⟨fd3, f3⟩ := c.def_ 3 (d := h3) rfl
  obtain ⟨fd4, f4⟩ := c.def_ 4 (d := h4) rfl
  obtain ⟨fd5, f5⟩ := c.def_ 5 (d := h5) rfl
  obtain ⟨fd6, f6⟩ := c.def_ 6 (d := h6) rfl
  obtain ⟨fd7, f7⟩ := c.def_ 7 (d := h7) rfl
  obtain ⟨fd8, f8⟩ := c.def_ 8 (d := h8) rfl
  obtain ⟨fd9, f9⟩ := c.def_ 9 (d := h9) rfl
  obtain ⟨fd10, f10⟩ := c.def_ 10 (d := h10) rfl
  obtain ⟨fd11, f11⟩ := c.def_ 11 (d := h11) rfl
  obtain ⟨fd12, f12⟩ := c.def_ 12 (d := h12) rfl
  obtain ⟨fd13, f13⟩ := c.def_ 13 (d := h13) rfl
  obtain ⟨fd14, f14⟩ := c.def_ 14 (d := h14) rfl
  obtain ⟨fd15, f15⟩ := c.def_ 15 (d := h15) rfl
  obtain ⟨fd16, f16⟩ := c.def_ 16 (d := h16) rfl
  obtain ⟨fd17, f17⟩ := c.def_ 17 (d := h17) rfl
  obtain ⟨fd18, f18⟩ := c.def_ 18 (d := h18) rfl
  exact ⟨fun k => match k with | 0 => fd0 | 1 => fd1 | 2 => fd2 | 3 => fd3 | 4 => fd4 | 5 => fd5 | 6 => fd6 | 7 => fd7 | 8 => fd8 | 9 => fd9 | 10 => fd10 | 11 => fd11 | 12 => fd12 | 13 => fd13 | 14 => fd14 | 15 => fd15 | 16 => fd16 | 17 => fd17 | 18 => fd18 | _ => fd0,
    ⟨⟨He.free_ok X G (c.fact 0 (f := .free "len") rfl), He.free_ok X G (c.fact 1 (f := .free "tuple") rfl), He.free_ok X G (c.fact 2 (f := .free "list") rfl), He.free_ok X G (c.fact 3 (f := .free "int") rfl), He.free_ok X G (c.fact 4 (f := .free "sum") rfl), He.free_ok X G (c.fact 5 (f := .free "any") rfl), He.free_ok X G (c.fact 6 (f := .free "all") rfl), He.free_ok X G (c.fact 7 (f := .free "max") rfl), He.free_ok X G (c.fact 8 (f := .free "min") rfl), He.free_ok X G (c.fact 9 (f := .free "isinstance") rfl), He.free_ok X G (c.fact 10 (f := .free "range") rfl), He.free_ok X G (c.fact 11 (f := .free "zip") rfl), He.free_ok X G (c.fact 12 (f := .free "enumerate") rfl), He.free_ok X G (c.fact 13 (f := .free "bool") rfl), He.free_ok X G (c.fact 14 (f := .free "str") rfl)⟩,
    He.glo_ok X G (c.fact 15 (f := .glo "is_int") rfl),
    f0,
    He.glo_ok X G (c.fact 16 (f := .glo "within") rfl),
    f1,
    He.glo_ok X G (c.fact 17 (f := .glo "is_count") rfl),
    f2,
    He.glo_ok X G (c.fact 18 (f := .glo "is_axes_count") rfl),
    f3,
    He.glo_ok X G (c.fact 19 (f := .glo "need_counts") rfl),
    f4,
    He.glo_ok X G (c.fact 20 (f := .glo "need_count") rfl),
    f5,
    He.glo_ok X G (c.fact 21 (f := .glo "choices") rfl),
    f6,
    He.glo_ok X G (c.fact 22 (f := .glo "topped_counts") rfl),
    f7,
    He.glo_ok X G (c.fact 23 (f := .glo "trees_count_in") rfl),
    f8,
    He.glo_ok X G (c.fact 24 (f := .glo "trees_count") rfl),
    f9,
    He.glo_ok X G (c.fact 25 (f := .glo "cutting_count") rfl),
    f10,
    He.glo_ok X G (c.fact 26 (f := .glo "_law_deal") rfl),
    f11,
    He.glo_ok X G (c.fact 27 (f := .glo "_law_take") rfl),
    f12,
    He.glo_ok X G (c.fact 28 (f := .glo "_law_same") rfl),
    f13,
    He.glo_ok X G (c.fact 29 (f := .glo "_law_over") rfl),
    f14,
    He.glo_ok X G (c.fact 30 (f := .glo "_law_counts") rfl),
    f15,
    He.glo_ok X G (c.fact 31 (f := .glo "_law_many") rfl),
    f16,
    He.glo_ok X G (c.fact 32 (f := .glo "_law_word") rfl),
    f17,
    He.glo_ok X G (c.fact 33 (f := .glo "law") rfl),
    f18,
    He.int_ok X G (c.fact 34 (f := .int "MOST_AXES" 4) rfl),
    He.int_ok X G (c.fact 35 (f := .int "MOST_BOXES" 12) rfl),
    He.glo_ok X G (c.fact 36 (f := .glo "BoxError") rfl),
    He.exc_ok (c.fact 37 (f := .exc "BoxError") rfl),
    He.glo_ok X G (c.fact 38 (f := .glo "BadCount") rfl),
    He.exc_ok (c.fact 39 (f := .exc "BadCount") rfl),
    He.glo_ok X G (c.fact 40 (f := .glo "BadAxes") rfl),
    He.exc_ok (c.fact 41 (f := .exc "BadAxes") rfl),
    He.exm_ok (c.fact 42 (f := .exm "BoxError" "BoxError" true) rfl),
    He.exm_ok (c.fact 43 (f := .exm "BadCount" "BoxError" true) rfl),
    He.exm_ok (c.fact 44 (f := .exm "BadAxes" "BoxError" true) rfl),
    He.exm_ok (c.fact 45 (f := .exm "BoxError" "BadCount" false) rfl),
    He.exm_ok (c.fact 46 (f := .exm "BadCount" "BadCount" true) rfl),
    He.exm_ok (c.fact 47 (f := .exm "BadAxes" "BadCount" false) rfl),
    He.exm_ok (c.fact 48 (f := .exm "BoxError" "BadAxes" false) rfl),
    He.exm_ok (c.fact 49 (f := .exm "BadCount" "BadAxes" false) rfl),
    He.exm_ok (c.fact 50 (f := .exm "BadAxes" "BadAxes" true) rfl)⟩⟩
end K72

set_option Elab.async false
set_option linter.all false
set_option maxRecDepth 100000
set_option maxHeartbeats 0
namespace K72
open PySem PySem.Spec PyProof.Rows L2 BX
abbrev G0 : Gm := ⟨Fn tbl 20⟩
def sAt : Nat → Sm → Sm
  | 0, .seq a _ => a
  | 0, s => s
  | n + 1, .seq _ b => sAt n b
  | _ + 1, s => s
def rAt : Nat → Sm → Sm
  | 0, s => s
  | n + 1, .seq _ b => rAt n b
  | _ + 1, s => s
def bodyF : Sm → Sm
  | .forS _ _ b => b
  | _ => .skip
/-- the loop's body, its statements -/
def B : Sm := bodyF (sAt 1 b18)
abbrev kn : D := .lst [.int 1, .int 2, .int 6, .int 22, .int 90, .int 394, .int 1806, .int 8558]
abbrev vv (ns : List Int) (x3 x4 x5 x6 x7 x8 x9 : SV) : List SV := [.pin 0 (.frz ns), .own (.dl false), .own kn, x3, x4, x5, x6, x7, x8, x9]
section
variable {ns : List Int} {x3 x4 x5 x6 x7 x8 x9 : SV} {ds : DS}
theorem m_1_1 (Y : Sm) : exs G0 (.seq (sAt 1 B) (.seq (sAt 2 B) (.seq (sAt 3 B) (.seq (sAt 4 B) Y)))) ⟨vv ns x3 (.own (.int 1)) (.own (.int 1)) x6 x7 x8 x9, some ds, 2⟩ = exs G0 Y ⟨vv ns x3 (.own (.int 1)) (.own (.int 1)) (.own (.int 1)) x7 x8 x9, some ds, 2⟩ := by kernel_rfl
theorem m_1_2 (Y : Sm) : exs G0 (.seq (sAt 1 B) (.seq (sAt 2 B) (.seq (sAt 3 B) (.seq (sAt 4 B) Y)))) ⟨vv ns x3 (.own (.int 1)) (.own (.int 2)) x6 x7 x8 x9, some ds, 2⟩ = exs G0 Y ⟨vv ns x3 (.own (.int 1)) (.own (.int 2)) (.own (.int 1)) x7 x8 x9, some ds, 2⟩ := by kernel_rfl
theorem m_1_3 (Y : Sm) : exs G0 (.seq (sAt 1 B) (.seq (sAt 2 B) (.seq (sAt 3 B) (.seq (sAt 4 B) Y)))) ⟨vv ns x3 (.own (.int 1)) (.own (.int 3)) x6 x7 x8 x9, some ds, 2⟩ = exs G0 Y ⟨vv ns x3 (.own (.int 1)) (.own (.int 3)) (.own (.int 1)) x7 x8 x9, some ds, 2⟩ := by kernel_rfl
theorem m_1_4 (Y : Sm) : exs G0 (.seq (sAt 1 B) (.seq (sAt 2 B) (.seq (sAt 3 B) (.seq (sAt 4 B) Y)))) ⟨vv ns x3 (.own (.int 1)) (.own (.int 4)) x6 x7 x8 x9, some ds, 2⟩ = exs G0 Y ⟨vv ns x3 (.own (.int 1)) (.own (.int 4)) (.own (.int 1)) x7 x8 x9, some ds, 2⟩ := by kernel_rfl
theorem m_2_1 (Y : Sm) : exs G0 (.seq (sAt 1 B) (.seq (sAt 2 B) (.seq (sAt 3 B) (.seq (sAt 4 B) Y)))) ⟨vv ns x3 (.own (.int 2)) (.own (.int 1)) x6 x7 x8 x9, some ds, 2⟩ = exs G0 Y ⟨vv ns x3 (.own (.int 2)) (.own (.int 1)) (.own (.int 2)) x7 x8 x9, some ds, 2⟩ := by kernel_rfl
theorem m_2_2 (Y : Sm) : exs G0 (.seq (sAt 1 B) (.seq (sAt 2 B) (.seq (sAt 3 B) (.seq (sAt 4 B) Y)))) ⟨vv ns x3 (.own (.int 2)) (.own (.int 2)) x6 x7 x8 x9, some ds, 2⟩ = exs G0 Y ⟨vv ns x3 (.own (.int 2)) (.own (.int 2)) (.own (.int 4)) x7 x8 x9, some ds, 2⟩ := by kernel_rfl
theorem m_2_3 (Y : Sm) : exs G0 (.seq (sAt 1 B) (.seq (sAt 2 B) (.seq (sAt 3 B) (.seq (sAt 4 B) Y)))) ⟨vv ns x3 (.own (.int 2)) (.own (.int 3)) x6 x7 x8 x9, some ds, 2⟩ = exs G0 Y ⟨vv ns x3 (.own (.int 2)) (.own (.int 3)) (.own (.int 6)) x7 x8 x9, some ds, 2⟩ := by kernel_rfl
theorem m_2_4 (Y : Sm) : exs G0 (.seq (sAt 1 B) (.seq (sAt 2 B) (.seq (sAt 3 B) (.seq (sAt 4 B) Y)))) ⟨vv ns x3 (.own (.int 2)) (.own (.int 4)) x6 x7 x8 x9, some ds, 2⟩ = exs G0 Y ⟨vv ns x3 (.own (.int 2)) (.own (.int 4)) (.own (.int 8)) x7 x8 x9, some ds, 2⟩ := by kernel_rfl
theorem m_3_1 (Y : Sm) : exs G0 (.seq (sAt 1 B) (.seq (sAt 2 B) (.seq (sAt 3 B) (.seq (sAt 4 B) Y)))) ⟨vv ns x3 (.own (.int 3)) (.own (.int 1)) x6 x7 x8 x9, some ds, 2⟩ = exs G0 Y ⟨vv ns x3 (.own (.int 3)) (.own (.int 1)) (.own (.int 6)) x7 x8 x9, some ds, 2⟩ := by kernel_rfl
theorem m_3_2 (Y : Sm) : exs G0 (.seq (sAt 1 B) (.seq (sAt 2 B) (.seq (sAt 3 B) (.seq (sAt 4 B) Y)))) ⟨vv ns x3 (.own (.int 3)) (.own (.int 2)) x6 x7 x8 x9, some ds, 2⟩ = exs G0 Y ⟨vv ns x3 (.own (.int 3)) (.own (.int 2)) (.own (.int 36)) x7 x8 x9, some ds, 2⟩ := by kernel_rfl
theorem m_3_3 (Y : Sm) : exs G0 (.seq (sAt 1 B) (.seq (sAt 2 B) (.seq (sAt 3 B) (.seq (sAt 4 B) Y)))) ⟨vv ns x3 (.own (.int 3)) (.own (.int 3)) x6 x7 x8 x9, some ds, 2⟩ = exs G0 Y ⟨vv ns x3 (.own (.int 3)) (.own (.int 3)) (.own (.int 90)) x7 x8 x9, some ds, 2⟩ := by kernel_rfl
theorem m_3_4 (Y : Sm) : exs G0 (.seq (sAt 1 B) (.seq (sAt 2 B) (.seq (sAt 3 B) (.seq (sAt 4 B) Y)))) ⟨vv ns x3 (.own (.int 3)) (.own (.int 4)) x6 x7 x8 x9, some ds, 2⟩ = exs G0 Y ⟨vv ns x3 (.own (.int 3)) (.own (.int 4)) (.own (.int 168)) x7 x8 x9, some ds, 2⟩ := by kernel_rfl
theorem m_4_1 (Y : Sm) : exs G0 (.seq (sAt 1 B) (.seq (sAt 2 B) (.seq (sAt 3 B) (.seq (sAt 4 B) Y)))) ⟨vv ns x3 (.own (.int 4)) (.own (.int 1)) x6 x7 x8 x9, some ds, 2⟩ = exs G0 Y ⟨vv ns x3 (.own (.int 4)) (.own (.int 1)) (.own (.int 24)) x7 x8 x9, some ds, 2⟩ := by kernel_rfl
theorem m_4_2 (Y : Sm) : exs G0 (.seq (sAt 1 B) (.seq (sAt 2 B) (.seq (sAt 3 B) (.seq (sAt 4 B) Y)))) ⟨vv ns x3 (.own (.int 4)) (.own (.int 2)) x6 x7 x8 x9, some ds, 2⟩ = exs G0 Y ⟨vv ns x3 (.own (.int 4)) (.own (.int 2)) (.own (.int 528)) x7 x8 x9, some ds, 2⟩ := by kernel_rfl
theorem m_4_3 (Y : Sm) : exs G0 (.seq (sAt 1 B) (.seq (sAt 2 B) (.seq (sAt 3 B) (.seq (sAt 4 B) Y)))) ⟨vv ns x3 (.own (.int 4)) (.own (.int 3)) x6 x7 x8 x9, some ds, 2⟩ = exs G0 Y ⟨vv ns x3 (.own (.int 4)) (.own (.int 3)) (.own (.int 2232)) x7 x8 x9, some ds, 2⟩ := by kernel_rfl
theorem m_4_4 (Y : Sm) : exs G0 (.seq (sAt 1 B) (.seq (sAt 2 B) (.seq (sAt 3 B) (.seq (sAt 4 B) Y)))) ⟨vv ns x3 (.own (.int 4)) (.own (.int 4)) x6 x7 x8 x9, some ds, 2⟩ = exs G0 Y ⟨vv ns x3 (.own (.int 4)) (.own (.int 4)) (.own (.int 5856)) x7 x8 x9, some ds, 2⟩ := by kernel_rfl
theorem m_5_1 (Y : Sm) : exs G0 (.seq (sAt 1 B) (.seq (sAt 2 B) (.seq (sAt 3 B) (.seq (sAt 4 B) Y)))) ⟨vv ns x3 (.own (.int 5)) (.own (.int 1)) x6 x7 x8 x9, some ds, 2⟩ = exs G0 Y ⟨vv ns x3 (.own (.int 5)) (.own (.int 1)) (.own (.int 120)) x7 x8 x9, some ds, 2⟩ := by kernel_rfl
theorem m_5_2 (Y : Sm) : exs G0 (.seq (sAt 1 B) (.seq (sAt 2 B) (.seq (sAt 3 B) (.seq (sAt 4 B) Y)))) ⟨vv ns x3 (.own (.int 5)) (.own (.int 2)) x6 x7 x8 x9, some ds, 2⟩ = exs G0 Y ⟨vv ns x3 (.own (.int 5)) (.own (.int 2)) (.own (.int 10800)) x7 x8 x9, some ds, 2⟩ := by kernel_rfl
theorem m_5_3 (Y : Sm) : exs G0 (.seq (sAt 1 B) (.seq (sAt 2 B) (.seq (sAt 3 B) (.seq (sAt 4 B) Y)))) ⟨vv ns x3 (.own (.int 5)) (.own (.int 3)) x6 x7 x8 x9, some ds, 2⟩ = exs G0 Y ⟨vv ns x3 (.own (.int 5)) (.own (.int 3)) (.own (.int 77400)) x7 x8 x9, some ds, 2⟩ := by kernel_rfl
theorem m_5_4 (Y : Sm) : exs G0 (.seq (sAt 1 B) (.seq (sAt 2 B) (.seq (sAt 3 B) (.seq (sAt 4 B) Y)))) ⟨vv ns x3 (.own (.int 5)) (.own (.int 4)) x6 x7 x8 x9, some ds, 2⟩ = exs G0 Y ⟨vv ns x3 (.own (.int 5)) (.own (.int 4)) (.own (.int 285600)) x7 x8 x9, some ds, 2⟩ := by kernel_rfl
theorem m_6_1 (Y : Sm) : exs G0 (.seq (sAt 1 B) (.seq (sAt 2 B) (.seq (sAt 3 B) (.seq (sAt 4 B) Y)))) ⟨vv ns x3 (.own (.int 6)) (.own (.int 1)) x6 x7 x8 x9, some ds, 2⟩ = exs G0 Y ⟨vv ns x3 (.own (.int 6)) (.own (.int 1)) (.own (.int 720)) x7 x8 x9, some ds, 2⟩ := by kernel_rfl
theorem m_6_2 (Y : Sm) : exs G0 (.seq (sAt 1 B) (.seq (sAt 2 B) (.seq (sAt 3 B) (.seq (sAt 4 B) Y)))) ⟨vv ns x3 (.own (.int 6)) (.own (.int 2)) x6 x7 x8 x9, some ds, 2⟩ = exs G0 Y ⟨vv ns x3 (.own (.int 6)) (.own (.int 2)) (.own (.int 283680)) x7 x8 x9, some ds, 2⟩ := by kernel_rfl
theorem m_6_3 (Y : Sm) : exs G0 (.seq (sAt 1 B) (.seq (sAt 2 B) (.seq (sAt 3 B) (.seq (sAt 4 B) Y)))) ⟨vv ns x3 (.own (.int 6)) (.own (.int 3)) x6 x7 x8 x9, some ds, 2⟩ = exs G0 Y ⟨vv ns x3 (.own (.int 6)) (.own (.int 3)) (.own (.int 3449520)) x7 x8 x9, some ds, 2⟩ := by kernel_rfl
theorem m_6_4 (Y : Sm) : exs G0 (.seq (sAt 1 B) (.seq (sAt 2 B) (.seq (sAt 3 B) (.seq (sAt 4 B) Y)))) ⟨vv ns x3 (.own (.int 6)) (.own (.int 4)) x6 x7 x8 x9, some ds, 2⟩ = exs G0 Y ⟨vv ns x3 (.own (.int 6)) (.own (.int 4)) (.own (.int 17904960)) x7 x8 x9, some ds, 2⟩ := by kernel_rfl
theorem m_7_1 (Y : Sm) : exs G0 (.seq (sAt 1 B) (.seq (sAt 2 B) (.seq (sAt 3 B) (.seq (sAt 4 B) Y)))) ⟨vv ns x3 (.own (.int 7)) (.own (.int 1)) x6 x7 x8 x9, some ds, 2⟩ = exs G0 Y ⟨vv ns x3 (.own (.int 7)) (.own (.int 1)) (.own (.int 5040)) x7 x8 x9, some ds, 2⟩ := by kernel_rfl
theorem m_7_2 (Y : Sm) : exs G0 (.seq (sAt 1 B) (.seq (sAt 2 B) (.seq (sAt 3 B) (.seq (sAt 4 B) Y)))) ⟨vv ns x3 (.own (.int 7)) (.own (.int 2)) x6 x7 x8 x9, some ds, 2⟩ = exs G0 Y ⟨vv ns x3 (.own (.int 7)) (.own (.int 2)) (.own (.int 9102240)) x7 x8 x9, some ds, 2⟩ := by kernel_rfl
theorem m_7_3 (Y : Sm) : exs G0 (.seq (sAt 1 B) (.seq (sAt 2 B) (.seq (sAt 3 B) (.seq (sAt 4 B) Y)))) ⟨vv ns x3 (.own (.int 7)) (.own (.int 3)) x6 x7 x8 x9, some ds, 2⟩ = exs G0 Y ⟨vv ns x3 (.own (.int 7)) (.own (.int 3)) (.own (.int 187866000)) x7 x8 x9, some ds, 2⟩ := by kernel_rfl
theorem m_7_4 (Y : Sm) : exs G0 (.seq (sAt 1 B) (.seq (sAt 2 B) (.seq (sAt 3 B) (.seq (sAt 4 B) Y)))) ⟨vv ns x3 (.own (.int 7)) (.own (.int 4)) x6 x7 x8 x9, some ds, 2⟩ = exs G0 Y ⟨vv ns x3 (.own (.int 7)) (.own (.int 4)) (.own (.int 1371827520)) x7 x8 x9, some ds, 2⟩ := by kernel_rfl
theorem m_8_1 (Y : Sm) : exs G0 (.seq (sAt 1 B) (.seq (sAt 2 B) (.seq (sAt 3 B) (.seq (sAt 4 B) Y)))) ⟨vv ns x3 (.own (.int 8)) (.own (.int 1)) x6 x7 x8 x9, some ds, 2⟩ = exs G0 Y ⟨vv ns x3 (.own (.int 8)) (.own (.int 1)) (.own (.int 40320)) x7 x8 x9, some ds, 2⟩ := by kernel_rfl
theorem m_8_2 (Y : Sm) : exs G0 (.seq (sAt 1 B) (.seq (sAt 2 B) (.seq (sAt 3 B) (.seq (sAt 4 B) Y)))) ⟨vv ns x3 (.own (.int 8)) (.own (.int 2)) x6 x7 x8 x9, some ds, 2⟩ = exs G0 Y ⟨vv ns x3 (.own (.int 8)) (.own (.int 2)) (.own (.int 345058560)) x7 x8 x9, some ds, 2⟩ := by kernel_rfl
theorem m_8_3 (Y : Sm) : exs G0 (.seq (sAt 1 B) (.seq (sAt 2 B) (.seq (sAt 3 B) (.seq (sAt 4 B) Y)))) ⟨vv ns x3 (.own (.int 8)) (.own (.int 3)) x6 x7 x8 x9, some ds, 2⟩ = exs G0 Y ⟨vv ns x3 (.own (.int 8)) (.own (.int 3)) (.own (.int 12090556800)) x7 x8 x9, some ds, 2⟩ := by kernel_rfl
theorem m_8_4 (Y : Sm) : exs G0 (.seq (sAt 1 B) (.seq (sAt 2 B) (.seq (sAt 3 B) (.seq (sAt 4 B) Y)))) ⟨vv ns x3 (.own (.int 8)) (.own (.int 4)) x6 x7 x8 x9, some ds, 2⟩ = exs G0 Y ⟨vv ns x3 (.own (.int 8)) (.own (.int 4)) (.own (.int 124209630720)) x7 x8 x9, some ds, 2⟩ := by kernel_rfl
theorem m_9_1 (Y : Sm) : exs G0 (.seq (sAt 1 B) (.seq (sAt 2 B) (.seq (sAt 3 B) (.seq (sAt 4 B) Y)))) ⟨vv ns x3 (.own (.int 9)) (.own (.int 1)) x6 x7 x8 x9, some ds, 2⟩ = exs G0 Y ⟨vv ns x3 (.own (.int 9)) (.own (.int 1)) (.own (.int 362880)) x7 x8 x9, some ds, 2⟩ := by kernel_rfl
theorem m_9_2 (Y : Sm) : exs G0 (.seq (sAt 1 B) (.seq (sAt 2 B) (.seq (sAt 3 B) (.seq (sAt 4 B) Y)))) ⟨vv ns x3 (.own (.int 9)) (.own (.int 2)) x6 x7 x8 x9, some ds, 2⟩ = exs G0 Y ⟨vv ns x3 (.own (.int 9)) (.own (.int 2)) (.own (.int 15090727680)) x7 x8 x9, some ds, 2⟩ := by kernel_rfl
theorem m_9_3 (Y : Sm) : exs G0 (.seq (sAt 1 B) (.seq (sAt 2 B) (.seq (sAt 3 B) (.seq (sAt 4 B) Y)))) ⟨vv ns x3 (.own (.int 9)) (.own (.int 3)) x6 x7 x8 x9, some ds, 2⟩ = exs G0 Y ⟨vv ns x3 (.own (.int 9)) (.own (.int 3)) (.own (.int 897774192000)) x7 x8 x9, some ds, 2⟩ := by kernel_rfl
theorem m_9_4 (Y : Sm) : exs G0 (.seq (sAt 1 B) (.seq (sAt 2 B) (.seq (sAt 3 B) (.seq (sAt 4 B) Y)))) ⟨vv ns x3 (.own (.int 9)) (.own (.int 4)) x6 x7 x8 x9, some ds, 2⟩ = exs G0 Y ⟨vv ns x3 (.own (.int 9)) (.own (.int 4)) (.own (.int 12976163504640)) x7 x8 x9, some ds, 2⟩ := by kernel_rfl
theorem m_10_1 (Y : Sm) : exs G0 (.seq (sAt 1 B) (.seq (sAt 2 B) (.seq (sAt 3 B) (.seq (sAt 4 B) Y)))) ⟨vv ns x3 (.own (.int 10)) (.own (.int 1)) x6 x7 x8 x9, some ds, 2⟩ = exs G0 Y ⟨vv ns x3 (.own (.int 10)) (.own (.int 1)) (.own (.int 3628800)) x7 x8 x9, some ds, 2⟩ := by kernel_rfl
theorem m_10_2 (Y : Sm) : exs G0 (.seq (sAt 1 B) (.seq (sAt 2 B) (.seq (sAt 3 B) (.seq (sAt 4 B) Y)))) ⟨vv ns x3 (.own (.int 10)) (.own (.int 2)) x6 x7 x8 x9, some ds, 2⟩ = exs G0 Y ⟨vv ns x3 (.own (.int 10)) (.own (.int 2)) (.own (.int 747888422400)) x7 x8 x9, some ds, 2⟩ := by kernel_rfl
theorem m_10_3 (Y : Sm) : exs G0 (.seq (sAt 1 B) (.seq (sAt 2 B) (.seq (sAt 3 B) (.seq (sAt 4 B) Y)))) ⟨vv ns x3 (.own (.int 10)) (.own (.int 3)) x6 x7 x8 x9, some ds, 2⟩ = exs G0 Y ⟨vv ns x3 (.own (.int 10)) (.own (.int 3)) (.own (.int 75549101241600)) x7 x8 x9, some ds, 2⟩ := by kernel_rfl
theorem m_10_4 (Y : Sm) : exs G0 (.seq (sAt 1 B) (.seq (sAt 2 B) (.seq (sAt 3 B) (.seq (sAt 4 B) Y)))) ⟨vv ns x3 (.own (.int 10)) (.own (.int 4)) x6 x7 x8 x9, some ds, 2⟩ = exs G0 Y ⟨vv ns x3 (.own (.int 10)) (.own (.int 4)) (.own (.int 1536338250316800)) x7 x8 x9, some ds, 2⟩ := by kernel_rfl
theorem m_11_1 (Y : Sm) : exs G0 (.seq (sAt 1 B) (.seq (sAt 2 B) (.seq (sAt 3 B) (.seq (sAt 4 B) Y)))) ⟨vv ns x3 (.own (.int 11)) (.own (.int 1)) x6 x7 x8 x9, some ds, 2⟩ = exs G0 Y ⟨vv ns x3 (.own (.int 11)) (.own (.int 1)) (.own (.int 39916800)) x7 x8 x9, some ds, 2⟩ := by kernel_rfl
theorem m_11_2 (Y : Sm) : exs G0 (.seq (sAt 1 B) (.seq (sAt 2 B) (.seq (sAt 3 B) (.seq (sAt 4 B) Y)))) ⟨vv ns x3 (.own (.int 11)) (.own (.int 2)) x6 x7 x8 x9, some ds, 2⟩ = exs G0 Y ⟨vv ns x3 (.own (.int 11)) (.own (.int 2)) (.own (.int 41422381862400)) x7 x8 x9, some ds, 2⟩ := by kernel_rfl
theorem m_11_3 (Y : Sm) : exs G0 (.seq (sAt 1 B) (.seq (sAt 2 B) (.seq (sAt 3 B) (.seq (sAt 4 B) Y)))) ⟨vv ns x3 (.own (.int 11)) (.own (.int 3)) x6 x7 x8 x9, some ds, 2⟩ = exs G0 Y ⟨vv ns x3 (.own (.int 11)) (.own (.int 3)) (.own (.int 7105342682592000)) x7 x8 x9, some ds, 2⟩ := by kernel_rfl
theorem m_11_4 (Y : Sm) : exs G0 (.seq (sAt 1 B) (.seq (sAt 2 B) (.seq (sAt 3 B) (.seq (sAt 4 B) Y)))) ⟨vv ns x3 (.own (.int 11)) (.own (.int 4)) x6 x7 x8 x9, some ds, 2⟩ = exs G0 Y ⟨vv ns x3 (.own (.int 11)) (.own (.int 4)) (.own (.int 203294894211763200)) x7 x8 x9, some ds, 2⟩ := by kernel_rfl
theorem m_12_1 (Y : Sm) : exs G0 (.seq (sAt 1 B) (.seq (sAt 2 B) (.seq (sAt 3 B) (.seq (sAt 4 B) Y)))) ⟨vv ns x3 (.own (.int 12)) (.own (.int 1)) x6 x7 x8 x9, some ds, 2⟩ = exs G0 Y ⟨vv ns x3 (.own (.int 12)) (.own (.int 1)) (.own (.int 479001600)) x7 x8 x9, some ds, 2⟩ := by kernel_rfl
theorem m_12_2 (Y : Sm) : exs G0 (.seq (sAt 1 B) (.seq (sAt 2 B) (.seq (sAt 3 B) (.seq (sAt 4 B) Y)))) ⟨vv ns x3 (.own (.int 12)) (.own (.int 2)) x6 x7 x8 x9, some ds, 2⟩ = exs G0 Y ⟨vv ns x3 (.own (.int 12)) (.own (.int 2)) (.own (.int 2535569103513600)) x7 x8 x9, some ds, 2⟩ := by kernel_rfl
theorem m_12_3 (Y : Sm) : exs G0 (.seq (sAt 1 B) (.seq (sAt 2 B) (.seq (sAt 3 B) (.seq (sAt 4 B) Y)))) ⟨vv ns x3 (.own (.int 12)) (.own (.int 3)) x6 x7 x8 x9, some ds, 2⟩ = exs G0 Y ⟨vv ns x3 (.own (.int 12)) (.own (.int 3)) (.own (.int 738581620649241600)) x7 x8 x9, some ds, 2⟩ := by kernel_rfl
theorem m_12_4 (Y : Sm) : exs G0 (.seq (sAt 1 B) (.seq (sAt 2 B) (.seq (sAt 3 B) (.seq (sAt 4 B) Y)))) ⟨vv ns x3 (.own (.int 12)) (.own (.int 4)) x6 x7 x8 x9, some ds, 2⟩ = exs G0 Y ⟨vv ns x3 (.own (.int 12)) (.own (.int 4)) (.own (.int 29732251962347827200)) x7 x8 x9, some ds, 2⟩ := by kernel_rfl
theorem mid (n d : Int) (n1 : 1 ≤ n) (n2 : n ≤ 12) (d1 : 1 ≤ d) (d2 : d ≤ 4) : ∃ due, ∀ Y, exs G0 (.seq (sAt 1 B) (.seq (sAt 2 B) (.seq (sAt 3 B) (.seq (sAt 4 B) Y)))) ⟨vv ns x3 (.own (.int n)) (.own (.int d)) x6 x7 x8 x9, some ds, 2⟩ = exs G0 Y ⟨vv ns x3 (.own (.int n)) (.own (.int d)) (.own (.int due)) x7 x8 x9, some ds, 2⟩ := by
  obtain h | h | h | h | h | h | h | h | h | h | h | h : n = 1 ∨ n = 2 ∨ n = 3 ∨ n = 4 ∨ n = 5 ∨ n = 6 ∨ n = 7 ∨ n = 8 ∨ n = 9 ∨ n = 10 ∨ n = 11 ∨ n = 12 := by omega
  · obtain g | g | g | g : d = 1 ∨ d = 2 ∨ d = 3 ∨ d = 4 := by omega
    · subst h g; exact ⟨_, m_1_1⟩
    · subst h g; exact ⟨_, m_1_2⟩
    · subst h g; exact ⟨_, m_1_3⟩
    · subst h g; exact ⟨_, m_1_4⟩
  · obtain g | g | g | g : d = 1 ∨ d = 2 ∨ d = 3 ∨ d = 4 := by omega
    · subst h g; exact ⟨_, m_2_1⟩
    · subst h g; exact ⟨_, m_2_2⟩
    · subst h g; exact ⟨_, m_2_3⟩
    · subst h g; exact ⟨_, m_2_4⟩
  · obtain g | g | g | g : d = 1 ∨ d = 2 ∨ d = 3 ∨ d = 4 := by omega
    · subst h g; exact ⟨_, m_3_1⟩
    · subst h g; exact ⟨_, m_3_2⟩
    · subst h g; exact ⟨_, m_3_3⟩
    · subst h g; exact ⟨_, m_3_4⟩
  · obtain g | g | g | g : d = 1 ∨ d = 2 ∨ d = 3 ∨ d = 4 := by omega
    · subst h g; exact ⟨_, m_4_1⟩
    · subst h g; exact ⟨_, m_4_2⟩
    · subst h g; exact ⟨_, m_4_3⟩
    · subst h g; exact ⟨_, m_4_4⟩
  · obtain g | g | g | g : d = 1 ∨ d = 2 ∨ d = 3 ∨ d = 4 := by omega
    · subst h g; exact ⟨_, m_5_1⟩
    · subst h g; exact ⟨_, m_5_2⟩
    · subst h g; exact ⟨_, m_5_3⟩
    · subst h g; exact ⟨_, m_5_4⟩
  · obtain g | g | g | g : d = 1 ∨ d = 2 ∨ d = 3 ∨ d = 4 := by omega
    · subst h g; exact ⟨_, m_6_1⟩
    · subst h g; exact ⟨_, m_6_2⟩
    · subst h g; exact ⟨_, m_6_3⟩
    · subst h g; exact ⟨_, m_6_4⟩
  · obtain g | g | g | g : d = 1 ∨ d = 2 ∨ d = 3 ∨ d = 4 := by omega
    · subst h g; exact ⟨_, m_7_1⟩
    · subst h g; exact ⟨_, m_7_2⟩
    · subst h g; exact ⟨_, m_7_3⟩
    · subst h g; exact ⟨_, m_7_4⟩
  · obtain g | g | g | g : d = 1 ∨ d = 2 ∨ d = 3 ∨ d = 4 := by omega
    · subst h g; exact ⟨_, m_8_1⟩
    · subst h g; exact ⟨_, m_8_2⟩
    · subst h g; exact ⟨_, m_8_3⟩
    · subst h g; exact ⟨_, m_8_4⟩
  · obtain g | g | g | g : d = 1 ∨ d = 2 ∨ d = 3 ∨ d = 4 := by omega
    · subst h g; exact ⟨_, m_9_1⟩
    · subst h g; exact ⟨_, m_9_2⟩
    · subst h g; exact ⟨_, m_9_3⟩
    · subst h g; exact ⟨_, m_9_4⟩
  · obtain g | g | g | g : d = 1 ∨ d = 2 ∨ d = 3 ∨ d = 4 := by omega
    · subst h g; exact ⟨_, m_10_1⟩
    · subst h g; exact ⟨_, m_10_2⟩
    · subst h g; exact ⟨_, m_10_3⟩
    · subst h g; exact ⟨_, m_10_4⟩
  · obtain g | g | g | g : d = 1 ∨ d = 2 ∨ d = 3 ∨ d = 4 := by omega
    · subst h g; exact ⟨_, m_11_1⟩
    · subst h g; exact ⟨_, m_11_2⟩
    · subst h g; exact ⟨_, m_11_3⟩
    · subst h g; exact ⟨_, m_11_4⟩
  · obtain g | g | g | g : d = 1 ∨ d = 2 ∨ d = 3 ∨ d = 4 := by omega
    · subst h g; exact ⟨_, m_12_1⟩
    · subst h g; exact ⟨_, m_12_2⟩
    · subst h g; exact ⟨_, m_12_3⟩
    · subst h g; exact ⟨_, m_12_4⟩
def isS (r : Res D) (x : Str) : Bool := match r with
  | .ok (.str y) _ => decide (x = y)
  | _ => false
theorem isS_ok {r : Res D} {x : Str} (h : isS r x = true) : ∃ s, r = .ok (.str x) s := by
  unfold isS at h
  split at h
  · rename_i y s
    rw [of_decide_eq_true h]
    exact ⟨s, rfl⟩
  · cases h
def bads : List D := [.int 0, .int 13, .int (-1), .non, .bl true, .str "3"]
def odds : List D := [.int 0, .int 5, .non, .bl true, .tup [.int 2]]
def nums : List D := [.int 1, .int 2, .int 3, .int 4, .int 5, .int 6, .int 7, .int 8, .int 9, .int 10, .int 11, .int 12]
theorem w1 : (bads.all fun b => odds.all fun o => isS (Fn tbl 20 17 [.int 0, b, o] none) "count") = true := by decide +kernel
theorem w2 : (nums.all fun n => odds.all fun o => isS (Fn tbl 20 17 [.int 0, n, o] none) "axes") = true := by decide +kernel
theorem w3 : (bads.all fun b => isS (Fn tbl 20 17 [.int 1, b, .non] none) "count" && isS (Fn tbl 20 17 [.int 0, b, .int 2] none) "count") = true := by decide +kernel
end
end K72

set_option Elab.async false
set_option linter.all false
set_option maxRecDepth 100000
set_option maxHeartbeats 0
namespace K72
open PySem PySem.Spec PyProof.Rows L2 BX
section
variable {ns : List Int} {x3 x4 x5 x6 x7 x8 x9 : SV} {ds : DS}
theorem draw (k : Int) (h0 : 0 < k) (h1 : k < 1073741824) (ds : DS) : ∃ r ds', ev G0 (.call 12 (.cons (.var 1) (.cons (.lit (.int k)) .nil))) false (vv ns x3 x4 x5 x6 x7 x8 x9) (some ds) = .ok (.int r) (some ds') ∧ 0 ≤ r ∧ r < k := by
  obtain ⟨r, ds', e, b⟩ := take_ok (tbl := tbl) (kt := 12) (n := 19) rfl ds k h0 h1
  exact ⟨r, ds', ev_call (evA_cons (ev_var rfl) (evA_cons ev_lit evA_nil)) e, b⟩
theorem st1 (ds : DS) : ∃ n d ds', 1 ≤ n ∧ n ≤ 12 ∧ 1 ≤ d ∧ d ≤ 4 ∧ exs G0 (sAt 0 B) ⟨vv ns x3 x4 x5 x6 x7 x8 x9, some ds, 2⟩ = .nx ⟨vv ns x3 (.own (.int n)) (.own (.int d)) x6 x7 x8 x9, some ds', 2⟩ := by
  obtain ⟨r1, ds1, e1, p1, q1⟩ := draw (ns := ns) (x3 := x3) (x4 := x4) (x5 := x5) (x6 := x6) (x7 := x7) (x8 := x8) (x9 := x9) 12 (by decide) (by decide) ds
  obtain ⟨r2, ds2, e2, p2, q2⟩ := draw (ns := ns) (x3 := x3) (x4 := x4) (x5 := x5) (x6 := x6) (x7 := x7) (x8 := x8) (x9 := x9) 4 (by decide) (by decide) ds1
  obtain ⟨r3, ds3, e3, p3, q3⟩ := draw (ns := ns) (x3 := x3) (x4 := x4) (x5 := x5) (x6 := x6) (x7 := x7) (x8 := x8) (x9 := x9) 4 (by decide) (by decide) ds2
  have key : ∃ n, 1 ≤ n ∧ n ≤ 12 ∧ f2 .ix (.lst [.int 1, .int 2, .int 12, .int (1 + r1)]) (.int r2) = some (.int n) := by
    obtain h | h | h | h : r2 = 0 ∨ r2 = 1 ∨ r2 = 2 ∨ r2 = 3 := by omega
    · exact ⟨1, by omega, by omega, by rw [h]; rfl⟩
    · exact ⟨2, by omega, by omega, by rw [h]; rfl⟩
    · exact ⟨12, by omega, by omega, by rw [h]; rfl⟩
    · exact ⟨1 + r1, by omega, by omega, by rw [h]; rfl⟩
  obtain ⟨n, n1, n2, en⟩ := key
  refine ⟨n, 1 + r3, ds3, n1, n2, by omega, by omega, ?_⟩
  exact asg_nx (ev_tup (evA_cons (ev_op2 (ev_lst (evA_cons ev_lit (evA_cons ev_lit (evA_cons ev_lit (evA_cons (ev_op2 ev_lit e1 rfl) evA_nil))))) e2 en) (evA_cons (ev_op2 ev_lit e3 rfl) evA_nil))) rfl rfl
theorem st6 (ds : DS) : ∃ b o ds', (b = .int 0 ∨ b = .int 13 ∨ b = .int (-1) ∨ b = .non ∨ b = .bl true ∨ b = .str "3") ∧ (o = .int 0 ∨ o = .int 5 ∨ o = .non ∨ o = .bl true ∨ o = .tup [.int 2]) ∧
    exs G0 (sAt 5 B) ⟨vv ns x3 x4 x5 x6 x7 x8 x9, some ds, 2⟩ = .nx ⟨vv ns x3 x4 x5 x6 (.own b) (.own o) x9, some ds', 2⟩ := by
  obtain ⟨r1, ds1, e1, p1, q1⟩ := draw (ns := ns) (x3 := x3) (x4 := x4) (x5 := x5) (x6 := x6) (x7 := x7) (x8 := x8) (x9 := x9) 6 (by decide) (by decide) ds
  obtain ⟨r2, ds2, e2, p2, q2⟩ := draw (ns := ns) (x3 := x3) (x4 := x4) (x5 := x5) (x6 := x6) (x7 := x7) (x8 := x8) (x9 := x9) 5 (by decide) (by decide) ds1
  have k1 : ∃ b, (b = .int 0 ∨ b = .int 13 ∨ b = .int (-1) ∨ b = .non ∨ b = .bl true ∨ b = .str "3") ∧ f2 .ix (.lst [.int 0, .int 13, .int (-1), .non, .bl true, .str "3"]) (.int r1) = some b := by
    obtain h | h | h | h | h | h : r1 = 0 ∨ r1 = 1 ∨ r1 = 2 ∨ r1 = 3 ∨ r1 = 4 ∨ r1 = 5 := by omega
    all_goals (rw [h]; exact ⟨_, by simp, rfl⟩)
  have k2 : ∃ b, (b = .int 0 ∨ b = .int 5 ∨ b = .non ∨ b = .bl true ∨ b = .tup [.int 2]) ∧ f2 .ix (.lst [.int 0, .int 5, .non, .bl true, .tup [.int 2]]) (.int r2) = some b := by
    obtain h | h | h | h | h : r2 = 0 ∨ r2 = 1 ∨ r2 = 2 ∨ r2 = 3 ∨ r2 = 4 := by omega
    all_goals (rw [h]; exact ⟨_, by simp, rfl⟩)
  obtain ⟨b, hb, eb⟩ := k1
  obtain ⟨o, ho, eo⟩ := k2
  refine ⟨b, o, ds2, hb, ho, ?_⟩
  have fr : ∀ {b : D} {e : Ex}, noL b = true → frD (.op2 .ix e (.lit .non)) b = true := fun h => h
  have nb : noL b = true := by rcases hb with h | h | h | h | h | h <;> rw [h] <;> rfl
  have no : noL o = true := by rcases ho with h | h | h | h | h <;> rw [h] <;> rfl
  refine asg_nx (ev_tup (evA_cons (ev_op2 (ev_lst (evA_cons ev_lit (evA_cons ev_lit (evA_cons (ev_op1 ev_lit rfl) (evA_cons ev_lit (evA_cons ev_lit (evA_cons ev_lit evA_nil))))))) e1 eb) (evA_cons (ev_op2 (ev_lst (evA_cons ev_lit (evA_cons ev_lit (evA_cons ev_lit (evA_cons ev_lit (evA_cons (ev_tup (evA_cons ev_lit evA_nil)) evA_nil)))))) e2 eo) evA_nil))) ?_ rfl
  show (noLs [b, o] || _) = true
  simp [noLs, nb, no]

theorem st7 {n : Int} {b o : D} (n1 : 1 ≤ n) (n2 : n ≤ 12) (hb : b ∈ bads) (ho : o ∈ odds) : exs G0 (rAt 6 B) ⟨vv ns x3 (.own (.int n)) x5 x6 (.own b) (.own o) x9, some ds, 2⟩ = .nx ⟨vv ns x3 (.own (.int n)) x5 x6 (.own b) (.own o) x9, some ds, 2⟩ := by
  have hn : D.int n ∈ nums := by
    obtain h | h | h | h | h | h | h | h | h | h | h | h : n = 1 ∨ n = 2 ∨ n = 3 ∨ n = 4 ∨ n = 5 ∨ n = 6 ∨ n = 7 ∨ n = 8 ∨ n = 9 ∨ n = 10 ∨ n = 11 ∨ n = 12 := by omega
    all_goals (rw [h]; simp [nums])
  obtain ⟨s1, e1⟩ := isS_ok (List.all_eq_true.mp (List.all_eq_true.mp w1 b hb) o ho)
  obtain ⟨s2, e2⟩ := isS_ok (List.all_eq_true.mp (List.all_eq_true.mp w2 _ hn) o ho)
  have h3 := List.all_eq_true.mp w3 b hb
  rw [Bool.and_eq_true] at h3
  obtain ⟨s3, e3⟩ := isS_ok h3.1
  obtain ⟨s4, e4⟩ := isS_ok h3.2
  have hv : ev G0 (.op2 .ne (.lst (.cons (.pcl 17 (.cons (.lit (.int 0)) (.cons (.var 7) (.cons (.var 8) .nil)))) (.cons (.pcl 17 (.cons (.lit (.int 0)) (.cons (.var 4) (.cons (.var 8) .nil)))) (.cons (.pcl 17 (.cons (.lit (.int 1)) (.cons (.var 7) (.cons (.lit .non) .nil)))) (.cons (.pcl 17 (.cons (.lit (.int 0)) (.cons (.var 7) (.cons (.lit (.int 2)) .nil)))) .nil))))) (.lst (.cons (.lit (.str "count")) (.cons (.lit (.str "axes")) (.cons (.lit (.str "count")) (.cons (.lit (.str "count")) .nil)))))) false (vv ns x3 (.own (.int n)) x5 x6 (.own b) (.own o) x9) (some ds) = .ok (.bl false) (some ds) :=
    ev_op2 (ev_lst (evA_cons (ev_pcl (evA_cons ev_lit (evA_cons (ev_var rfl) (evA_cons (ev_var rfl) evA_nil))) e1) (evA_cons (ev_pcl (evA_cons ev_lit (evA_cons (ev_var rfl) (evA_cons (ev_var rfl) evA_nil))) e2) (evA_cons (ev_pcl (evA_cons ev_lit (evA_cons (ev_var rfl) (evA_cons ev_lit evA_nil))) e3) (evA_cons (ev_pcl (evA_cons ev_lit (evA_cons (ev_var rfl) (evA_cons ev_lit evA_nil))) e4) evA_nil)))))
      (ev_lst (evA_cons ev_lit (evA_cons ev_lit (evA_cons ev_lit (evA_cons ev_lit evA_nil))))) (by kernel_rfl)
  have hv2 : ev G0 (.op2 .ne (.lst (.cons (.pcl 17 (.cons (.lit (.int 0)) (.cons (.var 7) (.cons (.var 8) .nil)))) (.cons (.pcl 17 (.cons (.lit (.int 0)) (.cons (.var 4) (.cons (.var 8) .nil)))) (.cons (.pcl 17 (.cons (.lit (.int 1)) (.cons (.var 7) (.cons (.lit .non) .nil)))) (.cons (.pcl 17 (.cons (.lit (.int 0)) (.cons (.var 7) (.cons (.lit (.int 2)) .nil)))) .nil))))) (.lst (.cons (.lit (.str "count")) (.cons (.lit (.str "axes")) (.cons (.lit (.str "count")) (.cons (.lit (.str "count")) .nil)))))) true (vv ns x3 (.own (.int n)) x5 x6 (.own b) (.own o) x9) (some ds) = .ok (.bl false) (some ds) := by
    rw [bv_op2, hv]
    rfl
  exact (ife_f hv2).trans (by simp only [exs])
theorem turn (ds : DS) : ∃ x3' x4' x5' x6' x7' x8' x9' ds', exs G0 B ⟨vv ns x3 x4 x5 x6 x7 x8 x9, some ds, 2⟩ = .nx ⟨vv ns x3' x4' x5' x6' x7' x8' x9', some ds', 2⟩ := by
  obtain ⟨n, d, ds1, n1, n2, d1, d2, e1⟩ := st1 (ns := ns) (x3 := x3) (x4 := x4) (x5 := x5) (x6 := x6) (x7 := x7) (x8 := x8) (x9 := x9) ds
  obtain ⟨due, e2⟩ := mid (ns := ns) (x3 := x3) (x6 := x6) (x7 := x7) (x8 := x8) (x9 := x9) (ds := ds1) n d n1 n2 d1 d2
  obtain ⟨b, o, ds2, hb, ho, e3⟩ := st6 (ns := ns) (x3 := x3) (x4 := .own (.int n)) (x5 := .own (.int d)) (x6 := .own (.int due)) (x7 := x7) (x8 := x8) (x9 := x9) ds1
  have hb' : b ∈ bads := by rcases hb with h | h | h | h | h | h <;> rw [h] <;> simp [bads]
  have ho' : o ∈ odds := by rcases ho with h | h | h | h | h <;> rw [h] <;> simp [odds]
  refine ⟨x3, .own (.int n), .own (.int d), .own (.int due), .own b, .own o, x9, ds2, ?_⟩
  have eB : B = .seq (sAt 0 B) (.seq (sAt 1 B) (.seq (sAt 2 B) (.seq (sAt 3 B) (.seq (sAt 4 B) (.seq (sAt 5 B) (rAt 6 B)))))) := rfl
  rw [eB, seq_nx e1, e2, seq_nx e3]
  exact st7 n1 n2 hb' ho'
end
theorem plain : ∀ ns : List Int, ns.length ≤ 63 → LawR tbl 20 11 10 b18 ns := by
  intro ns hl
  obtain ⟨cells, hd⟩ := deal_ok (tbl := tbl) (n := 19) (kd := 11) rfl ns hl
  have eb : b18 = .seq (sAt 0 b18) (.seq (.forS (.nm 3) (.r1 (.op2 .add (.lit (.int 3)) (.op2 .min (.op1 .len (.var 0)) (.lit (.int 6))))) B) (rAt 2 b18)) := rfl
  have e1 : exs G0 (sAt 0 b18) ⟨.pin 0 (.frz ns) :: .own (.dl false) :: List.replicate (10 - 2) .no, some ⟨cells, 0, 8123⟩, 1⟩ = .nx ⟨vv ns .no .no .no .no .no .no .no, some ⟨cells, 0, 8123⟩, 1⟩ := by kernel_rfl
  have e2 : evA G0 (.r1 (.op2 .add (.lit (.int 3)) (.op2 .min (.op1 .len (.var 0)) (.lit (.int 6))))) (vv ns .no .no .no .no .no .no .no) (some ⟨cells, 0, 8123⟩) = .ok [.int (3 + (if (6 : Int) < (ns.length : Int) then 6 else (ns.length : Int)))] (some ⟨cells, 0, 8123⟩) := by kernel_rfl
  have hr : rOk (3 + (if (6 : Int) < (ns.length : Int) then 6 else (ns.length : Int))) = true := by
    unfold rOk p62
    split <;> simp <;> omega
  have e3 : itD (.r1 (.op2 .add (.lit (.int 3)) (.op2 .min (.op1 .len (.var 0)) (.lit (.int 6))))) [.int (3 + (if (6 : Int) < (ns.length : Int) then 6 else (ns.length : Int)))] = some (rng 0 (3 + (if (6 : Int) < (ns.length : Int) then 6 else (ns.length : Int))).toNat) := by
    simp only [itD, itR1, hr, if_true]
  obtain ⟨m', e4, y3, y4, y5, y6, y7, y8, y9, ds', em⟩ := forL_inv (t := .nm 3) (n := 1) (b := exs G0 B) (I := fun m => ∃ x3 x4 x5 x6 x7 x8 x9 ds, m = ⟨vv ns x3 x4 x5 x6 x7 x8 x9, some ds, 2⟩) (its := rng 0 (3 + (if (6 : Int) < (ns.length : Int) then 6 else (ns.length : Int))).toNat)
    (fun x _ m hm => by
      obtain ⟨x3, x4, x5, x6, x7, x8, x9, ds, rfl⟩ := hm
      obtain ⟨y3, y4, y5, y6, y7, y8, y9, ds', e⟩ := turn (ns := ns) (x3 := .pin 1 x) (x4 := x4) (x5 := x5) (x6 := x6) (x7 := x7) (x8 := x8) (x9 := x9) ds
      exact ⟨vv ns (.pin 1 x) x4 x5 x6 x7 x8 x9, ⟨vv ns y3 y4 y5 y6 y7 y8 y9, some ds', 2⟩, rfl, .inl e, y3, y4, y5, y6, y7, y8, y9, ds', rfl⟩) (m := ⟨vv ns .no .no .no .no .no .no .no, some ⟨cells, 0, 8123⟩, 2⟩) ⟨.no, .no, .no, .no, .no, .no, .no, ⟨cells, 0, 8123⟩, rfl⟩
  subst em
  refine ⟨cells, 0, 8123, none, some ds', hd, ?_⟩
  show exs G0 b18 _ = _
  have e5 := for_nx (G := G0) (m := ⟨vv ns .no .no .no .no .no .no .no, some ⟨cells, 0, 8123⟩, 1⟩) e2 e3 rfl e4
  rw [eb, seq_nx e1, seq_nx e5]
  kernel_rfl
end K72
set_option Elab.async false
set_option linter.all false
set_option maxRecDepth 100000
set_option maxHeartbeats 0
open PySem PySem.W PySem.Calls PyProof.Rows
theorem PySem.Challenge.cw_boxeskept_k72_trees_counted_holds : PySem.Challenge.rw_boxeskept_k72_trees_counted.Holds := by
  w_on; o_law
  refine HandSHeadRun.head_any (r := OpenLaw.row PySem.Challenge.rw_boxeskept_k72_trees_counted) (q := view (OpenLaw.row PySem.Challenge.rw_boxeskept_k72_trees_counted).prog [29]) (H := K72.hk) (ob := K72.ob) (M := 4000) (loose := K72.loose) (d := HandSHeadRun.topDef (OpenLaw.row PySem.Challenge.rw_boxeskept_k72_trees_counted).prog 29) (kwd := []) K72.ob_eq
    (by kernel_rfl) (fun s => by kernel_rfl) K72.run (by kernel_rfl) (by kernel_rfl) (by kernel_rfl) (by rfl) (by first | assumption | decide +kernel) (by decide +kernel) ⟨rfl, rfl, rfl, rfl, rfl, by decide +kernel⟩ ?hw ?hc
  case hw => w_witness2
  case hc =>
    refine BX.walk_X (l := PySem.Challenge.rw_boxeskept_k72_trees_counted) (n := 63) (k := 21) (x := "script") rfl (by decide) (by kernel_rfl) ⟨rfl, by decide, by decide⟩ ?F
    intro w mg fa h Y G hmg0
    obtain ⟨K, KX, c⟩ := Y
    have hmg : mg ("law" : PySem.Str) = some (.ref fa) := by
      have e : (HandSHeadRun.topDef (OpenLaw.row PySem.Challenge.rw_boxeskept_k72_trees_counted).prog 29).name = ("law" : PySem.Str) := by kernel_rfl
      rw [← e]
      exact hmg0
    obtain ⟨fd, hy⟩ := K72.fx KX G c
    have e := hmg.symm.trans hy.g18
    cases e
    have b := L2.FunD.bindsA (ps := ["script"]) hy.f18 fun _ _ _ _ _ _ us hl => match us, hl with | [_], _ => rfl
    exact ⟨K, fd 18, BX.LawR K72.tbl 20 11 10 K72.b18, KX, fun s v => b s [v] rfl, fun ns hl => K72.plain ns hl, fun base _ _ =>
      BX.ok_law (N := ["script", "deal", "known", "turn", "n", "d", "due", "bad", "odd", "k"]) (st0 := (L2.defBody (K72.top 29)).headD (.Pass ⟨0, 0, 0, 0⟩)) (sts := (L2.defBody (K72.top 29)).tail) hy.f18 K72.S18 rfl (fun cdv A outer s H E hr => K72.dl0 hy (K72.oks hy 20) cdv A outer s H E hr) (fun cdv A outer s H E hr => K72.d18 hy (K72.oks hy 20) cdv A outer s H E hr)⟩

