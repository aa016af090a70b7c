import PyProof.Rows.All
import Wide.All
import OpenK.AllK
import Wide.FinOn
import HandS.ForMost
import HandS.Exc
import HandS.TryOnly
import HandS.ExcOwn
import HandS.WordsExc
import HandS.Wide
import HandS.Flow
import HandS.Style
import PySem.Challenge.RW_turnshelves_k45_whole_never_far_from_the
set_option Elab.async false
set_option linter.all false
set_option maxRecDepth 100000
/-! R: a small language with lists, dicts and instances at ids, and with values that nobody changes any more (lst, dct, ins within D).
RSem: its syntax and what it does. -/
namespace R
open PySem

/-! ### data -/
inductive D where
  | non | bl (b : Bool) | int (i : Int) | str (x : Str)
  | tup (xs : List D)
  | lst (xs : List D)
  | scr (xs : List D)
  | dct (kvs : List (L2.Key × D))
  | ins (C : Nat) (fs : List (Nat × D))
  | ref (n : Nat)
  deriving Inhabited
/-- what stands at an id -/
inductive O where
  | lst (xs : List D) | dct (kvs : List (L2.Key × D)) | ins (C : Nat) (fs : List (Nat × D)) | dead
  deriving Inhabited
abbrev Mm := List O

inductive Res (σ α : Type) where
  | ok (a : α) (s : σ)
  | exn (C : Nat) (p : Option D) (s : σ)
  | bad
def Res.bind {σ α β : Type} : Res σ α → (α → σ → Res σ β) → Res σ β
  | .ok a s, f => f a s
  | .exn C p s, _ => .exn C p s
  | .bad, _ => .bad
@[simp] theorem Res.bind_ok {σ α β : Type} (a : α) (s : σ) (f : α → σ → Res σ β) : (Res.ok a s).bind f = f a s := rfl
@[simp] theorem Res.bind_exn {σ α β : Type} (C : Nat) (p : Option D) (s : σ) (f : α → σ → Res σ β) : (Res.exn C p s : Res σ α).bind f = .exn C p s := rfl
@[simp] theorem Res.bind_bad {σ α β : Type} (f : α → σ → Res σ β) : (Res.bad : Res σ α).bind f = .bad := rfl

/-! ### syntax -/
inductive Cn where
  | non | bl (b : Bool) | int (i : Int) | str (x : Str)
  deriving DecidableEq, Inhabited
def Cn.d : Cn → D
  | .non => .non | .bl b => .bl b | .int i => .int i | .str x => .str x
inductive Op where
  | add | sub | mul | fdiv | mod | pow
  deriving DecidableEq, Inhabited
inductive Cm where
  | eq | ne | lt | le | gt | ge
  deriving DecidableEq, Inhabited
/-- built-in functions and types, called -/
inductive Bt where
  | len | int_ | abs_ | min2 | max2 | min1 | max1 | sum_ | list_ | tuple_ | str_ | ord_ | repr_
  deriving DecidableEq, Inhabited
/-- methods of lists, dicts, texts -/
inductive Bm where
  | append | index
  deriving DecidableEq, Inhabited
inductive Tg where
  | nm (i : Nat) | tp (ts : List Tg)
  deriving Inhabited
mutual
inductive ME where
  | var (i : Nat)
  | lit (c : Cn)
  | bin (o : Op) (obj : Bool) (a b : ME)
  | neg (a : ME)
  | cmp (c : Cm) (a b : ME)
  | isn (neg : Bool) (a : ME)
  | bop (conj : Bool) (es : List ME) | not_ (a : ME)
  | ife (c a b : ME)
  | call (f : Nat) (as : List ME)
  | make (C : Nat) (as : List ME)
  | meth (o : ME) (m : Nat) (as : List ME)
  | blt (b : Bt) (obj : Bool) (as : List ME)
  | bm (b : Bm) (obj : Bool) (o : ME) (as : List ME)
  | fld (o : ME) (f : Nat)
  | idx (o i : ME)
  | slc (obj : Bool) (o : ME) (lo hi : Option ME)
  | rev (obj : Bool) (o : ME)
  | lst (obj : Bool) (es : List ME)
  | tup (es : List ME)
  | lc (obj : Bool) (elt : ME) (g : Tg) (it : It) (cond : Option ME) (own : List Nat)
  | frz (e : ME)
/-- what a loop goes over -/
inductive It where
  | seq (e : ME)
  | rng1 (a : ME) | rng3 (a b c : ME)
  | zip (a b : ME)
  | enum (a : ME)
end
instance : Inhabited ME := ⟨.lit .non⟩
inductive MS where
  | ex (e : ME)
  | ret (e : ME) | retn
  | set (i : Nat) (e : ME)
  | unp (g : Tg) (e : ME)
  | setf (o : ME) (f : Nat) (e : ME)
  | seti (o i e : ME)
  | aug (i : Nat) (o : Op) (e : ME)
  | augf (o : ME) (f : Nat) (op : Op) (e : ME)
  | augi (o i : ME) (op : Op) (e : ME)
  | ite (c : ME) (a b : List MS)
  | for_ (g : Tg) (it : It) (body : List MS)
  | while_ (fuel : Nat) (c : ME) (body : List MS)
  | brk | cont | pass
  | frzv (i : Nat)
  deriving Inhabited
structure FD where
  np : Nat
  nl : Nat
  body : List MS
  pure_ : Bool
  dflt : List Cn := []
  deriving Inhabited
/-- a class: its methods by number (with the function's), its __init__ -/
structure CD where
  init : Nat
  meths : List (Nat × Nat)
  deriving Inhabited
structure Pg where
  fns : List FD
  cls : List CD
  deriving Inhabited

/-! ### operations on data -/
def szOk (n : Nat) : Bool := Nat.ble n 16777216
def mulOk (i j : Int) : Bool := Nat.ble i.natAbs 18446744073709551615 || Nat.ble j.natAbs 18446744073709551615 || Nat.ble (i.natAbs.log2 + j.natAbs.log2) 999999
def divOk (j : Int) : Bool := decide (0 < j) && Nat.ble j.natAbs 1073741823
def powOk (i j : Int) : Bool := decide (0 ≤ j) && Nat.ble j.natAbs 1000000 && Nat.ble i.natAbs 18446744073709551615
/-- a new list: a value, or an object -/
def mkL (obj : Bool) (ds : List D) (h : Mm) : Res Mm D :=
  if szOk ds.length = true then (if obj = true then .ok (.ref h.length) (h ++ [.lst ds]) else .ok (.lst ds) h) else .bad
def mkT (ds : List D) (h : Mm) : Res Mm D := if szOk ds.length = true then .ok (.tup ds) h else .bad
/-- the items of a list -/
def lstOf (h : Mm) : D → Option (List D)
  | .lst xs => some xs
  | .scr xs => some xs
  | .ref n => match h[n]? with | some (.lst xs) => some xs | _ => none
  | _ => none
/-- of a list of ours -/
def lstW (h : Mm) : D → Option (List D)
  | .lst xs => some xs
  | .ref n => match h[n]? with | some (.lst xs) => some xs | _ => none
  | _ => none
def seqOf (h : Mm) : D → Option (List D)
  | .tup xs => some xs
  | d => lstOf h d
/-- plain data -/
def toP (h : Mm) : Nat → D → Option PyData
  | 0, _ => none
  | _ + 1, .non => some .none
  | _ + 1, .bl b => some (.bool b)
  | _ + 1, .int i => some (.int i)
  | _ + 1, .str x => some (.str x)
  | k + 1, .tup xs => (xs.mapM (toP h k)).map .tuple
  | k + 1, .lst xs => (xs.mapM (toP h k)).map .list
  | k + 1, .scr xs => (xs.mapM (toP h k)).map .list
  | k + 1, .ref n => match h[n]? with | some (.lst xs) => (xs.mapM (toP h k)).map .list | _ => none
  | _ + 1, _ => none
mutual
/-- no id in it -/
def nr : D → Bool
  | .non => true
  | .bl _ => true
  | .int _ => true
  | .str _ => true
  | .tup xs => nrs xs
  | .lst xs => nrs xs
  | .scr xs => nrs xs
  | .dct kvs => nrk kvs
  | .ins _ fs => nrf fs
  | .ref _ => false
def nrs : List D → Bool
  | [] => true
  | d :: ds => nr d && nrs ds
def nrk : List (L2.Key × D) → Bool
  | [] => true
  | d :: ds => nr d.2 && nrk ds
def nrf : List (Nat × D) → Bool
  | [] => true
  | d :: ds => nr d.2 && nrf ds
end
/-- without ids -/
def rsv (h : Mm) : Nat → D → Option D
  | 0, _ => none
  | k + 1, d => if nr d = true then some d else match d with
    | .tup xs => (xs.mapM (rsv h k)).map .tup
    | .lst xs => (xs.mapM (rsv h k)).map .lst
    | .scr xs => (xs.mapM (rsv h k)).map .scr
    | .ref n => match h[n]? with
      | some (.lst xs) => (xs.mapM (rsv h k)).map .lst
      | some (.ins C fs) => (fs.mapM fun p => (rsv h k p.2).map fun d => (p.1, d)).map (.ins C)
      | some (.dct kvs) => (kvs.mapM fun p => (rsv h k p.2).map fun d => (p.1, d)).map .dct
      | _ => none
    | .ins C fs => (fs.mapM fun p => (rsv h k p.2).map fun d => (p.1, d)).map (.ins C)
    | .dct kvs => (kvs.mapM fun p => (rsv h k p.2).map fun d => (p.1, d)).map .dct
    | _ => none
/-- .. where a frozen list within might be somebody else's -/
def own (h : Mm) : Nat → D → Option D
  | 0, _ => none
  | k + 1, d => match d with
    | .non => some .non
    | .bl b => some (.bl b)
    | .int i => some (.int i)
    | .str x => some (.str x)
    | .tup xs => (xs.mapM (own h k)).map .tup
    | .ref n => match h[n]? with
      | some (.lst xs) => (xs.mapM (own h k)).map .lst
      | some (.ins C fs) => (fs.mapM fun p => (own h k p.2).map fun d => (p.1, d)).map (.ins C)
      | some (.dct kvs) => (kvs.mapM fun p => (own h k p.2).map fun d => (p.1, d)).map .dct
      | _ => none
    | _ => none
def eqD (h : Mm) : D → D → Option Bool
  | .int i, .int j => some (i == j)
  | .str x, .str y => some (decide (x = y))
  | a, b => match toP h 9 a, toP h 9 b with
    | some p, some q => if SeqAt.shaped p = true ∧ SeqAt.shaped q = true then some (PyData.eqv p q) else none
    | _, _ => none
def cmpD (c : Cm) (h : Mm) (a b : D) : Option Bool :=
  match c with
  | .eq => eqD h a b
  | .ne => (eqD h a b).map not
  | .lt => match a, b with | .int i, .int j => some (decide (i < j)) | _, _ => none
  | .le => match a, b with | .int i, .int j => some (decide (i ≤ j)) | _, _ => none
  | .gt => match a, b with | .int i, .int j => some (decide (j < i)) | _, _ => none
  | .ge => match a, b with | .int i, .int j => some (decide (j ≤ i)) | _, _ => none
def addD (obj : Bool) (h : Mm) : D → D → Res Mm D
  | .int i, .int j => .ok (.int (i + j)) h
  | a, b => match lstW h a, lstW h b with
    | some xs, some ys => mkL obj (xs ++ ys) h
    | _, _ => .bad
def mulD (obj : Bool) (h : Mm) : D → D → Res Mm D
  | .int i, .int j => if mulOk i j = true then .ok (.int (i * j)) h else .bad
  | _, _ => .bad
def arD (c : Int → Int → Bool) (f : Int → Int → Int) (h : Mm) : D → D → Res Mm D
  | .int i, .int j => if c i j = true then .ok (.int (f i j)) h else .bad
  | _, _ => .bad
def binD (o : Op) (obj : Bool) (a b : D) (h : Mm) : Res Mm D :=
  match o with
  | .add => addD obj h a b
  | .sub => arD (fun _ _ => true) (· - ·) h a b
  | .mul => mulD obj h a b
  | .fdiv => arD (fun _ j => divOk j) (· / ·) h a b
  | .mod => arD (fun _ j => decide (0 < j)) (· % ·) h a b
  | .pow => arD powOk (fun i j => i ^ j.toNat) h a b
def truthD (h : Mm) : D → Option Bool
  | .non => some false
  | .bl b => some b
  | .int i => some (i != 0)
  | .tup xs => some (!xs.isEmpty)
  | d => (lstOf h d).map fun xs => !xs.isEmpty
def fldD (h : Mm) (f : Nat) : D → Option D
  | .ins _ fs => fs.lookup f
  | .ref n => match h[n]? with | some (.ins _ fs) => fs.lookup f | _ => none
  | _ => none
def clsD (h : Mm) : D → Option Nat
  | .ins C _ => some C
  | .ref n => match h[n]? with | some (.ins C _) => some C | _ => none
  | _ => none
def idxD (h : Mm) : D → D → Option D
  | o, .int i => match seqOf h o with | some xs => L2.atI xs i | none => none
  | _, _ => none
/-- .. of an object -/
def idxM (h : Mm) : D → D → Option D
  | .ref n, .int i => match h[n]? with | some (.lst xs) => L2.atI xs i | _ => none
  | _, _ => none
/-- n takes the value d -/
def putF (f : Nat) (d : D) : List (Nat × D) → List (Nat × D)
  | [] => [(f, d)]
  | (g, x) :: r => if g = f then (g, d) :: r else (g, x) :: putF f d r
def setFD (o : D) (f : Nat) (d : D) (h : Mm) : Option Mm :=
  match o with
  | .ref n => match h[n]? with
    | some (.ins C fs) => if fs.length < 900 then some (h.set n (.ins C (putF f d fs))) else none
    | _ => none
  | _ => none
def setID (o i d : D) (h : Mm) : Option Mm :=
  match o, i with
  | .ref n, .int i => match h[n]? with
    | some (.lst xs) => match L2.ixN xs.length i with
      | some j => some (h.set n (.lst (xs.set j d)))
      | none => none
    | _ => none
  | _, _ => none
def augI : Op → Int → Int → Option Int
  | .add, a, b => some (a + b)
  | .sub, a, b => some (a - b)
  | _, _, _ => none
def augD (o : Op) : D → D → Option D
  | .int a, .int b => (augI o a b).map .int
  | _, _ => none
def isInt : D → Option Int
  | .int i => some i
  | _ => none
def minI : List Int → Int
  | [] => 0
  | [x] => x
  | x :: y :: r => min x (minI (y :: r))
def maxI : List Int → Int
  | [] => 0
  | [x] => x
  | x :: y :: r => max x (maxI (y :: r))
def intsOf (xs : List D) : Option (List Int) := xs.mapM isInt
def bltD (b : Bt) (obj : Bool) (as : List D) (h : Mm) : Res Mm D :=
  match b, as with
  | .len, [d] => match seqOf h d with | some xs => .ok (.int xs.length) h | none => .bad
  | .int_, [.int i] => .ok (.int i) h
  | .int_, [.bl b] => .ok (.int (if b = true then 1 else 0)) h
  | .abs_, [.int i] => .ok (.int (if i < 0 then -i else i)) h
  | .min2, [.int i, .int j] => .ok (.int (if j < i then j else i)) h
  | .max2, [.int i, .int j] => .ok (.int (if j > i then j else i)) h
  | .min1, [d] => match lstOf h d with
    | some xs => match intsOf xs with
      | some ns => if ns.length = 0 then .bad else .ok (.int (minI ns)) h
      | none => .bad
    | none => .bad
  | .max1, [d] => match lstOf h d with
    | some xs => match intsOf xs with
      | some ns => if ns.length = 0 then .bad else .ok (.int (maxI ns)) h
      | none => .bad
    | none => .bad
  | .sum_, [d] => match lstOf h d with
    | some xs => match intsOf xs with
      | some ns => .ok (.int ns.sum) h
      | none => .bad
    | none => .bad
  | .list_, [d] => match seqOf h d with | some xs => mkL obj xs h | none => .bad
  | .tuple_, [d] => match lstOf h d with | some xs => mkT xs h | none => .bad
  | _, _ => .bad
def bmD (b : Bm) (obj : Bool) (o : D) (as : List D) (h : Mm) : Res Mm D :=
  match b, o, as with
  | .append, .ref n, [d] => match h[n]? with
    | some (.lst xs) => if szOk (xs.length + 1) = true then .ok .non (h.set n (.lst (xs ++ [d]))) else .bad
    | _ => .bad
  | .index, o, [.int i] => match lstOf h o with
    | some xs => match intsOf xs with
      | some ns => match ns.idxOf? i with
        | some k => .ok (.int k) h
        | none => .bad
      | none => .bad
    | none => .bad
  | _, _, _ => .bad
/-- whether it is of the method's type -/
def bmTy (b : Bm) (h : Mm) (d : D) : Bool :=
  match b with
  | .append | .index => (lstOf h d).isSome
/-- one after another, the memory handed on -/
def thr {α β : Type} (f : α → Mm → Option (β × Mm)) : List α → Mm → Option (List β × Mm)
  | [], h => some ([], h)
  | x :: xs, h => (f x h).bind fun q => (thr f xs q.2).bind fun r => some (q.1 :: r.1, r.2)
/-- the frozen form; its ids are dead from then on -/
def frzN : Nat → D → Mm → Option (D × Mm)
  | 0, _, _ => none
  | k + 1, d, h => if nr d = true then some (d, h) else match d with
    | .tup xs => (thr (frzN k) xs h).map fun q => (.tup q.1, q.2)
    | .lst xs => (thr (frzN k) xs h).map fun q => (.lst q.1, q.2)
    | .scr xs => (thr (frzN k) xs h).map fun q => (.scr q.1, q.2)
    | .ins C fs => (thr (fun p h => (frzN k p.2 h).map fun q => ((p.1, q.1), q.2)) fs h).map fun q => (.ins C q.1, q.2)
    | .dct kvs => (thr (fun p h => (frzN k p.2 h).map fun q => ((p.1, q.1), q.2)) kvs h).map fun q => (.dct q.1, q.2)
    | .ref n => match h[n]? with
      | some (.lst xs) => (thr (frzN k) xs (h.set n .dead)).map fun q => (.lst q.1, q.2)
      | some (.ins C fs) => (thr (fun p h => (frzN k p.2 h).map fun q => ((p.1, q.1), q.2)) fs (h.set n .dead)).map fun q => (.ins C q.1, q.2)
      | some (.dct kvs) => (thr (fun p h => (frzN k p.2 h).map fun q => ((p.1, q.1), q.2)) kvs (h.set n .dead)).map fun q => (.dct q.1, q.2)
      | _ => none
    | _ => none
def frzD (d : D) (h : Mm) : Res Mm D :=
  match frzN 9 d h with
  | some (d', h') => .ok d' h'
  | none => .bad

/-! ### what is gone over -/
def rngL (a : Int) (n : Nat) (c : Int) : List D := (List.range n).map fun (k : Nat) => .int (a + (k : Int) * c)
def small62 (i : Int) : Bool := Nat.ble i.natAbs 4611686018427387903
def rngOk (i j k : Int) : Bool := decide (k ≠ 0) && Nat.ble k.natAbs 1073741823 && Builtin.Range.small i j k && decide (0 ≤ Builtin.Range.rangeSize i j k)
/-! ### targets -/
mutual
def bindT : Tg → D → List (Option D) → Option (List (Option D))
  | .nm i, d, sl => some (sl.set i (some d))
  | .tp ts, .tup xs, sl => bindTs ts xs sl
  | .tp _, _, _ => none
def bindTs : List Tg → List D → List (Option D) → Option (List (Option D))
  | [], [], sl => some sl
  | t :: ts, d :: ds, sl => (bindT t d sl).bind fun sl => bindTs ts ds sl
  | _, _, _ => none
end
def wipe (sl : List (Option D)) : List Nat → List (Option D)
  | [] => sl
  | v :: vs => (wipe sl vs).set v none

/-! ### what expressions do -/
abbrev Calls := Nat → List D → Mm → Res Mm D
/-- over the items, each mapped; b: whether it is kept -/
def mapL (f : D → Mm → Res Mm (Option D)) : List D → Mm → Res Mm (List D)
  | [], h => .ok [] h
  | x :: xs, h => (f x h).bind fun y h => (mapL f xs h).bind fun ys h => match y with
    | some y => .ok (y :: ys) h
    | none => .ok ys h
def noExn {σ α : Type} : Res σ α → Res σ α
  | .exn _ _ _ => .bad
  | r => r
mutual
def evalE (p : Pg) (c : Calls) : ME → List (Option D) → Mm → Res Mm D
  | .var i, sl, h => match sl[i]? with | some (some d) => .ok d h | _ => .bad
  | .lit k, _, h => .ok k.d h
  | .bin o obj a b, sl, h => (evalE p c a sl h).bind fun x h => (evalE p c b sl h).bind fun y h => binD o obj x y h
  | .neg a, sl, h => (evalE p c a sl h).bind fun x h => match x with | .int i => .ok (.int (-i)) h | _ => .bad
  | .cmp k a b, sl, h => (evalE p c a sl h).bind fun x h => (evalE p c b sl h).bind fun y h => match cmpD k h x y with | some b => .ok (.bl b) h | none => .bad
  | .isn ng a, sl, h => (evalE p c a sl h).bind fun x h => match x with | .non => .ok (.bl (!ng)) h | _ => .ok (.bl ng) h
  | .bop k es, sl, h => evalB p c k es sl h
  | .not_ a, sl, h => (evalE p c a sl h).bind fun x h => match truthD h x with | some b => .ok (.bl (!b)) h | none => .bad
  | .ife k a b, sl, h => (evalE p c k sl h).bind fun x h => match truthD h x with | some true => evalE p c a sl h | some false => evalE p c b sl h | none => .bad
  | .call f as, sl, h => (evalEs p c as sl h).bind fun xs h => c f xs h
  | .make C as, sl, h => (evalEs p c as sl h).bind fun xs h => match p.cls[C]? with
    | some cd => (c cd.init (.ref h.length :: xs) (h ++ [.ins C []])).bind fun r h' => match r with | .non => .ok (.ref h.length) h' | _ => .bad
    | none => .bad
  | .meth o m as, sl, h => (evalE p c o sl h).bind fun x h => match clsD h x with
    | some C => match p.cls[C]? with
      | some cd => match cd.meths.lookup m with
        | some f => (evalEs p c as sl h).bind fun xs h => c f (x :: xs) h
        | none => .bad
      | none => .bad
    | none => .bad
  | .blt b obj as, sl, h => (evalEs p c as sl h).bind fun xs h => bltD b obj xs h
  | .bm b obj o as, sl, h => (evalE p c o sl h).bind fun x h => if bmTy b h x = true then (evalEs p c as sl h).bind fun xs h => bmD b obj x xs h else .bad
  | .fld o f, sl, h => (evalE p c o sl h).bind fun x h => match fldD h f x with | some d => .ok d h | none => .bad
  | .idx o i, sl, h => (evalE p c o sl h).bind fun x h => (evalE p c i sl h).bind fun y h => match idxD h x y with | some d => .ok d h | none => .bad
  | .slc obj o lo hi, sl, h => (evalE p c o sl h).bind fun x h => (evalO p c lo sl h).bind fun l h => (evalO p c hi sl h).bind fun u h => match lstOf h x with
    | some xs => mkL obj ((xs.drop (HT.sIx xs.length 0 l)).take (HT.sIx xs.length xs.length u - HT.sIx xs.length 0 l)) h
    | none => .bad
  | .rev obj o, sl, h => (evalE p c o sl h).bind fun x h => match lstOf h x with
    | some xs => mkL obj xs.reverse h
    | none => .bad
  | .lst obj es, sl, h => (evalEs p c es sl h).bind fun xs h => mkL obj xs h
  | .tup es, sl, h => (evalEs p c es sl h).bind fun xs h => mkT xs h
  | .lc obj elt g it cond own, sl, h => (evalI p c it sl h).bind fun xs h =>
      (mapL (fun x h => match bindT g x (wipe sl own) with
        | some sl' => match cond with
          | some k => (noExn (evalE p c k sl' h)).bind fun b h => match truthD h b with
            | some true => (noExn (evalE p c elt sl' h)).bind fun y h => .ok (some y) h
            | some false => .ok none h
            | none => .bad
          | none => (noExn (evalE p c elt sl' h)).bind fun y h => .ok (some y) h
        | none => .bad) xs h).bind fun ys h => mkL obj ys h
  | .frz e, sl, h => (evalE p c e sl h).bind fun x h => frzD x h
def evalEs (p : Pg) (c : Calls) : List ME → List (Option D) → Mm → Res Mm (List D)
  | [], _, h => .ok [] h
  | e :: es, sl, h => (evalE p c e sl h).bind fun x h => (evalEs p c es sl h).bind fun xs h => .ok (x :: xs) h
def evalB (p : Pg) (c : Calls) (k : Bool) : List ME → List (Option D) → Mm → Res Mm D
  | [], _, _ => .bad
  | [e], sl, h => evalE p c e sl h
  | e :: es, sl, h => (evalE p c e sl h).bind fun x h => match truthD h x with
    | some b => if b = k then evalB p c k es sl h else .ok x h
    | none => .bad
def evalO (p : Pg) (c : Calls) : Option ME → List (Option D) → Mm → Res Mm (Option Int)
  | none, _, h => .ok none h
  | some e, sl, h => (evalE p c e sl h).bind fun x h => match x with | .int i => .ok (some i) h | _ => .bad
def evalI (p : Pg) (c : Calls) : It → List (Option D) → Mm → Res Mm (List D)
  | .seq e, sl, h => (evalE p c e sl h).bind fun x h => match x with
    | .tup xs => .ok xs h
    | .lst xs => .ok xs h
    | .scr xs => .ok xs h
    | _ => .bad
  | .rng1 a, sl, h => (evalE p c a sl h).bind fun x h => match x with
    | .int j => if small62 j = true then .ok ((List.range j.toNat).map fun (k : Nat) => .int k) h else .bad
    | _ => .bad
  | .rng3 a b k, sl, h => (evalE p c a sl h).bind fun x h => (evalE p c b sl h).bind fun y h => (evalE p c k sl h).bind fun z h => match x, y, z with
    | .int i, .int j, .int k => if rngOk i j k = true then .ok (rngL i (Builtin.Range.rangeSize i j k).toNat k) h else .bad
    | _, _, _ => .bad
  | .zip a b, sl, h => (evalE p c a sl h).bind fun x h => (evalE p c b sl h).bind fun y h => match x, y with
    | .lst xs, .lst ys => .ok ((xs.zip ys).map fun q => .tup [q.1, q.2]) h
    | _, _ => .bad
  | .enum a, sl, h => (evalE p c a sl h).bind fun x h => match x with
    | .lst xs => .ok ((List.range xs.length).zip xs |>.map fun q => .tup [.int q.1, q.2]) h
    | _ => .bad
end

/-! ### statements -/
structure Sx where
  sl : List (Option D)
  hp : Mm
inductive Fl where
  | nx | bk | ct | rt (d : D)
/-- an expression's end, taken up by a statement -/
def up {α β : Type} (sl : List (Option D)) (r : Res Mm α) (k : α → Mm → Res Sx β) : Res Sx β :=
  match r with
  | .ok a h => k a h
  | .exn C p h => .exn C p ⟨sl, h⟩
  | .bad => .bad
@[simp] theorem up_ok {α β : Type} (sl : List (Option D)) (a : α) (h : Mm) (k : α → Mm → Res Sx β) : up sl (.ok a h) k = k a h := rfl
@[simp] theorem up_exn {α β : Type} (sl : List (Option D)) (C : Nat) (p : Option D) (h : Mm) (k : α → Mm → Res Sx β) : up sl (.exn C p h : Res Mm α) k = .exn C p ⟨sl, h⟩ := rfl
@[simp] theorem up_bad {α β : Type} (sl : List (Option D)) (k : α → Mm → Res Sx β) : up sl (.bad : Res Mm α) k = .bad := rfl
/-- the items one after another -/
def forL (f : D → Sx → Res Sx Fl) : List D → Sx → Res Sx Fl
  | [], s => .ok .nx s
  | x :: xs, s => (f x s).bind fun r s => match r with
    | .nx => forL f xs s
    | .ct => forL f xs s
    | .bk => .ok .nx s
    | .rt d => .ok (.rt d) s
def whileL (f : Sx → Res Sx (Option Fl)) : Nat → Sx → Res Sx Fl
  | 0, _ => .bad
  | n + 1, s => (f s).bind fun r s => match r with
    | none => .ok .nx s
    | some .nx => whileL f n s
    | some .ct => whileL f n s
    | some .bk => .ok .nx s
    | some (.rt d) => .ok (.rt d) s
mutual
def execS (p : Pg) (c : Calls) : MS → Sx → Res Sx Fl
  | .ex e, s => up s.sl (evalE p c e s.sl s.hp) fun _ h => .ok .nx ⟨s.sl, h⟩
  | .ret e, s => up s.sl (evalE p c e s.sl s.hp) fun d h => .ok (.rt d) ⟨s.sl, h⟩
  | .retn, s => .ok (.rt .non) s
  | .set i e, s => up s.sl (evalE p c e s.sl s.hp) fun d h => .ok .nx ⟨s.sl.set i (some d), h⟩
  | .unp g e, s => up s.sl (evalE p c e s.sl s.hp) fun d h => match bindT g d s.sl with
    | some sl => .ok .nx ⟨sl, h⟩
    | none => .bad
  | .setf o f e, s => up s.sl (evalE p c e s.sl s.hp) fun d h => up s.sl (evalE p c o s.sl h) fun x h => match setFD x f d h with
    | some h => .ok .nx ⟨s.sl, h⟩
    | none => .bad
  | .seti o i e, s => up s.sl (evalE p c e s.sl s.hp) fun d h => up s.sl (evalE p c o s.sl h) fun x h => up s.sl (evalE p c i s.sl h) fun y h => match setID x y d h with
    | some h => .ok .nx ⟨s.sl, h⟩
    | none => .bad
  | .aug i o e, s => match s.sl[i]? with
    | some (some x) => up s.sl (evalE p c e s.sl s.hp) fun y h => match augD o x y with
      | some z => .ok .nx ⟨s.sl.set i (some z), h⟩
      | none => .bad
    | _ => .bad
  | .augf o f op e, s => up s.sl (evalE p c o s.sl s.hp) fun x h => match fldD h f x with
    | some v => up s.sl (evalE p c e s.sl h) fun y h' => match augD op v y with
      | some z => if clsD h' x = clsD h x then match setFD x f z h' with
          | some h => .ok .nx ⟨s.sl, h⟩
          | none => .bad
        else .bad
      | none => .bad
    | none => .bad
  | .augi o i op e, s => up s.sl (evalE p c o s.sl s.hp) fun x h => up s.sl (evalE p c i s.sl h) fun y h => match idxM h x y with
    | some v => up s.sl (evalE p c e s.sl h) fun z h => match augD op v z with
      | some z => match setID x y z h with
        | some h => .ok .nx ⟨s.sl, h⟩
        | none => .bad
      | none => .bad
    | none => .bad
  | .ite k a b, s => up s.sl (evalE p c k s.sl s.hp) fun x h => match truthD h x with
    | some true => execSs p c a ⟨s.sl, h⟩
    | some false => execSs p c b ⟨s.sl, h⟩
    | none => .bad
  | .for_ g it body, s => up s.sl (evalI p c it s.sl s.hp) fun xs h =>
      forL (fun x s => match bindT g x s.sl with
        | some sl => execSs p c body ⟨sl, s.hp⟩
        | none => .bad) xs ⟨s.sl, h⟩
  | .while_ fuel k body, s => whileL (fun s => up s.sl (evalE p c k s.sl s.hp) fun x h => match truthD h x with
      | some true => (execSs p c body ⟨s.sl, h⟩).bind fun r s => .ok (some r) s
      | some false => .ok none ⟨s.sl, h⟩
      | none => .bad) fuel s
  | .brk, s => .ok .bk s
  | .cont, s => .ok .ct s
  | .pass, s => .ok .nx s
  | .frzv i, s => match s.sl[i]? with
    | some (some x) => up s.sl (frzD x s.hp) fun d h => .ok .nx ⟨s.sl.set i (some d), h⟩
    | _ => .bad
def execSs (p : Pg) (c : Calls) : List MS → Sx → Res Sx Fl
  | [], s => .ok .nx s
  | m :: ms, s => (execS p c m s).bind fun r s => match r with
    | .nx => execSs p c ms s
    | r => .ok r s
end

/-! ### calls -/
def rtD : Fl → Option D
  | .nx => some .non
  | .rt d => some d
  | _ => none
/-- a def's end -/
def fin (r : Res Sx Fl) : Res Mm D :=
  match r with
  | .ok f s => match rtD f with | some d => .ok d s.hp | none => .bad
  | .exn C p s => .exn C p s.hp
  | .bad => .bad
/-- .. of one that is run by itself: nothing of what it made is left but its value -/
def finP (fr : Bool) (h : Mm) (r : Res Sx Fl) : Res Mm D :=
  match r with
  | .ok f s => match (rtD f).bind fun d => if fr = true then rsv s.hp 9 d else own s.hp 9 d with | some d => .ok d h | none => .bad
  | .exn C p _ => .exn C p h
  | .bad => .bad
def callN (p : Pg) : Nat → Calls
  | 0 => fun _ _ _ => .bad
  | n + 1 => fun f as h => match p.fns[f]? with
    | some fd => if as.length = fd.np then
        (if fd.pure_ = true then (if nrs as = true then finP true h (execSs p (callN p n) fd.body ⟨as.map some ++ List.replicate (fd.nl - fd.np) none, []⟩)
          else match as.mapM (rsv h 9) with
            | some as => finP false h (execSs p (callN p n) fd.body ⟨as.map some ++ List.replicate (fd.nl - fd.np) none, []⟩)
            | none => .bad)
        else fin (execSs p (callN p n) fd.body ⟨as.map some ++ List.replicate (fd.nl - fd.np) none, h⟩))
      else .bad
    | none => .bad
end R

/-! RSnd1: how data stand in the heap of HandS. -/
namespace R
open PySem PySem.Spec PyProof.Rows L2

structure Gm where
  K : PySem.W.Frag
  mg : Str → Option Value
  cad : Nat → Addr
  att : Nat → Str
  ncls : Nat
/-- a world: what stands for good, where the ids stand, what stands beside (lists that are being made) -/
structure Wd where
  F : Hp
  ρ : Nat → Addr
  len : Nat
  G : Hp
structure Wd.lf (w w' : Wd) : Prop where
  fr : ∀ a o, w.F a = some o → w'.F a = some o
  len : w.len ≤ w'.len
  at_ : ∀ n, n < w.len → w'.ρ n = w.ρ n
structure Wd.le (w w' : Wd) : Prop extends Wd.lf w w' where
  gr : ∀ a o, w.G a = some o → w'.G a = some o
theorem Wd.le.refl (w : Wd) : w.le w := ⟨⟨fun _ _ h => h, Nat.le_refl _, fun _ _ => rfl⟩, fun _ _ h => h⟩
theorem Wd.le.trans {a b c : Wd} (x : a.le b) (y : b.le c) : a.le c :=
  ⟨⟨fun p o h => y.fr p o (x.fr p o h), Nat.le_trans x.len y.len, fun n h => (y.at_ n (Nat.lt_of_lt_of_le h x.len)).trans (x.at_ n h)⟩, fun p o h => y.gr p o (x.gr p o h)⟩

theorem rd_mono {F F' : Hp} (h : ∀ a o, F a = some o → F' a = some o) {a : Addr} {u : HO} (r : Rd F a u) : Rd F' a u := by
  rcases r with r | ⟨o, r⟩
  · exact .inl (h _ _ r)
  · exact .inr ⟨o, h _ _ r⟩
theorem sqT_mono {K : PySem.W.Frag} {F F' : Hp} (h : ∀ a o, F a = some o → F' a = some o) {a : Addr} {xs : List V} (r : SqT K F a xs) : SqT K F' a xs := by
  rcases r with r | r
  · exact .inl (rd_mono h r)
  · exact .inr r
theorem sqL_mono {K : PySem.W.Frag} {F F' : Hp} (h : ∀ a o, F a = some o → F' a = some o) {a : Addr} {xs : List V} (r : SqL K F a xs) : SqL K F' a xs := by
  rcases r with r | r
  · exact .inl (rd_mono h r)
  · exact .inr r

mutual
inductive Rv (g : Gm) (w : Wd) : D → V → Prop where
  | non : Rv g w .non .non
  | bl (b : Bool) : Rv g w (.bl b) (.bl b)
  | int (i : Int) : Rv g w (.int i) (.int i)
  | str (x : Str) : Rv g w (.str x) (.str x)
  | tup {a : Addr} {vs : List V} {xs : List D} : SqT g.K w.F a vs → Rvs g w xs vs → Rv g w (.tup xs) (.ref a)
  | lst {a : Addr} {vs : List V} {xs : List D} : w.F a = some (.lst vs) → Rvs g w xs vs → Rv g w (.lst xs) (.ref a)
  | scr {a : Addr} {vs : List V} {xs : List D} : SqL g.K w.F a vs → Rvs g w xs vs → Rv g w (.scr xs) (.ref a)
  | dct {a : Addr} {kvs' : List (Key × V)} {kvs : List (Key × D)} : w.F a = some (.dK kvs') → Rkv g w kvs kvs' → Rv g w (.dct kvs) (.ref a)
  | ins {a dx : Addr} {C : Nat} {fs : List (Nat × D)} {fvs : List (Str × V)} : C < g.ncls → w.F a = some (.ins (g.cad C) dx fvs) → Rfs g w fs fvs → Rv g w (.ins C fs) (.ref a)
  | ref (n : Nat) : n < w.len → Rv g w (.ref n) (.ref (w.ρ n))
inductive Rvs (g : Gm) (w : Wd) : List D → List V → Prop where
  | nil : Rvs g w [] []
  | cons {d : D} {v : V} {ds : List D} {vs : List V} : Rv g w d v → Rvs g w ds vs → Rvs g w (d :: ds) (v :: vs)
inductive Rkv (g : Gm) (w : Wd) : List (Key × D) → List (Key × V) → Prop where
  | nil : Rkv g w [] []
  | cons {k : Key} {d : D} {v : V} {ds : List (Key × D)} {vs : List (Key × V)} : Rv g w d v → Rkv g w ds vs → Rkv g w ((k, d) :: ds) ((k, v) :: vs)
inductive Rfs (g : Gm) (w : Wd) : List (Nat × D) → List (Str × V) → Prop where
  | nil : Rfs g w [] []
  | cons {f : Nat} {d : D} {v : V} {ds : List (Nat × D)} {vs : List (Str × V)} : Rv g w d v → Rfs g w ds vs → Rfs g w ((f, d) :: ds) ((g.att f, v) :: vs)
end

variable {g : Gm} {w w' : Wd}
mutual
theorem Rv.mono' (le : w.lf w') : ∀ {d : D} {v : V}, Rv g w d v → Rv g w' d v
  | _, _, .non => .non
  | _, _, .bl b => .bl b
  | _, _, .int i => .int i
  | _, _, .str x => .str x
  | _, _, .tup h r => .tup (sqT_mono le.fr h) (Rvs.mono' le r)
  | _, _, .lst h r => .lst (le.fr _ _ h) (Rvs.mono' le r)
  | _, _, .scr h r => .scr (sqL_mono le.fr h) (Rvs.mono' le r)
  | _, _, .dct h r => .dct (le.fr _ _ h) (Rkv.mono' le r)
  | _, _, .ins hc h r => .ins hc (le.fr _ _ h) (Rfs.mono' le r)
  | _, _, .ref n h => by
    have e := le.at_ n h
    rw [← e]
    exact .ref n (Nat.lt_of_lt_of_le h le.len)
theorem Rvs.mono' (le : w.lf w') : ∀ {d : List D} {v : List V}, Rvs g w d v → Rvs g w' d v
  | _, _, .nil => .nil
  | _, _, .cons h r => .cons (Rv.mono' le h) (Rvs.mono' le r)
theorem Rkv.mono' (le : w.lf w') : ∀ {d : List (Key × D)} {v : List (Key × V)}, Rkv g w d v → Rkv g w' d v
  | _, _, .nil => .nil
  | _, _, .cons h r => .cons (Rv.mono' le h) (Rkv.mono' le r)
theorem Rfs.mono' (le : w.lf w') : ∀ {d : List (Nat × D)} {v : List (Str × V)}, Rfs g w d v → Rfs g w' d v
  | _, _, .nil => .nil
  | _, _, .cons h r => .cons (Rv.mono' le h) (Rfs.mono' le r)
end

theorem Rv.mono (le : w.le w') {d : D} {v : V} (r : Rv g w d v) : Rv g w' d v := r.mono' le.tolf
theorem Rvs.mono (le : w.le w') {d : List D} {v : List V} (r : Rvs g w d v) : Rvs g w' d v := r.mono' le.tolf
theorem Rkv.mono (le : w.le w') {d : List (Key × D)} {v : List (Key × V)} (r : Rkv g w d v) : Rkv g w' d v := r.mono' le.tolf
theorem Rfs.mono (le : w.le w') {d : List (Nat × D)} {v : List (Str × V)} (r : Rfs g w d v) : Rfs g w' d v := r.mono' le.tolf
theorem lf_G (w : Wd) (G : Hp) : w.lf ⟨w.F, w.ρ, w.len, G⟩ := ⟨fun _ _ h => h, Nat.le_refl _, fun _ _ => rfl⟩

/-! ### lists -/
theorem Rvs.length : ∀ {ds : List D} {vs : List V}, Rvs g w ds vs → ds.length = vs.length
  | _, _, .nil => rfl
  | _, _, .cons _ r => congrArg (· + 1) (Rvs.length r)
theorem Rvs.append : ∀ {ds es : List D} {vs us : List V}, Rvs g w ds vs → Rvs g w es us → Rvs g w (ds ++ es) (vs ++ us)
  | _, _, _, _, .nil, s => s
  | _, _, _, _, .cons h r, s => .cons h (Rvs.append r s)
theorem Rvs.get : ∀ {ds : List D} {vs : List V} {i : Nat} {d : D}, Rvs g w ds vs → ds[i]? = some d → ∃ v, vs[i]? = some v ∧ Rv g w d v
  | _, _, i, d, .nil, e => by simp at e
  | _, _, 0, d, .cons h _, e => by
    simp at e
    subst e
    exact ⟨_, rfl, h⟩
  | _, _, i + 1, d, .cons _ r, e => Rvs.get (i := i) r (by simpa using e)
theorem Rvs.got : ∀ {ds : List D} {vs : List V} {i : Nat} {v : V}, Rvs g w ds vs → vs[i]? = some v → ∃ d, ds[i]? = some d ∧ Rv g w d v
  | _, _, i, d, .nil, e => by simp at e
  | _, _, 0, d, .cons h _, e => by
    simp at e
    subst e
    exact ⟨_, rfl, h⟩
  | _, _, i + 1, d, .cons _ r, e => Rvs.got (i := i) r (by simpa using e)
theorem Rvs.set : ∀ {ds : List D} {vs : List V} {i : Nat} {d : D} {v : V}, Rvs g w ds vs → Rv g w d v → Rvs g w (ds.set i d) (vs.set i v)
  | _, _, _, _, _, .nil, _ => .nil
  | _, _, 0, _, _, .cons _ r, h => .cons h r
  | _, _, i + 1, _, _, .cons q r, h => .cons q (Rvs.set (i := i) r h)
theorem Rvs.take : ∀ {ds : List D} {vs : List V} (n : Nat), Rvs g w ds vs → Rvs g w (ds.take n) (vs.take n)
  | _, _, 0, _ => .nil
  | _, _, _ + 1, .nil => .nil
  | _, _, n + 1, .cons q r => .cons q (Rvs.take n r)
theorem Rvs.drop : ∀ {ds : List D} {vs : List V} (n : Nat), Rvs g w ds vs → Rvs g w (ds.drop n) (vs.drop n)
  | _, _, 0, r => r
  | _, _, _ + 1, .nil => .nil
  | _, _, n + 1, .cons _ r => Rvs.drop n r
theorem Rvs.reverse : ∀ {ds : List D} {vs : List V}, Rvs g w ds vs → Rvs g w ds.reverse vs.reverse
  | _, _, .nil => .nil
  | _, _, .cons q r => by
    rw [List.reverse_cons, List.reverse_cons]
    exact (Rvs.reverse r).append (.cons q .nil)
theorem Rvs.one {d : D} {vs : List V} (r : Rvs g w [d] vs) : ∃ v, vs = [v] ∧ Rv g w d v := by
  cases r with
  | cons h r => cases r; exact ⟨_, rfl, h⟩
theorem Rvs.two {d e : D} {vs : List V} (r : Rvs g w [d, e] vs) : ∃ v u, vs = [v, u] ∧ Rv g w d v ∧ Rv g w e u := by
  cases r with
  | cons h r => cases r with | cons h2 r => cases r; exact ⟨_, _, rfl, h, h2⟩
theorem Rvs.zero {vs : List V} (r : Rvs g w [] vs) : vs = [] := by cases r; rfl
theorem Rvs.atI {ds : List D} {vs : List V} {i : Int} {d : D} (r : Rvs g w ds vs) (e : L2.atI ds i = some d) : ∃ v, L2.atI vs i = some v ∧ Rv g w d v := by
  unfold L2.atI at e ⊢
  rw [← r.length]
  cases q : ixN ds.length i with
  | none => rw [q] at e; cases e
  | some j =>
    rw [q] at e
    exact r.get e
theorem Rvs.ints : ∀ {ds : List D} {ns : List Int} {vs : List V}, intsOf ds = some ns → Rvs g w ds vs → vs = ns.map V.int
  | [], ns, _, e, .nil => by
    simp [intsOf] at e
    subst e
    rfl
  | d :: ds, ns, _, e, .cons h r => by
    unfold intsOf at e
    rw [List.mapM_cons] at e
    cases d with
    | int i =>
      cases q : ds.mapM isInt with
      | none => rw [q] at e; simp [isInt] at e
      | some ms =>
        rw [q] at e
        simp [isInt] at e
        subst e
        cases h
        rw [List.map_cons, Rvs.ints (ds := ds) q r]
    | _ => simp [isInt] at e
theorem ints_len : ∀ {ds : List D} {ns : List Int}, intsOf ds = some ns → ns.length = ds.length
  | [], ns, e => by
    simp [intsOf] at e
    subst e
    rfl
  | d :: ds, ns, e => by
    unfold intsOf at e
    rw [List.mapM_cons] at e
    cases d with
    | int i =>
      cases q : ds.mapM isInt with
      | none => rw [q] at e; simp [isInt] at e
      | some ms =>
        rw [q] at e
        simp [isInt] at e
        subst e
        rw [List.length_cons, List.length_cons, ints_len (ds := ds) q]
    | _ => simp [isInt] at e

/-! ### fields -/
theorem Rfs.len : ∀ {fs : List (Nat × D)} {fvs : List (Str × V)}, Rfs g w fs fvs → fs.length = fvs.length
  | _, _, .nil => rfl
  | _, _, .cons _ r => congrArg (· + 1) (Rfs.len r)
theorem Rfs.look (inj : ∀ a b, g.att a = g.att b → a = b) {f : Nat} {d : D} : ∀ {fs : List (Nat × D)} {fvs : List (Str × V)}, Rfs g w fs fvs → fs.lookup f = some d → ∃ v, fvs.lookup (g.att f) = some v ∧ Rv g w d v
  | _, _, .nil, e => by simp at e
  | _, _, .cons (f := f') h r, e => by
    rw [List.lookup_cons] at e ⊢
    by_cases q : f = f'
    · subst q
      simp at e
      subst e
      simp
      exact h
    · have q2 : (f == f') = false := beq_eq_false_iff_ne.mpr q
      have q3 : (g.att f == g.att f') = false := beq_eq_false_iff_ne.mpr fun z => q (inj _ _ z)
      rw [q2] at e
      rw [q3]
      exact Rfs.look inj r e
theorem Rfs.none (inj : ∀ a b, g.att a = g.att b → a = b) {m : Str} (hm : ∀ f, g.att f ≠ m) : ∀ {fs : List (Nat × D)} {fvs : List (Str × V)}, Rfs g w fs fvs → fvs.lookup m = none
  | _, _, .nil => rfl
  | _, _, .cons (f := f') h r => by
    rw [List.lookup_cons]
    have q3 : (m == g.att f') = false := beq_eq_false_iff_ne.mpr fun z => hm f' z.symm
    rw [q3]
    exact Rfs.none inj hm r
theorem Rfs.put (inj : ∀ a b, g.att a = g.att b → a = b) {f : Nat} {d : D} {v : V} (hv : Rv g w d v) : ∀ {fs : List (Nat × D)} {fvs : List (Str × V)}, Rfs g w fs fvs → Rfs g w (R.putF f d fs) (L2.putF (g.att f) v fvs)
  | _, _, .nil => .cons hv .nil
  | _, _, .cons (f := f') h r => by
    by_cases q : f' = f
    · subst q
      simp only [R.putF, L2.putF, if_true]
      exact .cons hv r
    · have q2 : ¬ g.att f' = g.att f := fun z => q (inj _ _ z)
      simp only [R.putF, L2.putF, if_neg q, if_neg q2]
      exact .cons h (Rfs.put inj hv r)

/-! ### the memory -/
def ObR (g : Gm) (w : Wd) (H : Hp) (n : Nat) : O → Prop
  | .lst xs => ∃ vs, H (w.ρ n) = some (.lst vs) ∧ Rvs g w xs vs
  | .dct kvs => ∃ kvs', H (w.ρ n) = some (.dK kvs') ∧ Rkv g w kvs kvs'
  | .ins C fs => C < g.ncls ∧ ∃ dx fvs, H (w.ρ n) = some (.ins (g.cad C) dx fvs) ∧ Rfs g w fs fvs
  | .dead => True
def O.live : O → Prop
  | .dead => False
  | _ => True
structure Mem (g : Gm) (w : Wd) (H : Hp) (m : Mm) : Prop where
  fr : ∀ a o, w.F a = some o → H a = some o
  len : w.len = m.length
  ob : ∀ n o, m[n]? = some o → ObR g w H n o
  nf : ∀ n o, m[n]? = some o → o.live → w.F (w.ρ n) = none
  inj : ∀ n k o u, m[n]? = some o → o.live → m[k]? = some u → u.live → w.ρ n = w.ρ k → n = k
  gr : ∀ a o, w.G a = some o → H a = some o
  ng : ∀ n o, m[n]? = some o → o.live → w.G (w.ρ n) = none
  gf : ∀ a o, w.G a = some o → w.F a = none

variable {H : Hp} {m : Mm}
theorem Mem.at (M : Mem g w H m) {n : Nat} {o : O} (e : m[n]? = some o) (l : o.live) : ∃ u, H (w.ρ n) = some u := by
  have q := M.ob n o e
  cases o with
  | lst xs => obtain ⟨vs, q, _⟩ := q; exact ⟨_, q⟩
  | dct kvs => obtain ⟨vs, q, _⟩ := q; exact ⟨_, q⟩
  | ins C fs => obtain ⟨_, dx, fvs, q, _⟩ := q; exact ⟨_, q⟩
  | dead => exact l.elim
theorem ObR.keep {H' : Hp} {n : Nat} {o : O} (le : w.lf w') (hn : n < w.len) (r : ObR g w H n o) (k : ∀ u, H (w.ρ n) = some u → H' (w.ρ n) = some u) : ObR g w' H' n o := by
  have e := le.at_ n hn
  cases o with
  | lst xs => obtain ⟨vs, q, r⟩ := r; exact ⟨vs, by rw [e]; exact k _ q, r.mono' le⟩
  | dct kvs => obtain ⟨vs, q, r⟩ := r; exact ⟨vs, by rw [e]; exact k _ q, r.mono' le⟩
  | ins C fs => obtain ⟨hc, dx, fvs, q, r⟩ := r; exact ⟨hc, dx, fvs, by rw [e]; exact k _ q, r.mono' le⟩
  | dead => trivial
theorem Mem.lt (M : Mem g w H m) {n : Nat} {o : O} (e : m[n]? = some o) : n < w.len := by
  rw [M.len]
  exact (List.getElem?_eq_some_iff.mp e).1
abbrev Wd.fz (w : Wd) (p : Addr) (o : HO) : Wd := ⟨upd w.F p o, w.ρ, w.len, w.G⟩
abbrev Wd.one (w : Wd) (p : Addr) : Wd := ⟨w.F, fun n => if n = w.len then p else w.ρ n, w.len + 1, w.G⟩
abbrev Wd.wg (w : Wd) (G : Hp) : Wd := ⟨w.F, w.ρ, w.len, G⟩
theorem Wd.one_le (w : Wd) (p : Addr) : w.le (w.one p) := ⟨⟨fun _ _ h => h, Nat.le_succ _, fun n h => if_neg (Nat.ne_of_lt h)⟩, fun _ _ h => h⟩
theorem upd_of {H F : Hp} (h : ∀ a o, F a = some o → H a = some o) (p : Addr) (o : HO) : ∀ a x, upd F p o a = some x → upd H p o a = some x := fun a x e => by
  by_cases q : a = p
  · subst q
    rw [upd_same] at e ⊢; exact e
  · rw [upd_ne q] at e ⊢; exact h a x e
/-- a thing that stands for good is laid -/
theorem Mem.laid (M : Mem g w H m) {p : Addr} {o : HO} (hp : H p = none) : w.le (w.fz p o) ∧ Mem g (w.fz p o) (upd H p o) m := by
  have ne : ∀ {a u}, H a = some u → a ≠ p := fun e => ne_of_none e hp
  have le : w.le (w.fz p o) := ⟨⟨fun a u h => by
    show upd w.F p o a = some u
    rw [upd_ne (ne (M.fr a u h))]; exact h, Nat.le_refl _, fun _ _ => rfl⟩, fun _ _ h => h⟩
  refine ⟨le, ⟨upd_of M.fr p o, M.len, fun n u e => ?_, fun n u e l => ?_, M.inj, fun a u h => by rw [upd_ne (ne (M.gr a u h))]; exact M.gr a u h, M.ng, fun a u h => by
    show upd w.F p o a = none
    rw [upd_ne (ne (M.gr a u h))]; exact M.gf a u h⟩⟩
  · exact (M.ob n u e).keep le.tolf (M.lt e) fun x h => by rw [upd_ne (ne h)]; exact h
  · obtain ⟨x, hx⟩ := M.at e l
    show upd w.F p o (w.ρ n) = none
    rw [upd_ne (ne hx)]
    exact M.nf n u e l
/-- .. beside -/
theorem Mem.beside (M : Mem g w H m) {p : Addr} {o : HO} (hp : H p = none) : w.le (w.wg (upd w.G p o)) ∧ Mem g (w.wg (upd w.G p o)) (upd H p o) m := by
  have ne : ∀ {a u}, H a = some u → a ≠ p := fun e => ne_of_none e hp
  have le : w.le (w.wg (upd w.G p o)) := ⟨lf_G w _, fun a u h => by
    show upd w.G p o a = some u
    rw [upd_ne (ne (M.gr a u h))]; exact h⟩
  refine ⟨le, ⟨fun a u h => by rw [upd_ne (ne (M.fr a u h))]; exact M.fr a u h, M.len, fun n u e => ?_, M.nf, M.inj, upd_of M.gr p o, fun n u e l => ?_, fun a u h => ?_⟩⟩
  · exact (M.ob n u e).keep le.tolf (M.lt e) fun x h => by rw [upd_ne (ne h)]; exact h
  · obtain ⟨x, hx⟩ := M.at e l
    show upd w.G p o (w.ρ n) = none
    rw [upd_ne (ne hx)]
    exact M.ng n u e l
  · have h : upd w.G p o a = some u := h
    show w.F a = none
    by_cases q : a = p
    · subst q
      cases z : w.F a with
      | none => rfl
      | some y => rw [M.fr a y z] at hp; cases hp
    · rw [upd_ne q] at h; exact M.gf a u h
/-- a thing beside is changed; p doesn't stand for good -/
theorem Mem.turned (M : Mem g w H m) {p : Addr} {o u : HO} (hp : w.G p = some u) : Mem g (w.wg (upd w.G p o)) (upd H p o) m := by
  have hf := M.gf _ _ hp
  have nF : ∀ {a x}, w.F a = some x → a ≠ p := fun e z => by rw [z, hf] at e; cases e
  have nI : ∀ {n x}, m[n]? = some x → x.live → w.ρ n ≠ p := fun e l z => by
    have q := M.ng _ _ e l
    rw [z, hp] at q; cases q
  refine ⟨fun a u h => by rw [upd_ne (nF h)]; exact M.fr a u h, M.len, fun n u e => ?_, M.nf, M.inj, upd_of M.gr p o, fun n u e l => ?_, fun a x h => ?_⟩
  · cases u with
    | dead => trivial
    | _ => exact (M.ob n _ e).keep (lf_G w _) (M.lt e) fun x h => by rw [upd_ne (nI e trivial)]; exact h
  · show upd w.G p o (w.ρ n) = none
    rw [upd_ne (nI e l)]
    exact M.ng n u e l
  · have h : upd w.G p o a = some x := h
    show w.F a = none
    by_cases q : a = p
    · rw [q]; exact hf
    · rw [upd_ne q] at h; exact M.gf a x h
/-- a thing beside comes to stand for good -/
theorem Mem.settle (M : Mem g w H m) {p : Addr} {o : HO} (hp : w.G p = some o) : Mem g ⟨upd w.F p o, w.ρ, w.len, fun a => if a = p then none else w.G a⟩ H m := by
  have hf := M.gf _ _ hp
  have nI : ∀ {n x}, m[n]? = some x → x.live → w.ρ n ≠ p := fun e l z => by
    have q := M.ng _ _ e l
    rw [z, hp] at q; cases q
  have lf : w.lf ⟨upd w.F p o, w.ρ, w.len, fun a => if a = p then none else w.G a⟩ := ⟨fun a x h => by
    show upd w.F p o a = some x
    rw [upd_ne fun z => by rw [z, hf] at h; cases h]; exact h, Nat.le_refl _, fun _ _ => rfl⟩
  refine ⟨fun a u h => ?_, M.len, fun n u e => (M.ob n u e).keep lf (M.lt e) fun x h => h, fun n u e l => ?_, M.inj, fun a u h => ?_, fun n u e l => ?_, fun a u h => ?_⟩
  · have h : upd w.F p o a = some u := h
    by_cases q : a = p
    · subst q
      rw [upd_same] at h
      rw [← h]; exact M.gr _ _ hp
    · rw [upd_ne q] at h; exact M.fr a u h
  · show upd w.F p o (w.ρ n) = none
    rw [upd_ne (nI e l)]; exact M.nf n u e l
  · have h : (if a = p then none else w.G a) = some u := h
    by_cases q : a = p
    · rw [if_pos q] at h; cases h
    · rw [if_neg q] at h; exact M.gr a u h
  · show (if w.ρ n = p then none else w.G (w.ρ n)) = none
    rw [if_neg (nI e l)]; exact M.ng n u e l
  · have h : (if a = p then none else w.G a) = some u := h
    show upd w.F p o a = none
    by_cases q : a = p
    · rw [if_pos q] at h; cases h
    · rw [if_neg q] at h
      rw [upd_ne q]; exact M.gf a u h
/-- a new object at a new id -/
theorem Mem.new (M : Mem g w H m) {p : Addr} {o : HO} {u : O} (hp : H p = none) (hu : ObR g (w.one p) (upd H p o) w.len u) :
    w.le (w.one p) ∧ Mem g (w.one p) (upd H p o) (m ++ [u]) := by
  have ne : ∀ {a x}, H a = some x → a ≠ p := fun e => ne_of_none e hp
  have le : w.le (w.one p) := w.one_le p
  have old : ∀ {n x}, (m ++ [u])[n]? = some x → (m[n]? = some x ∧ n < w.len) ∨ (n = w.len ∧ x = u) := fun {n x} e => by
    by_cases q : n < m.length
    · rw [List.getElem?_append_left q] at e
      exact .inl ⟨e, by rw [M.len]; exact q⟩
    · rw [List.getElem?_append_right (by omega)] at e
      have q2 : n - m.length = 0 := by
        by_cases z : n - m.length = 0
        · exact z
        · rw [List.getElem?_eq_none (by simp; omega)] at e; cases e
      rw [q2] at e
      exact .inr ⟨by rw [M.len]; omega, (Option.some.inj e).symm⟩
  have rn : ∀ {n}, n < w.len → (if n = w.len then p else w.ρ n) = w.ρ n := fun h => if_neg (Nat.ne_of_lt h)
  have free : ∀ {F : Hp}, (∀ a o, F a = some o → H a = some o) → F p = none := fun {F} h => by
    cases z : F p with
    | none => rfl
    | some y => rw [h p y z] at hp; cases hp
  refine ⟨le, ⟨fun a x h => by rw [upd_ne (ne (M.fr a x h))]; exact M.fr a x h, by
    show w.len + 1 = _
    rw [M.len, List.length_append]; rfl, fun n x e => ?_, fun n x e l => ?_, fun n k x y e l e' l' q => ?_, fun a x h => by rw [upd_ne (ne (M.gr a x h))]; exact M.gr a x h, fun n x e l => ?_, M.gf⟩⟩
  · rcases old e with ⟨e, hn⟩ | ⟨rfl, rfl⟩
    · exact (M.ob n x e).keep le.tolf hn fun y h => by rw [upd_ne (ne h)]; exact h
    · exact hu
  · rcases old e with ⟨e, hn⟩ | ⟨rfl, rfl⟩
    · show w.F (if n = w.len then p else w.ρ n) = none
      rw [rn hn]; exact M.nf n x e l
    · show w.F (if w.len = w.len then p else w.ρ w.len) = none
      rw [if_pos rfl]
      exact free M.fr
  · have q : (if n = w.len then p else w.ρ n) = (if k = w.len then p else w.ρ k) := q
    have a1 : (n < w.len ∧ ∃ z, H (w.ρ n) = some z) ∨ n = w.len := by
      rcases old e with ⟨e1, hn⟩ | ⟨h1, _⟩
      · exact .inl ⟨hn, M.at e1 l⟩
      · exact .inr h1
    have a2 : (k < w.len ∧ ∃ z, H (w.ρ k) = some z) ∨ k = w.len := by
      rcases old e' with ⟨e1, hn⟩ | ⟨h1, _⟩
      · exact .inl ⟨hn, M.at e1 l'⟩
      · exact .inr h1
    rcases a1 with ⟨hn, z, hz⟩ | hn
    · rcases a2 with ⟨hk, z', hz'⟩ | hk
      · rw [rn hn, rn hk] at q
        rcases old e with ⟨e1, _⟩ | ⟨h1, _⟩
        · rcases old e' with ⟨e2, _⟩ | ⟨h2, _⟩
          · exact M.inj n k x y e1 l e2 l' q
          · omega
        · omega
      · rw [rn hn, if_pos hk] at q
        exact absurd q (ne hz)
    · rcases a2 with ⟨hk, z', hz'⟩ | hk
      · rw [if_pos hn, rn hk] at q
        exact absurd q.symm (ne hz')
      · omega
  · rcases old e with ⟨e, hn⟩ | ⟨rfl, rfl⟩
    · show w.G (if n = w.len then p else w.ρ n) = none
      rw [rn hn]; exact M.ng n x e l
    · show w.G (if w.len = w.len then p else w.ρ w.len) = none
      rw [if_pos rfl]
      exact free M.gr
/-- a thing beside comes to be an object -/
theorem Mem.adopt (M : Mem g w H m) {p : Addr} {o : HO} {u : O} (hp : w.G p = some o)
    (hu : ObR g ⟨w.F, fun n => if n = w.len then p else w.ρ n, w.len + 1, fun a => if a = p then none else w.G a⟩ H w.len u) :
    Mem g ⟨w.F, fun n => if n = w.len then p else w.ρ n, w.len + 1, fun a => if a = p then none else w.G a⟩ H (m ++ [u]) := by
  have hf := M.gf _ _ hp
  have nI : ∀ {n x}, m[n]? = some x → x.live → w.ρ n ≠ p := fun e l z => by
    have q := M.ng _ _ e l
    rw [z, hp] at q; cases q
  have lf : w.lf ⟨w.F, fun n => if n = w.len then p else w.ρ n, w.len + 1, fun a => if a = p then none else w.G a⟩ := ⟨fun _ _ h => h, Nat.le_succ _, fun n h => if_neg (Nat.ne_of_lt h)⟩
  have old : ∀ {n x}, (m ++ [u])[n]? = some x → (m[n]? = some x ∧ n < w.len) ∨ (n = w.len ∧ x = u) := fun {n x} e => by
    by_cases q : n < m.length
    · rw [List.getElem?_append_left q] at e
      exact .inl ⟨e, by rw [M.len]; exact q⟩
    · rw [List.getElem?_append_right (by omega)] at e
      have q2 : n - m.length = 0 := by
        by_cases z : n - m.length = 0
        · exact z
        · rw [List.getElem?_eq_none (by simp; omega)] at e; cases e
      rw [q2] at e
      exact .inr ⟨by rw [M.len]; omega, (Option.some.inj e).symm⟩
  have rn : ∀ {n}, n < w.len → (if n = w.len then p else w.ρ n) = w.ρ n := fun h => if_neg (Nat.ne_of_lt h)
  refine ⟨M.fr, by
    show w.len + 1 = _
    rw [M.len, List.length_append]; rfl, fun n x e => ?_, fun n x e l => ?_, fun n k x y e l e' l' q => ?_, fun a x h => ?_, fun n x e l => ?_, fun a x h => ?_⟩
  · rcases old e with ⟨e, hn⟩ | ⟨rfl, rfl⟩
    · exact (M.ob n x e).keep lf hn fun y h => h
    · exact hu
  · rcases old e with ⟨e, hn⟩ | ⟨rfl, rfl⟩
    · show w.F (if n = w.len then p else w.ρ n) = none
      rw [rn hn]; exact M.nf n x e l
    · show w.F (if w.len = w.len then p else w.ρ w.len) = none
      rw [if_pos rfl]
      exact hf
  · have q : (if n = w.len then p else w.ρ n) = (if k = w.len then p else w.ρ k) := q
    have a1 : (n < w.len ∧ w.ρ n ≠ p) ∨ n = w.len := by
      rcases old e with ⟨e1, hn⟩ | ⟨h1, _⟩
      · exact .inl ⟨hn, nI e1 l⟩
      · exact .inr h1
    have a2 : (k < w.len ∧ w.ρ k ≠ p) ∨ k = w.len := by
      rcases old e' with ⟨e1, hn⟩ | ⟨h1, _⟩
      · exact .inl ⟨hn, nI e1 l'⟩
      · exact .inr h1
    rcases a1 with ⟨hn, hz⟩ | hn
    · rcases a2 with ⟨hk, hz'⟩ | hk
      · rw [rn hn, rn hk] at q
        rcases old e with ⟨e1, _⟩ | ⟨h1, _⟩
        · rcases old e' with ⟨e2, _⟩ | ⟨h2, _⟩
          · exact M.inj n k x y e1 l e2 l' q
          · omega
        · omega
      · rw [rn hn, if_pos hk] at q
        exact absurd q hz
    · rcases a2 with ⟨hk, hz'⟩ | hk
      · rw [if_pos hn, rn hk] at q
        exact absurd q.symm hz'
      · omega
  · have h : (if a = p then none else w.G a) = some x := h
    by_cases q : a = p
    · rw [if_pos q] at h; cases h
    · rw [if_neg q] at h; exact M.gr a x h
  · rcases old e with ⟨e, hn⟩ | ⟨rfl, rfl⟩
    · show (if (if n = w.len then p else w.ρ n) = p then none else w.G (if n = w.len then p else w.ρ n)) = none
      rw [rn hn, if_neg (nI e l)]; exact M.ng n x e l
    · show (if (if w.len = w.len then p else w.ρ w.len) = p then none else w.G (if w.len = w.len then p else w.ρ w.len)) = none
      rw [if_pos rfl, if_pos rfl]
  · have h : (if a = p then none else w.G a) = some x := h
    show w.F a = none
    by_cases q : a = p
    · rw [if_pos q] at h; cases h
    · rw [if_neg q] at h; exact M.gf a x h
/-- an object changed -/
theorem Mem.write (M : Mem g w H m) {n : Nat} {x u : O} {o : HO} (e : m[n]? = some x) (l : x.live) (lu : u.live) (hu : ObR g w (upd H (w.ρ n) o) n u) : Mem g w (upd H (w.ρ n) o) (m.set n u) := by
  have hn : n < m.length := (List.getElem?_eq_some_iff.mp e).1
  have old : ∀ {k y}, (m.set n u)[k]? = some y → (k ≠ n ∧ m[k]? = some y) ∨ (k = n ∧ y = u) := fun {k y} q => by
    by_cases z : n = k
    · subst z
      rw [List.getElem?_set_self hn] at q
      exact .inr ⟨rfl, (Option.some.inj q).symm⟩
    · rw [List.getElem?_set_ne z] at q
      exact .inl ⟨fun h => z h.symm, q⟩
  refine ⟨fun a y h => ?_, by rw [List.length_set]; exact M.len, fun k y q => ?_, fun k y q ly => ?_, fun k j y z q ly q' lz r => ?_, fun a y h => ?_, fun k y q ly => ?_, M.gf⟩
  · have ne : a ≠ w.ρ n := fun z => by
      have q := M.nf n x e l
      rw [← z, h] at q; cases q
    rw [upd_ne ne]; exact M.fr a y h
  · rcases old q with ⟨ne, q⟩ | ⟨rfl, rfl⟩
    · cases y with
      | dead => trivial
      | _ =>
        refine (M.ob k _ q).keep (Wd.le.refl w).tolf (M.lt q) fun v h => ?_
        rw [upd_ne fun z => ne (M.inj k n _ x q trivial e l z)]; exact h
    · exact hu
  · rcases old q with ⟨ne, q⟩ | ⟨rfl, rfl⟩
    · exact M.nf k y q ly
    · exact M.nf k x e l
  · have a1 : ∃ y', m[k]? = some y' ∧ y'.live := by
      rcases old q with ⟨_, q⟩ | ⟨rfl, rfl⟩
      · exact ⟨y, q, ly⟩
      · exact ⟨x, e, l⟩
    have a2 : ∃ y', m[j]? = some y' ∧ y'.live := by
      rcases old q' with ⟨_, q⟩ | ⟨rfl, rfl⟩
      · exact ⟨z, q, lz⟩
      · exact ⟨x, e, l⟩
    obtain ⟨y', e1, l1⟩ := a1
    obtain ⟨z', e2, l2⟩ := a2
    exact M.inj k j y' z' e1 l1 e2 l2 r
  · have ne : a ≠ w.ρ n := fun z => by
      have q := M.ng n x e l
      rw [← z, h] at q; cases q
    rw [upd_ne ne]; exact M.gr a y h
  · rcases old q with ⟨ne, q⟩ | ⟨rfl, rfl⟩
    · exact M.ng k y q ly
    · exact M.ng k x e l
/-- an id gives its object to what stands for good -/
theorem Mem.give (M : Mem g w H m) {n : Nat} {x : O} {o : HO} (e : m[n]? = some x) (l : x.live) (ho : H (w.ρ n) = some o) : w.le (w.fz (w.ρ n) o) ∧ Mem g (w.fz (w.ρ n) o) H (m.set n .dead) := by
  have hn : n < m.length := (List.getElem?_eq_some_iff.mp e).1
  have hF := M.nf n x e l
  have le : w.le (w.fz (w.ρ n) o) := ⟨⟨fun a u h => by
    show upd w.F (w.ρ n) o a = some u
    rw [upd_ne (ne_of_none h hF)]; exact h, Nat.le_refl _, fun _ _ => rfl⟩, fun _ _ h => h⟩
  have old : ∀ {k y}, (m.set n .dead)[k]? = some y → (k ≠ n ∧ m[k]? = some y) ∨ (k = n ∧ y = .dead) := fun {k y} q => by
    by_cases z : n = k
    · subst z
      rw [List.getElem?_set_self hn] at q
      exact .inr ⟨rfl, (Option.some.inj q).symm⟩
    · rw [List.getElem?_set_ne z] at q
      exact .inl ⟨fun h => z h.symm, q⟩
  refine ⟨le, ⟨fun a u h => ?_, by rw [List.length_set]; exact M.len, fun k y q => ?_, fun k y q ly => ?_, fun k j y z q ly q' lz r => ?_, M.gr, fun k y q ly => ?_, fun a u h => ?_⟩⟩
  · have h : upd w.F (w.ρ n) o a = some u := h
    by_cases q : a = w.ρ n
    · subst q
      rw [upd_same] at h
      rw [← h]; exact ho
    · rw [upd_ne q] at h
      exact M.fr a u h
  · rcases old q with ⟨ne, q⟩ | ⟨rfl, rfl⟩
    · exact (M.ob k y q).keep le.tolf (M.lt q) fun v h => h
    · trivial
  · rcases old q with ⟨ne, q⟩ | ⟨rfl, rfl⟩
    · show upd w.F (w.ρ n) o (w.ρ k) = none
      rw [upd_ne fun z => ne (M.inj k n y x q ly e l z)]
      exact M.nf k y q ly
    · exact ly.elim
  · rcases old q with ⟨_, q⟩ | ⟨rfl, rfl⟩
    · rcases old q' with ⟨_, q'⟩ | ⟨rfl, rfl⟩
      · exact M.inj k j y z q ly q' lz r
      · exact lz.elim
    · exact ly.elim
  · rcases old q with ⟨_, q⟩ | ⟨rfl, rfl⟩
    · exact M.ng k y q ly
    · exact ly.elim
  · show upd w.F (w.ρ n) o a = none
    have ne : a ≠ w.ρ n := fun z => by
      have q := M.ng n x e l
      have h : w.G a = some u := h
      rw [← z, h] at q; cases q
    rw [upd_ne ne]; exact M.gf a u h
end R

/-! RSnd2: what the operations of data mean for HandS's rules. -/
namespace R
open PySem PySem.Spec PyProof.Rows L2

/-! ### ends -/
/-- how an exception lies -/
def XR (g : Gm) (C : Nat) (p : Option D) (cls : Value) : Prop := cls = .ref (g.cad C) ∧ p = none
abbrev XW := Value → Option Addr → Hp → Prop
def Post {α β : Type} (Rl : Wd → α → β → Prop) (g : Gm) (w : Wd) (xw : XW) (Q : β → Hp → Prop) : Res Mm α → Prop
  | .ok d m => ∀ w' v H', w.le w' → Mem g w' H' m → Rl w' d v → Q v H'
  | .exn C p m => ∀ w' cls dx H', w.le w' → Mem g w' H' m → XR g C p cls → xw cls dx H'
  | .bad => False
theorem Post.mono {α β : Type} {Rl : Wd → α → β → Prop} {g : Gm} {w w' : Wd} {xw : XW} {Q : β → Hp → Prop} (le : w.le w') : ∀ {r : Res Mm α}, Post Rl g w xw Q r → Post Rl g w' xw Q r
  | .ok _ _, h => fun u v H' l => h u v H' (le.trans l)
  | .exn _ _ _, h => fun u c d H' l => h u c d H' (le.trans l)
  | .bad, h => h
theorem Post.imp {α β : Type} {Rl : Wd → α → β → Prop} {g : Gm} {w : Wd} {xw : XW} {Q Q' : β → Hp → Prop} (k : ∀ v H, Q v H → Q' v H) : ∀ {r : Res Mm α}, Post Rl g w xw Q r → Post Rl g w xw Q' r
  | .ok _ _, h => fun u v H' l M r => k _ _ (h u v H' l M r)
  | .exn _ _ _, h => h
  | .bad, h => h
/-- one thing behind another -/
theorem Post.bind {α β γ δ : Type} {Rl : Wd → α → β → Prop} {Rl' : Wd → γ → δ → Prop} {g : Gm} {w : Wd} {xw : XW} {Q : β → Hp → Prop} {Q' : δ → Hp → Prop} {r : Res Mm γ} {f : γ → Mm → Res Mm α} (h : Post Rl g w xw Q (r.bind f))
    (k : ∀ d m, r = .ok d m → ∀ w' v H', w.le w' → Mem g w' H' m → Rl' w' d v → Post Rl g w' xw Q (f d m) → Q' v H') : Post Rl' g w xw Q' r := by
  cases r with
  | ok d m => exact fun w' v H' le M rv => k d m rfl w' v H' le M rv (Post.mono le h)
  | exn C p m => exact h
  | bad => exact h
abbrev PostE (g : Gm) := Post (Rv g) g
abbrev PostEs (g : Gm) := Post (Rvs g) g

structure Slr (g : Gm) (w : Wd) (sl : List (Option D)) (σ : L2.St) : Prop where
  len : sl.length = σ.length
  at_ : ∀ (i : Nat) d, sl[i]? = some (some d) → ∃ v, σ[i]? = some (some v) ∧ Rv g w d v
theorem Slr.mono {g : Gm} {w w' : Wd} {sl : List (Option D)} {σ : L2.St} (le : w.le w') (s : Slr g w sl σ) : Slr g w' sl σ :=
  ⟨s.len, fun i d e => let ⟨v, h, r⟩ := s.at_ i d e; ⟨v, h, r.mono le⟩⟩
theorem Slr.set {g : Gm} {w : Wd} {sl : List (Option D)} {σ : L2.St} (s : Slr g w sl σ) {i : Nat} {d : D} {v : V} (r : Rv g w d v) : Slr g w (sl.set i (some d)) (σ.set i (some v)) := by
  refine ⟨by rw [List.length_set, List.length_set]; exact s.len, fun j e h => ?_⟩
  by_cases q : i = j
  · subst q
    by_cases hi : i < sl.length
    · rw [List.getElem?_set_self hi] at h
      cases h
      exact ⟨v, List.getElem?_set_self (by rw [← s.len]; exact hi), r⟩
    · rw [List.getElem?_eq_none (by simpa using hi)] at h; cases h
  · rw [List.getElem?_set_ne q] at h
    rw [List.getElem?_set_ne q]
    exact s.at_ j e h
theorem Slr.wipe {g : Gm} {w : Wd} {sl : List (Option D)} {σ : L2.St} (s : Slr g w sl σ) : ∀ vs : List Nat, Slr g w (R.wipe sl vs) (L2.wipe σ vs)
  | [] => s
  | v :: vs => by
    have t := Slr.wipe s vs
    unfold R.wipe L2.wipe
    refine ⟨by rw [List.length_set, List.length_set]; exact t.len, fun j e h => ?_⟩
    by_cases q : v = j
    · subst q
      by_cases hi : v < (R.wipe sl vs).length
      · rw [List.getElem?_set_self hi] at h; cases h
      · rw [List.getElem?_eq_none (by simpa using hi)] at h; cases h
    · rw [List.getElem?_set_ne q] at h
      rw [List.getElem?_set_ne q]
      exact t.at_ j e h

/-! ### lists of data -/
variable {g : Gm} {w : Wd} {H : Hp} {m : Mm}
theorem sl_szOk {n : Nat} (h : szOk n = true) : n ≤ sizeLine := by
  rw [sizeLine_eq]; exact Nat.le_of_ble_eq_true h
theorem lstW_rel (M : Mem g w H m) {d : D} {v : V} {xs : List D} (r : Rv g w d v) (e : lstW m d = some xs) : ∃ a vs, v = .ref a ∧ H a = some (.lst vs) ∧ Rvs g w xs vs := by
  cases r with
  | lst h r =>
    cases e
    exact ⟨_, _, rfl, M.fr _ _ h, r⟩
  | ref n hn =>
    simp only [lstW] at e
    split at e
    · rename_i ys q
      cases e
      obtain ⟨vs, h1, h2⟩ := M.ob n _ q
      exact ⟨_, vs, rfl, h1, h2⟩
    · cases e
  | _ => cases e
theorem lstOf_rel (M : Mem g w H m) {d : D} {v : V} {xs : List D} (r : Rv g w d v) (e : lstOf m d = some xs) : ∃ a vs, v = .ref a ∧ SqL g.K H a vs ∧ Rvs g w xs vs := by
  cases r with
  | lst h r =>
    cases e
    exact ⟨_, _, rfl, SqL.of (M.fr _ _ h), r⟩
  | scr h r =>
    cases e
    exact ⟨_, _, rfl, sqL_mono M.fr h, r⟩
  | ref n hn =>
    simp only [lstOf] at e
    split at e
    · rename_i ys q
      cases e
      obtain ⟨vs, h1, h2⟩ := M.ob n _ q
      exact ⟨_, vs, rfl, SqL.of h1, h2⟩
    · cases e
  | _ => cases e
theorem seqOf_rel (M : Mem g w H m) {d : D} {v : V} {xs : List D} (r : Rv g w d v) (e : seqOf m d = some xs) : ∃ a vs, v = .ref a ∧ (SqL g.K H a vs ∨ SqT g.K H a vs) ∧ Rvs g w xs vs := by
  cases d with
  | tup ys =>
    cases e
    cases r with
    | tup h r => exact ⟨_, _, rfl, .inr (sqT_mono M.fr h), r⟩
  | _ =>
    obtain ⟨a, vs, h1, h2, h3⟩ := lstOf_rel M r e
    exact ⟨a, vs, h1, .inl h2, h3⟩
theorem mkL_post {obj : Bool} {ds : List D} {vs : List V} {xw : XW} {Q : V → Hp → Prop} (h : PostE g w xw Q (mkL obj ds m)) (M : Mem g w H m) (r : Rvs g w ds vs) :
    vs.length ≤ sizeLine ∧ ∀ p, H p = none → Q (.ref p) (upd H p (.lst vs)) := by
  unfold mkL at h
  by_cases hz : szOk ds.length = true
  · rw [if_pos hz] at h
    refine ⟨by rw [← r.length]; exact sl_szOk hz, fun p hp => ?_⟩
    cases obj with
    | true =>
      rw [if_pos rfl] at h
      obtain ⟨le, M'⟩ := M.new (p := p) (o := .lst vs) (u := .lst ds) hp ⟨vs, by
        show upd H p (.lst vs) (if w.len = w.len then p else w.ρ w.len) = _
        rw [if_pos rfl, upd_same], r.mono (w.one_le p)⟩
      have q : Rv g (w.one p) (.ref w.len) (.ref (if w.len = w.len then p else w.ρ w.len)) := Rv.ref (w := w.one p) w.len (Nat.lt_succ_self _)
      rw [if_pos rfl] at q
      rw [← M.len] at h
      exact h _ (.ref p) _ le M' q
    | false =>
      rw [if_neg Bool.false_ne_true] at h
      obtain ⟨le, M'⟩ := M.laid (p := p) (o := .lst vs) hp
      exact h _ _ _ le M' (.lst upd_same (r.mono le))
  · rw [if_neg hz] at h
    exact h.elim
theorem mkT_post {ds : List D} {vs : List V} {xw : XW} {Q : V → Hp → Prop} (h : PostE g w xw Q (mkT ds m)) (M : Mem g w H m) (r : Rvs g w ds vs) :
    vs.length ≤ sizeLine ∧ ∀ p, H p = none → Q (.ref p) (upd H p (.tup vs)) := by
  unfold mkT at h
  by_cases hz : szOk ds.length = true
  · rw [if_pos hz] at h
    refine ⟨by rw [← r.length]; exact sl_szOk hz, fun p hp => ?_⟩
    obtain ⟨le, M'⟩ := M.laid (p := p) (o := .tup vs) hp
    exact h _ _ _ le M' (.tup (SqT.of upd_same) (r.mono le))
  · rw [if_neg hz] at h
    exact h.elim

theorem OpR.imp {X : Cx} {f : Value → Value → Sem Value} {r r' : R2} (h : OpR X f r) (k : ∀ x y H Q, r' x y H Q → r x y H Q) : OpR X f r' :=
  fun pins s σ H x y v u Q I rx ry q => h pins s σ H x y v u Q I rx ry (k _ _ _ _ q)

/-! ### plain data -/
mutual
theorem toP_rel (M : Mem g w H m) : ∀ (k : Nat) {d : D} {v : V} {q : PyData}, Rv g w d v → toP m k d = some q → Dp g.K H v q
  | 0, _, _, _, _, e => by simp [toP] at e
  | k + 1, _, _, q, .non, e => by
    simp [toP] at e; subst e; exact .non
  | k + 1, _, _, q, .bl b, e => by
    simp [toP] at e; subst e; exact .bl b
  | k + 1, _, _, q, .int i, e => by
    simp [toP] at e; subst e; exact .int i
  | k + 1, _, _, q, .str x, e => by
    simp [toP] at e; subst e; exact .str x
  | k + 1, _, _, q, .tup h r, e => by
    simp only [toP, Option.map_eq_some_iff] at e
    obtain ⟨qs, e, rfl⟩ := e
    exact .tup (sqT_mono M.fr h) (toPs_rel M k r e)
  | k + 1, _, _, q, .lst h r, e => by
    simp only [toP, Option.map_eq_some_iff] at e
    obtain ⟨qs, e, rfl⟩ := e
    exact .lst (SqL.of (M.fr _ _ h)) (toPs_rel M k r e)
  | k + 1, _, _, q, .scr h r, e => by
    simp only [toP, Option.map_eq_some_iff] at e
    obtain ⟨qs, e, rfl⟩ := e
    exact .lst (sqL_mono M.fr h) (toPs_rel M k r e)
  | k + 1, _, _, q, .dct h r, e => by simp [toP] at e
  | k + 1, _, _, q, .ins hc h r, e => by simp [toP] at e
  | k + 1, _, _, q, .ref n hn, e => by
    simp only [toP] at e
    split at e
    · rename_i ys z
      simp only [Option.map_eq_some_iff] at e
      obtain ⟨qs, e, rfl⟩ := e
      obtain ⟨vs, h1, h2⟩ := M.ob n _ z
      exact .lst (SqL.of h1) (toPs_rel M k h2 e)
    · cases e
theorem toPs_rel (M : Mem g w H m) : ∀ (k : Nat) {ds : List D} {vs : List V} {qs : List PyData}, Rvs g w ds vs → ds.mapM (toP m k) = some qs → DpAll g.K H vs qs
  | k, _, _, qs, .nil, e => by
    simp at e; subst e; exact .nil
  | k, _, _, qs, .cons h r, e => by
    rw [List.mapM_cons] at e
    simp only [Option.bind_eq_bind, Option.bind_eq_some_iff, Option.pure_def] at e
    obtain ⟨q, e1, qs', e2, e3⟩ := e
    cases e3
    exact .cons (toP_rel M k h e1) (toPs_rel M k r e2)
end

/-! ### operators -/
def Op.py : Op → Operator
  | .add => .Add | .sub => .Sub | .mul => .Mult | .fdiv => .FloorDiv | .mod => .Mod | .pow => .Pow
/-- what is known at an operator -/
def rBin (g : Gm) (o : Op) (obj : Bool) : R2 := fun x y H Q => ∃ w m a b xw, Mem g w H m ∧ Rv g w a x ∧ Rv g w b y ∧ PostE g w xw Q (binD o obj a b m)
theorem ok_same {xw : XW} {Q : V → Hp → Prop} {d : D} {v : V} (h : PostE g w xw Q (.ok d m)) (M : Mem g w H m) (r : Rv g w d v) : Q v H := h w v H (Wd.le.refl w) M r
theorem mulOk_ok {i j : Int} (h : mulOk i j = true) : IntMulOk i j := by
  unfold mulOk at h
  simp only [Bool.or_eq_true] at h
  rcases h with (h | h) | h
  · have h := Nat.le_of_ble_eq_true h
    exact CMul.ok (.inl ⟨by omega, by omega⟩)
  · have h := Nat.le_of_ble_eq_true h
    exact CMul.ok (.inr ⟨by omega, by omega⟩)
  · have h := Nat.le_of_ble_eq_true h
    exact CMulW.ok (by show _ < _; omega)
variable {X : Cx}
theorem op_mulR : OpR X (binaryOp .Mult) (rI (fun i j => mulOk i j = true) fun i j => .int (i * j)) := opI fun _ _ _ _ _ _ _ hc q => mul_int q (mulOk_ok hc)
theorem arD_rel {c : Int → Int → Bool} {f : Int → Int → Int} {a b : D} {x y : V} {xw : XW} {Q : VK} (h : PostE g w xw Q (arD c f m a b)) (M : Mem g w H m) (ra : Rv g w a x) (rb : Rv g w b y) :
    ∃ i j, x = .int i ∧ y = .int j ∧ c i j = true ∧ Q (.int (f i j)) H := by
  unfold arD at h
  split at h
  · split at h
    · rename_i hc
      cases ra; cases rb
      exact ⟨_, _, rfl, rfl, hc, ok_same h M (.int _)⟩
    · exact absurd h id
  · exact absurd h id
theorem op_bin (o : Op) (obj : Bool) : OpR X (binaryOp o.py) (rBin g o obj) := by
  cases o with
  | add =>
    refine OpR.imp (OpR.or op_add op_cat) fun x y H Q h => ?_
    obtain ⟨w, m, a, b, xw, M, ra, rb, h⟩ := h
    have h : PostE g w xw Q (addD obj m a b) := h
    unfold addD at h
    split at h
    · cases ra; cases rb
      exact .inl ⟨_, _, rfl, rfl, ok_same h M (.int _)⟩
    · split at h
      · rename_i xs ys e1 e2
        obtain ⟨p, vs, rfl, h1, r1⟩ := lstW_rel M ra e1
        obtain ⟨q, us, rfl, h2, r2⟩ := lstW_rel M rb e2
        obtain ⟨hz, k⟩ := mkL_post h M (r1.append r2)
        exact .inr ⟨_, _, _, _, rfl, rfl, h1, h2, by rw [List.length_append] at hz; exact hz, k⟩
      · exact absurd h id
  | sub =>
    refine OpR.imp op_sub fun x y H Q h => ?_
    obtain ⟨w, m, a, b, xw, M, ra, rb, h⟩ := h
    obtain ⟨i, j, h1, h2, _, q⟩ := arD_rel h M ra rb
    exact ⟨i, j, h1, h2, q⟩
  | mul =>
    refine OpR.imp op_mulR fun x y H Q h => ?_
    obtain ⟨w, m, a, b, xw, M, ra, rb, h⟩ := h
    have h : PostE g w xw Q (mulD obj m a b) := h
    unfold mulD at h
    split at h
    · split at h
      · cases ra; cases rb
        exact ⟨_, _, rfl, rfl, by assumption, ok_same h M (.int _)⟩
      · exact absurd h id
    · exact absurd h id
  | fdiv =>
    refine OpR.imp op_fdiv fun x y H Q h => ?_
    obtain ⟨w, m, a, b, xw, M, ra, rb, h⟩ := h
    obtain ⟨i, j, h1, h2, hd, q⟩ := arD_rel h M ra rb
    unfold divOk at hd
    simp only [Bool.and_eq_true, decide_eq_true_eq] at hd
    have hd2 := Nat.le_of_ble_eq_true hd.2
    exact ⟨i, j, h1, h2, ⟨hd.1, by omega⟩, q⟩
  | mod =>
    refine OpR.imp op_mod fun x y H Q h => ?_
    obtain ⟨w, m, a, b, xw, M, ra, rb, h⟩ := h
    obtain ⟨i, j, h1, h2, hd, q⟩ := arD_rel h M ra rb
    exact ⟨i, j, h1, h2, of_decide_eq_true hd, q⟩
  | pow =>
    refine OpR.imp op_pow fun x y H Q h => ?_
    obtain ⟨w, m, a, b, xw, M, ra, rb, h⟩ := h
    obtain ⟨i, j, h1, h2, hd, q⟩ := arD_rel h M ra rb
    unfold powOk at hd
    simp only [Bool.and_eq_true, decide_eq_true_eq] at hd
    have hd2 := Nat.le_of_ble_eq_true hd.1.2
    have hd3 := Nat.le_of_ble_eq_true hd.2
    exact ⟨i, j, h1, h2, ⟨hd.1.1, by omega, by omega⟩, q⟩

/-! ### comparisons -/
def Cm.py : Cm → CmpOp
  | .eq => .Eq | .ne => .NotEq | .lt => .Lt | .le => .LtE | .gt => .Gt | .ge => .GtE
def rCmp (g : Gm) (c : Cm) : R2 := fun x y H Q => ∃ w m a b k, Mem g w H m ∧ Rv g w a x ∧ Rv g w b y ∧ cmpD c m a b = some k ∧ Q (.bl k) H
theorem eqD_rel {a b : D} {x y : V} {k : Bool} (M : Mem g w H m) (ra : Rv g w a x) (rb : Rv g w b y) (e : eqD m a b = some k) :
    (scal x y = true ∧ decide (x = y) = k) ∨ ∃ d e, Dp g.K H x d ∧ Dp g.K H y e ∧ SeqAt.shaped d = true ∧ SeqAt.shaped e = true ∧ PyData.eqv d e = k := by
  unfold eqD at e
  split at e
  · cases ra; cases rb
    cases e
    exact .inl ⟨rfl, dec_int⟩
  · cases ra; cases rb
    cases e
    refine .inl ⟨rfl, ?_⟩
    rename_i s t
    by_cases z : s = t
    · subst z; simp
    · rw [decide_eq_false z, decide_eq_false fun q => z (V.str.inj q)]
  · split at e
    · rename_i p q e1 e2
      split at e
      · rename_i hs
        cases e
        exact .inr ⟨p, q, toP_rel M 9 ra e1, toP_rel M 9 rb e2, hs.1, hs.2, rfl⟩
      · cases e
    · cases e
theorem op_cmp (hu : X.A.units + 64 < cLine) (hK : X.K = g.K) (c : Cm) : OpR X (compareOp c.py) (rCmp g c) := by
  cases c with
  | eq =>
    refine OpR.imp (OpR.or op_eq (op_eqD hu)) fun x y H Q h => ?_
    obtain ⟨w, m, a, b, k, M, ra, rb, e, q⟩ := h
    rw [hK]
    rcases eqD_rel M ra rb e with ⟨h1, h2⟩ | ⟨d, e, h1, h2, h3, h4, h5⟩
    · exact .inl ⟨h1, by rw [h2]; exact q⟩
    · exact .inr ⟨d, e, h1, h2, h3, h4, by rw [h5]; exact q⟩
  | ne =>
    refine OpR.imp (OpR.or op_ne (op_neD hu)) fun x y H Q h => ?_
    obtain ⟨w, m, a, b, k, M, ra, rb, e, q⟩ := h
    rw [hK]
    have e1 : (eqD m a b).map not = some k := e
    rw [Option.map_eq_some_iff] at e1
    obtain ⟨k', e2, rfl⟩ := e1
    rcases eqD_rel M ra rb e2 with ⟨h1, h2⟩ | ⟨d, e, h1, h2, h3, h4, h5⟩
    · exact .inl ⟨h1, by rw [h2]; exact q⟩
    · exact .inr ⟨d, e, h1, h2, h3, h4, by rw [h5]; exact q⟩
  | lt =>
    refine OpR.imp op_lt fun x y H Q h => ?_
    obtain ⟨w, m, a, b, k, M, ra, rb, e, q⟩ := h
    unfold cmpD at e
    dsimp only at e
    split at e
    · cases ra; cases rb; cases e
      exact ⟨_, _, rfl, rfl, q⟩
    · cases e
  | le =>
    refine OpR.imp op_le fun x y H Q h => ?_
    obtain ⟨w, m, a, b, k, M, ra, rb, e, q⟩ := h
    unfold cmpD at e
    dsimp only at e
    split at e
    · cases ra; cases rb; cases e
      exact ⟨_, _, rfl, rfl, q⟩
    · cases e
  | gt =>
    refine OpR.imp op_gt fun x y H Q h => ?_
    obtain ⟨w, m, a, b, k, M, ra, rb, e, q⟩ := h
    unfold cmpD at e
    dsimp only at e
    split at e
    · cases ra; cases rb; cases e
      exact ⟨_, _, rfl, rfl, q⟩
    · cases e
  | ge =>
    refine OpR.imp op_ge fun x y H Q h => ?_
    obtain ⟨w, m, a, b, k, M, ra, rb, e, q⟩ := h
    unfold cmpD at e
    dsimp only at e
    split at e
    · cases ra; cases rb; cases e
      exact ⟨_, _, rfl, rfl, q⟩
    · cases e

/-! ### truth -/
theorem truthD_rel {d : D} {v : V} {k : Bool} (M : Mem g w H m) (r : Rv g w d v) (e : truthD m d = some k) : TruV g.K v H k := by
  have sq : ∀ {d : D} {v : V}, Rv g w d v → (lstOf m d).map (fun xs => !xs.isEmpty) = some k → TruV g.K v H k := fun {d v} r e1 => by
    rw [Option.map_eq_some_iff] at e1
    obtain ⟨xs, e2, e3⟩ := e1
    obtain ⟨a, vs, rfl, h, rv⟩ := lstOf_rel M r e2
    refine .inl ⟨vs, h, ?_⟩
    rw [← e3]
    cases rv <;> rfl
  cases r with
  | non => cases e; rfl
  | bl b => cases e; rfl
  | int i => cases e; rfl
  | tup h r =>
    cases e
    refine .inr (.inl ⟨_, sqT_mono M.fr h, ?_⟩)
    cases r <;> rfl
  | str x => exact sq (.str x) e
  | lst h r => exact sq (.lst h r) e
  | scr h r => exact sq (.scr h r) e
  | dct h r => exact sq (.dct h r) e
  | ins hc h r => exact sq (.ins hc h r) e
  | ref n h => exact sq (.ref n h) e

/-! ### items -/
def rIdx (g : Gm) : R2 := fun x y H Q => ∃ w m a b d, Mem g w H m ∧ Rv g w a x ∧ Rv g w b y ∧ idxD m a b = some d ∧ ∀ v, Rv g w d v → Q v H
theorem IxR.imp {r r' : R2} (h : IxR X r) (k : ∀ x y H Q, r' x y H Q → r x y H Q) : IxR X r' :=
  fun a b pins s σ H x y v u Q I rx ry q => h a b pins s σ H x y v u Q I rx ry (k _ _ _ _ q)
theorem ix_idx (hK : X.K = g.K) : IxR X (rIdx g) := by
  refine IxR.imp (IxR.or ix_list ix_tup) fun x y H Q h => ?_
  rw [hK]
  obtain ⟨w, m, a, b, d, M, ra, rb, e, q⟩ := h
  unfold idxD at e
  split at e
  · split at e
    · rename_i xs z
      cases rb
      obtain ⟨p, vs, rfl, h, r⟩ := seqOf_rel M ra z
      obtain ⟨v, e1, r1⟩ := r.atI e
      rcases h with h | h
      · exact .inl ⟨p, vs, _, v, rfl, rfl, h, e1, q v r1⟩
      · exact .inr ⟨p, vs, _, v, rfl, rfl, h, e1, q v r1⟩
    · cases e
  · cases e
end R

/-! RSnd3: built-in functions, methods, fields. -/
namespace R
open PySem PySem.Spec PyProof.Rows L2
variable {g : Gm} {w : Wd} {H : Hp} {m : Mm} {X : Cx}

theorem CallR.imp {f : Value} {r r' : List V → Hp → VK → Prop} (h : CallR X f r) (k : ∀ xs H Q, r' xs H Q → r xs H Q) : CallR X f r' :=
  fun pins s σ H xs us Q I rs q => h pins s σ H xs us Q I rs (k _ _ _ q)
def Bt.val : Bt → Value
  | .len => .builtin "len" | .int_ => .type "int" | .abs_ => .builtin "abs" | .min2 => .builtin "min" | .max2 => .builtin "max" | .min1 => .builtin "min" | .max1 => .builtin "max"
  | .sum_ => .builtin "sum" | .list_ => .type "list" | .tuple_ => .type "tuple" | .str_ => .type "str" | .ord_ => .builtin "ord" | .repr_ => .builtin "repr"
/-- what is known at a call -/
def rBlt (g : Gm) (b : Bt) (obj : Bool) : List V → Hp → VK → Prop := fun vs H Q => ∃ w m as xw, Mem g w H m ∧ Rvs g w as vs ∧ PostE g w xw Q (bltD b obj as m)

theorem minI_mem : ∀ {ns : List Int}, ns.length ≠ 0 → minI ns ∈ ns
  | [], h => absurd rfl h
  | [x], _ => by simp [minI]
  | x :: y :: r, _ => by
    have ih := minI_mem (ns := y :: r) (by simp)
    show min x (minI (y :: r)) ∈ _
    rcases Int.le_total x (minI (y :: r)) with h | h
    · rw [Int.min_eq_left h]; exact List.mem_cons_self
    · rw [Int.min_eq_right h]; exact List.mem_cons_of_mem _ ih
theorem minI_le : ∀ {ns : List Int} {y : Int}, y ∈ ns → minI ns ≤ y
  | [], _, h => by cases h
  | [x], y, h => by
    have e := List.mem_singleton.mp h
    subst e
    exact Int.le_refl _
  | x :: z :: r, y, h => by
    show min x (minI (z :: r)) ≤ y
    rcases List.mem_cons.mp h with e | h
    · rw [e]; exact Int.min_le_left _ _
    · exact Int.le_trans (Int.min_le_right _ _) (minI_le h)
theorem maxI_mem : ∀ {ns : List Int}, ns.length ≠ 0 → maxI ns ∈ ns
  | [], h => absurd rfl h
  | [x], _ => by simp [maxI]
  | x :: y :: r, _ => by
    have ih := maxI_mem (ns := y :: r) (by simp)
    show max x (maxI (y :: r)) ∈ _
    rcases Int.le_total x (maxI (y :: r)) with h | h
    · rw [Int.max_eq_right h]; exact List.mem_cons_of_mem _ ih
    · rw [Int.max_eq_left h]; exact List.mem_cons_self
theorem maxI_le : ∀ {ns : List Int} {y : Int}, y ∈ ns → y ≤ maxI ns
  | [], _, h => by cases h
  | [x], y, h => by
    have e := List.mem_singleton.mp h
    subst e
    exact Int.le_refl _
  | x :: z :: r, y, h => by
    show y ≤ max x (maxI (z :: r))
    rcases List.mem_cons.mp h with e | h
    · rw [e]; exact Int.le_max_left _ _
    · exact Int.le_trans (maxI_le h) (Int.le_max_right _ _)

theorem call_blt (hK : X.K = g.K) (hc : X.calm = true) (b : Bt) (obj : Bool) : CallR X b.val (rBlt g b obj) := by
  cases b with
  | len =>
    refine CallR.imp call_len_seq fun vs H Q h => ?_
    rw [hK]
    obtain ⟨w, m, as, xw, M, r, h⟩ := h
    unfold bltD at h
    split at h
    all_goals first
      | (rename_i hh; cases hh; done)
      | skip
    · obtain ⟨v, rfl, rv⟩ := r.one
      split at h
      · rename_i xs e
        obtain ⟨a, us, rfl, h1, r1⟩ := seqOf_rel M rv e
        refine ⟨a, us, rfl, h1, ?_⟩
        rw [← r1.length]
        exact ok_same h M (.int _)
      · exact absurd h id
    · exact absurd h id
  | int_ =>
    refine CallR.imp call_int1 fun vs H Q h => ?_
    obtain ⟨w, m, as, xw, M, r, h⟩ := h
    unfold bltD at h
    split at h
    all_goals first
      | (rename_i hh; cases hh; done)
      | skip
    · obtain ⟨v, rfl, rv⟩ := r.one
      cases rv
      exact .inl ⟨_, rfl, ok_same h M (.int _)⟩
    · obtain ⟨v, rfl, rv⟩ := r.one
      cases rv
      exact .inr ⟨_, rfl, ok_same h M (.int _)⟩
    · exact absurd h id
  | abs_ =>
    refine CallR.imp call_abs fun vs H Q h => ?_
    obtain ⟨w, m, as, xw, M, r, h⟩ := h
    unfold bltD at h
    split at h
    all_goals first
      | (rename_i hh; cases hh; done)
      | skip
    · obtain ⟨v, rfl, rv⟩ := r.one
      cases rv
      exact ⟨_, rfl, ok_same h M (.int _)⟩
    · exact absurd h id
  | min2 =>
    refine CallR.imp (call_min2 hc) fun vs H Q h => ?_
    obtain ⟨w, m, as, xw, M, r, h⟩ := h
    unfold bltD at h
    split at h
    all_goals first
      | (rename_i hh; cases hh; done)
      | skip
    · obtain ⟨v, u, rfl, rv, ru⟩ := r.two
      cases rv; cases ru
      exact ⟨_, _, rfl, ok_same h M (.int _)⟩
    · exact absurd h id
  | max2 =>
    refine CallR.imp (call_max2 hc) fun vs H Q h => ?_
    obtain ⟨w, m, as, xw, M, r, h⟩ := h
    unfold bltD at h
    split at h
    all_goals first
      | (rename_i hh; cases hh; done)
      | skip
    · obtain ⟨v, u, rfl, rv, ru⟩ := r.two
      cases rv; cases ru
      exact ⟨_, _, rfl, ok_same h M (.int _)⟩
    · exact absurd h id
  | min1 =>
    refine CallR.imp (cr_min hc) fun vs H Q h => ?_
    rw [hK]
    obtain ⟨w, m, as, xw, M, r, h⟩ := h
    unfold bltD at h
    split at h
    all_goals first
      | (rename_i hh; cases hh; done)
      | skip
    · obtain ⟨v, rfl, rv⟩ := r.one
      split at h
      · rename_i xs e
        split at h
        · rename_i ns e2
          split at h
          · exact absurd h id
          · rename_i hn
            obtain ⟨a, us, rfl, h1, r1⟩ := lstOf_rel M rv e
            have e3 := Rvs.ints e2 r1
            subst e3
            refine ⟨a, ns, rfl, h1, by omega, fun k hk hl => ?_⟩
            have e4 : k = minI ns := Int.le_antisymm (hl _ (minI_mem hn)) (minI_le hk)
            rw [e4]
            exact ok_same h M (.int _)
        · exact absurd h id
      · exact absurd h id
    · exact absurd h id
  | max1 =>
    refine CallR.imp (cr_max hc) fun vs H Q h => ?_
    rw [hK]
    obtain ⟨w, m, as, xw, M, r, h⟩ := h
    unfold bltD at h
    split at h
    all_goals first
      | (rename_i hh; cases hh; done)
      | skip
    · obtain ⟨v, rfl, rv⟩ := r.one
      split at h
      · rename_i xs e
        split at h
        · rename_i ns e2
          split at h
          · exact absurd h id
          · rename_i hn
            obtain ⟨a, us, rfl, h1, r1⟩ := lstOf_rel M rv e
            have e3 := Rvs.ints e2 r1
            subst e3
            refine ⟨a, ns, rfl, h1, by omega, fun k hk hl => ?_⟩
            have e4 : k = maxI ns := Int.le_antisymm (maxI_le hk) (hl _ (maxI_mem hn))
            rw [e4]
            exact ok_same h M (.int _)
        · exact absurd h id
      · exact absurd h id
    · exact absurd h id
  | sum_ =>
    refine CallR.imp (cr_sum hc) fun vs H Q h => ?_
    rw [hK]
    obtain ⟨w, m, as, xw, M, r, h⟩ := h
    unfold bltD at h
    split at h
    all_goals first
      | (rename_i hh; cases hh; done)
      | skip
    · obtain ⟨v, rfl, rv⟩ := r.one
      split at h
      · rename_i xs e
        split at h
        · rename_i ns e2
          obtain ⟨a, us, rfl, h1, r1⟩ := lstOf_rel M rv e
          have e3 := Rvs.ints e2 r1
          subst e3
          exact ⟨a, ns, rfl, h1, ok_same h M (.int _)⟩
        · exact absurd h id
      · exact absurd h id
    · exact absurd h id
  | list_ =>
    refine CallR.imp call_list_of fun vs H Q h => ?_
    rw [hK]
    obtain ⟨w, m, as, xw, M, r, h⟩ := h
    unfold bltD at h
    split at h
    all_goals first
      | (rename_i hh; cases hh; done)
      | skip
    · obtain ⟨v, rfl, rv⟩ := r.one
      split at h
      · rename_i xs e
        obtain ⟨a, us, rfl, h1, r1⟩ := seqOf_rel M rv e
        exact ⟨a, us, rfl, h1, (mkL_post h M r1).2⟩
      · exact absurd h id
    · exact absurd h id
  | tuple_ =>
    refine CallR.imp call_tuple_of fun vs H Q h => ?_
    rw [hK]
    obtain ⟨w, m, as, xw, M, r, h⟩ := h
    unfold bltD at h
    split at h
    all_goals first
      | (rename_i hh; cases hh; done)
      | skip
    · obtain ⟨v, rfl, rv⟩ := r.one
      split at h
      · rename_i xs e
        obtain ⟨a, us, rfl, h1, r1⟩ := lstOf_rel M rv e
        exact ⟨a, us, rfl, .inl ⟨h1, (mkT_post h M r1).2⟩⟩
      · exact absurd h id
    · exact absurd h id
  | str_ =>
    intro pins s σ H xs us Q I rs h
    obtain ⟨w, m, as, xw, M, r, h⟩ := h
    unfold bltD at h
    split at h
    all_goals first
      | (rename_i hh; cases hh; done)
      | skip
    · exact absurd h id
  | ord_ =>
    intro pins s σ H xs us Q I rs h
    obtain ⟨w, m, as, xw, M, r, h⟩ := h
    unfold bltD at h
    split at h
    all_goals first
      | (rename_i hh; cases hh; done)
      | skip
    · exact absurd h id
  | repr_ =>
    intro pins s σ H xs us Q I rs h
    obtain ⟨w, m, as, xw, M, r, h⟩ := h
    unfold bltD at h
    split at h
    all_goals first
      | (rename_i hh; cases hh; done)
      | skip
    · exact absurd h id

/-! ### methods of lists -/
def Bm.ty : Bm → String
  | .append => "list" | .index => "list"
def Bm.nm : Bm → Str
  | .append => "append" | .index => "index"
def Bm.id : Bm → String
  | .append => "list.append" | .index => "list.index"
def rBm (g : Gm) (b : Bm) (obj : Bool) : V → List V → Hp → VK → Prop := fun x vs H Q => ∃ w m o as xw, Mem g w H m ∧ Rv g w o x ∧ Rvs g w as vs ∧ PostE g w xw Q (bmD b obj o as m)
theorem MtR.imp {id : String} {r r' : V → List V → Hp → VK → Prop} (h : MtR X id r) (k : ∀ x xs H Q, r' x xs H Q → r x xs H Q) : MtR X id r' :=
  fun pins s σ H x xs v us Q I rx rs q => h pins s σ H x xs v us Q I rx rs (k _ _ _ _ q)
theorem szOk_lt {n : Nat} (h : szOk (n + 1) = true) : n < sizeLine := sl_szOk h
theorem intsOf_cons {d : D} {ds : List D} {ns : List Int} (e : intsOf (d :: ds) = some ns) : ∃ i ms, d = .int i ∧ intsOf ds = some ms ∧ ns = i :: ms := by
  unfold intsOf at e
  rw [List.mapM_cons] at e
  cases d with
  | int i =>
    cases q : ds.mapM isInt with
    | none => rw [q] at e; simp [isInt] at e
    | some ms =>
      rw [q] at e
      simp [isInt] at e
      exact ⟨i, ms, rfl, q, e.symm⟩
  | _ => simp [isInt] at e
theorem flat_ints (ns : List Int) : (ns.map V.int).all flatV = true := by
  rw [List.all_eq_true]
  intro x hx
  obtain ⟨i, _, rfl⟩ := List.mem_map.mp hx
  rfl
theorem mt_bm (hK : X.K = g.K) (b : Bm) (obj : Bool) : MtR X b.id (rBm g b obj) := by
  cases b with
  | append =>
    refine MtR.imp (r := rAppend) mt_append fun x vs H Q h => ?_
    obtain ⟨w, m, o, as, xw, M, ro, r, h⟩ := h
    unfold bmD at h
    split at h
    all_goals first
      | (rename_i hh; cases hh; done)
      | skip
    · obtain ⟨v, rfl, rv⟩ := r.one
      cases ro with
      | ref n hn =>
        split at h
        · rename_i xs e
          split at h
          · rename_i hz
            obtain ⟨us, h1, r1⟩ := M.ob _ _ e
            refine ⟨_, us, v, rfl, rfl, h1, by rw [← r1.length]; exact szOk_lt hz, ?_⟩
            have M' := M.write (o := .lst (us ++ [v])) (u := .lst (xs ++ [_])) e trivial trivial ⟨us ++ [v], upd_same, r1.append (.cons rv .nil)⟩
            exact h w .non _ (Wd.le.refl w) M' .non
          · exact absurd h id
        · exact absurd h id
    · exact absurd h id
  | index =>
    refine MtR.imp mt_index fun x vs H Q h => ?_
    rw [hK]
    obtain ⟨w, m, o, as, xw, M, ro, r, h⟩ := h
    unfold bmD at h
    split at h
    all_goals first
      | (rename_i hh; cases hh; done)
      | skip
    · obtain ⟨v, rfl, rv⟩ := r.one
      cases rv
      rename_i i hh0
      split at h
      · rename_i xs e
        split at h
        · rename_i ns e2
          split at h
          · rename_i k e3
            obtain ⟨a, us, rfl, h1, r1⟩ := lstOf_rel M ro e
            have e4 := Rvs.ints e2 r1
            subst e4
            obtain ⟨hk, hb, hn⟩ := List.findIdx?_eq_some_iff_getElem.mp e3
            have hi : ns[k] = i := by simpa using hb
            refine ⟨a, _, .int i, k, .int i, rfl, rfl, h1, rfl, flat_ints ns, ?_, by simp [eqV], ?_, ok_same h M (.int _)⟩
            · rw [List.getElem?_map, List.getElem?_eq_getElem hk, hi]; rfl
            · intro j z hj hz
              rw [List.getElem?_map] at hz
              have hjl : j < ns.length := Nat.lt_trans hj hk
              rw [List.getElem?_eq_getElem hjl] at hz
              cases hz
              have := hn j hj
              simpa [eqV] using this
          · exact absurd h id
        · exact absurd h id
      · exact absurd h id
    · exact absurd h id

end R

/-! RSnd4: expressions: what R does with a tree is what the model does with the row's tree. -/
namespace R
open PySem PySem.Spec PyProof.Rows L2

/-- the names of a program's functions, classes, attributes, methods -/
structure Cf where
  fnl : List (Option Str)
  cnl : List (Option Str)
  mnl : List Str
  atl : List Str
def Cf.fnm (c : Cf) (f : Nat) : Option Str := c.fnl.getD f none
def Cf.cnm (c : Cf) (f : Nat) : Option Str := c.cnl.getD f none
def Cf.mnm (c : Cf) (f : Nat) : Str := c.mnl.getD f ""
def Cf.natt (c : Cf) : Nat := c.atl.length
/-- the attributes' names; beyond them such as no text of a program has -/
def attOf (l : List Str) (n : Nat) : Str := l.getD n ⟨#[n + 2000000]⟩
/-- all that stays -/
structure En where
  g : Gm
  cf : Cf
  p : Pg
  c : Calls
  lv : Nat
  P : Program
  w : World
  base : Heap

def Bt.nm : Bt → Str
  | .len => "len" | .int_ => "int" | .abs_ => "abs" | .min2 => "min" | .max2 => "max" | .min1 => "min" | .max1 => "max"
  | .sum_ => "sum" | .list_ => "list" | .tuple_ => "tuple" | .str_ => "str" | .ord_ => "ord" | .repr_ => "repr"
def Bt.isTy : Bt → Bool
  | .int_ | .list_ | .tuple_ | .str_ => true
  | _ => false
theorem Bt.boot (b : Bt) : bootBuiltins b.nm = some b.val := by cases b <;> decide +kernel

/-- a def's promise: what R says of it -/
def spR (E : En) (f : Nat) : Sp := fun vs H Q xk => ∃ w m as, Mem E.g w H m ∧ Rvs E.g w as vs ∧ PostE E.g w xk Q (E.c f as m)
structure FnR (E : En) (f : Nat) (fa : Addr) : Prop where
  ok : ∃ (fd : FuncData) (ps : List Str), Binds E.g.K fd ps [] ∧ FnOk E.P E.w E.g.K E.g.mg E.base (L2.CX E.P E.w) E.lv fa fd ps (spR E f)
structure Gok (E : En) : Prop where
  att : E.g.att = attOf E.cf.atl
  inj : ∀ a b, E.g.att a = E.g.att b → a = b
  blt : ∀ b : Bt, E.g.mg b.nm = none
  rng : E.g.mg "range" = none
  zip : E.g.mg "zip" = none
  enum : E.g.mg "enumerate" = none
  fn : ∀ f x, E.cf.fnm f = some x → ∃ fa, E.g.mg x = some (.ref fa) ∧ PySem.W.keepIn E.g.K (.ref fa) = true ∧ FnR E f fa
  cls : ∀ C, C < E.g.ncls → Cls E.g.K (E.g.cad C) ∧ ∀ f, f < E.cf.natt → NoAttr E.g.K (E.g.cad C) (E.g.att f)
  ncl : ∀ C cd, E.p.cls[C]? = some cd → C < E.g.ncls
  mth : ∀ C cd k f, E.p.cls[C]? = some cd → cd.meths.lookup k = some f → ∃ fa, Meth E.g.K (E.g.cad C) (E.cf.mnm k) fa ∧ FnR E f fa
  mat : ∀ a k, E.g.att a ≠ E.cf.mnm k
  mkc : ∀ C cd x, E.p.cls[C]? = some cd → E.cf.cnm C = some x → ∃ fa, E.g.mg x = some (.ref (E.g.cad C)) ∧ Mk E.g.K (E.g.cad C) fa ∧ FnR E cd.init fa
structure Cok (E : En) (N : List Str) (sc : Scope) (X : Cx) : Prop where
  K : X.K = E.g.K
  mg : X.mg = E.g.mg
  P : X.prog = E.P
  w : X.w = E.w
  base : X.base = E.base
  Ns : X.N = N
  sc : X.env.scope = sc
  nd : N.Nodup
  room : Room (E.lv + 1) X.A
  calm : X.calm = true
variable {E : En} {N : List Str} {sc : Scope} {X : Cx} {W : WX}

theorem Cok.blk (C : Cok E N sc X) {s : Shared} {H : Hp} {scope : Scope} {cl : List (Str × Addr)} {A : Addr} {fp : List Addr} : Cok E N (relS scope sc) (X.blk s H scope (compEnvC scope cl A X.env) fp) :=
  ⟨C.K, C.mg, C.P, C.w, C.base, C.Ns, by rw [← C.sc]; rfl, C.nd, C.room, C.calm⟩

/-! ### readings -/
abbrev xwOf (W : WX) (σ : L2.St) : XW := fun cls d H => W cls d σ H
def rdOf {α β : Type} (Rl : Wd → α → β → Prop) (E : En) (W : WX) (f : List (Option D) → Mm → Res Mm α) : L2.St → Hp → (β → Hp → Prop) → Prop := fun σ H Q =>
  ∃ w sl m, Mem E.g w H m ∧ Slr E.g w sl σ ∧ Post Rl E.g w (xwOf W σ) Q (f sl m)
abbrev rdE (E : En) (W : WX) (e : ME) : TE := rdOf (Rv E.g) E W (evalE E.p E.c e)
abbrev rdEs (E : En) (W : WX) (es : List ME) : TA := rdOf (Rvs E.g) E W (evalEs E.p E.c es)
abbrev rdO (E : En) (W : WX) (o : Option ME) : TO := rdOf (fun _ (a b : Option Int) => a = b) E W (evalO E.p E.c o)
def evalT (p : Pg) (c : Calls) (e : ME) (sl : List (Option D)) (h : Mm) : Res Mm Bool := (evalE p c e sl h).bind fun x h => match truthD h x with | some b => .ok b h | none => .bad
abbrev rdT (E : En) (W : WX) (e : ME) : TT := rdOf (fun _ (a b : Bool) => a = b) E W (evalT E.p E.c e)
def JE (E : En) (N : List Str) (sc : Scope) (me : ME) (e : Expr) : Prop := ∀ (X : Cx) (W : WX), Cok E N sc X → Takes X W → PE X e (rdE E W me)
def JT (E : En) (N : List Str) (sc : Scope) (me : ME) (e : Expr) : Prop := ∀ (X : Cx) (W : WX), Cok E N sc X → Takes X W → PT X e (rdT E W me)
def JEs (E : En) (N : List Str) (sc : Scope) (me : List ME) (e : List Expr) : Prop := ∀ (X : Cx) (W : WX), Cok E N sc X → Takes X W → PA X e (rdEs E W me)
def JO (E : En) (N : List Str) (sc : Scope) (me : Option ME) (e : Option Expr) : Prop := ∀ (X : Cx) (W : WX), Cok E N sc X → Takes X W → PO X e (rdO E W me)

theorem PE.imp {e : Expr} {t t' : TE} (h : PE X e t) (k : ∀ σ H Q, t' σ H Q → t σ H Q) : PE X e t' := ⟨fun pins s σ H Q I q => h.run pins s σ H Q I (k _ _ _ q)⟩
theorem PT.imp {e : Expr} {t t' : TT} (h : PT X e t) (k : ∀ σ H Q, t' σ H Q → t σ H Q) : PT X e t' := ⟨fun pins s σ H Q I q => h.run pins s σ H Q I (k _ _ _ q)⟩
theorem PA.imp {e : List Expr} {t t' : TA} (h : PA X e t) (k : ∀ σ H Q, t' σ H Q → t σ H Q) : PA X e t' := ⟨fun pos pins s σ H Q I q => h.run pos pins s σ H Q I (k _ _ _ q)⟩
theorem PO.imp {e : Option Expr} {t t' : TO} (h : PO X e t) (k : ∀ σ H Q, t' σ H Q → t σ H Q) : PO X e t' := ⟨fun pins s σ H Q I q => h.run pins s σ H Q I (k _ _ _ q)⟩

/-- the reading of one part, what follows taken up -/
theorem rd_bind {α β γ δ : Type} {Rl : Wd → α → β → Prop} {Rl' : Wd → γ → δ → Prop} {σ : L2.St} {H : Hp} {Q : β → Hp → Prop} {Q' : δ → Hp → Prop} {w : Wd} {sl : List (Option D)} {m : Mm} {r : List (Option D) → Mm → Res Mm γ} {f : γ → Mm → Res Mm α}
    (M : Mem E.g w H m) (S : Slr E.g w sl σ) (h : Post Rl E.g w (xwOf W σ) Q ((r sl m).bind f))
    (k : ∀ d m' w' v H', w.le w' → Mem E.g w' H' m' → Slr E.g w' sl σ → Rl' w' d v → Post Rl E.g w' (xwOf W σ) Q (f d m') → Q' v H') : rdOf Rl' E W r σ H Q' :=
  ⟨w, sl, m, M, S, Post.bind h fun d m' _ w' v H' le M' rv q => k d m' w' v H' le M' (S.mono le) rv q⟩

/-! ### side conditions -/
def notStar : Expr → Bool
  | .Starred _ _ => false
  | _ => true
theorem starEach_of {e : Expr} {es : List Expr} {env : Env} (h : notStar e = true) : starEach (e :: es) env = (false, eval e env) :: starEach es env := by
  cases e <;> first | rfl | cases h
def notStars (es : List Expr) : Bool := es.all notStar
theorem plain_of : ∀ {es : List Expr} {env : Env} {pos : Pos}, notStars es = true → (backTo pos (starEach es env)).any (·.1) = false
  | [], _, _, _ => rfl
  | e :: es, env, pos, h => by
    unfold notStars at h
    rw [List.all_cons, Bool.and_eq_true] at h
    rw [starEach_of h.1]
    show (false || (backTo pos (starEach es env)).any (·.1)) = false
    rw [plain_of (es := es) h.2]; rfl
def notSuper : Expr → Bool
  | .Call (.Name _ _) [] [] _ => false
  | _ => true
theorem base_of {o : Expr} {a : Str} {env : Env} {t : Sem Value} (h : notSuper o = true) : attributeBase o a env t = t := by
  unfold attributeBase
  split
  · cases h
  · rfl
def notComp : Expr → Bool
  | .ListComp _ _ _ _ => false
  | .SetComp _ _ _ _ => false
  | .DictComp _ _ _ _ _ => false
  | _ => true
theorem swaps_of {e : Expr} {t : Option Expr} {l : Nat} {env : Env} (h : notComp e = true) : swapsWith e t l env = pure false := by
  cases e <;> first | rfl | cases h
def plainTest : Expr → Bool
  | .BoolOp _ _ _ => false
  | .Compare _ _ _ _ => false
  | .UnaryOp .Not _ _ => false
  | .IfExp _ _ _ _ => false
  | _ => true
end R

/-! RSnd5: one rule a form of expression. -/
namespace R
open PySem PySem.Spec PyProof.Rows L2
variable {E : En} {N : List Str} {sc : Scope} {a b : ME} {ea eb : Expr} {pos : Pos}

/-- what a name is, in a scope -/
def visB (sc : Scope) (x : Str) : Bool := match sc.names.lookup x with
  | some .local => true | some .cell => true | some .free => true | _ => false
theorem vis_of {sc : Scope} {x : Str} (h : visB sc x = true) : Vis sc x := by
  unfold visB at h
  unfold Vis
  split at h <;> first | (cases h; done) | skip
  · exact .inl (by assumption)
  · exact .inr (.inl (by assumption))
  · exact .inr (.inr (by assumption))
def glB (sc : Scope) (x : Str) : Bool := match sc.names.lookup x with
  | some .globalImplicit => true | _ => false
theorem gl_of {X : Cx} {x : Str} (h : glB X.env.scope x = true) : Gl X x := by
  unfold glB at h
  split at h
  · assumption
  · cases h
def nmOk (x : Str) : Bool := !(x == ("__debug__" : Str)) && !(x == ("__classdict__" : Str))
theorem nmOk_of {x : Str} (h : nmOk x = true) : (x == ("__debug__" : Str)) = false ∧ (x == ("__classdict__" : Str)) = false := by
  unfold nmOk at h
  simpa [Bool.and_eq_true] using h

theorem je_var {i : Nat} {x : Str} (h1 : N[i]? = some x) (h2 : visB sc x = true) (h3 : nmOk x = true) : JE E N sc (.var i) (.Name x pos) := fun X W C tk => by
  refine PE.imp (pe_var (X := X) (i := i) (by rw [C.Ns]; exact h1) (by rw [C.sc]; exact vis_of h2) (nmOk_of h3).1 (nmOk_of h3).2) fun σ H Q h => ?_
  obtain ⟨w, sl, m, M, S, h⟩ := h
  unfold evalE at h
  split at h
  · rename_i d e
    obtain ⟨v, hv, r⟩ := S.at_ i d e
    exact ⟨v, hv, ok_same h M r⟩
  · exact absurd h id
theorem je_non {k : Nat} : JE E N sc (.lit .non) (.Constant .none k pos) := fun X W C tk => PE.imp pe_non fun σ H Q ⟨w, sl, m, M, S, h⟩ => by
  unfold evalE at h
  exact ok_same h M .non
theorem je_bl {k : Nat} {b : Bool} : JE E N sc (.lit (.bl b)) (.Constant (.bool b) k pos) := fun X W C tk => PE.imp pe_bl fun σ H Q ⟨w, sl, m, M, S, h⟩ => by
  unfold evalE at h
  exact ok_same h M (.bl b)
theorem je_int {k : Nat} {i : Int} : JE E N sc (.lit (.int i)) (.Constant (.int i) k pos) := fun X W C tk => PE.imp pe_int fun σ H Q ⟨w, sl, m, M, S, h⟩ => by
  unfold evalE at h
  exact ok_same h M (.int i)
theorem je_str {k : Nat} {x : Str} : JE E N sc (.lit (.str x)) (.Constant (.str x) k pos) := fun X W C tk => PE.imp pe_str fun σ H Q ⟨w, sl, m, M, S, h⟩ => by
  unfold evalE at h
  exact ok_same h M (.str x)
theorem je_bin (ha : JE E N sc a ea) (hb : JE E N sc b eb) (o : Op) (obj : Bool) : JE E N sc (.bin o obj a b) (.BinOp ea o.py eb pos) := fun X W C tk => by
  refine PE.imp (pe_op (op_bin (g := E.g) o obj) (ha X W C tk) (hb X W C tk)) fun σ H Q h => ?_
  obtain ⟨w, sl, m, M, S, h⟩ := h
  unfold evalE at h
  refine rd_bind M S h fun d m1 w1 v H1 le1 M1 S1 r1 h1 => ?_
  refine rd_bind M1 S1 h1 fun e m2 w2 u H2 le2 M2 S2 r2 h2 => ?_
  exact ⟨w2, m2, d, e, _, M2, r1.mono le2, r2, h2⟩
theorem je_neg (ha : JE E N sc a ea) : JE E N sc (.neg a) (.UnaryOp .USub ea pos) := fun X W C tk => by
  refine PE.imp (pe_un un_neg (ha X W C tk)) fun σ H Q h => ?_
  obtain ⟨w, sl, m, M, S, h⟩ := h
  unfold evalE at h
  refine rd_bind M S h fun d m1 w1 v H1 le1 M1 S1 r1 h1 => ?_
  split at h1
  · cases r1
    exact ⟨_, rfl, ok_same h1 M1 (.int _)⟩
  · exact absurd h1 id
theorem je_cmp (ha : JE E N sc a ea) (hb : JE E N sc b eb) (c : Cm) : JE E N sc (.cmp c a b) (.Compare ea [c.py] [eb] pos) := fun X W C tk => by
  have hu : X.A.units + 64 < cLine := C.room.units
  have hm : behindInMarks c.py eb = false := by
    cases c <;> exact nomark _ (by decide) (by decide)
  refine PE.imp (pe_cmpR (op_cmp (g := E.g) hu C.K c) (ha X W C tk) (hb X W C tk) hm) fun σ H Q h => ?_
  obtain ⟨w, sl, m, M, S, h⟩ := h
  unfold evalE at h
  refine rd_bind M S h fun d m1 w1 v H1 le1 M1 S1 r1 h1 => ?_
  refine rd_bind M1 S1 h1 fun e m2 w2 u H2 le2 M2 S2 r2 h2 => ?_
  split at h2
  · rename_i k ek
    exact ⟨w2, m2, d, e, k, M2, r1.mono le2, r2, ek, ok_same h2 M2 (.bl k)⟩
  · exact absurd h2 id
theorem jt_cmp (ha : JE E N sc a ea) (hb : JE E N sc b eb) (c : Cm) : JT E N sc (.cmp c a b) (.Compare ea [c.py] [eb] pos) := fun X W C tk => by
  have hu : X.A.units + 64 < cLine := C.room.units
  have hm : behindInMarks c.py eb = false := by
    cases c <;> exact nomark _ (by decide) (by decide)
  refine PT.imp (pt_cmpR (op_cmp (g := E.g) hu C.K c) (ha X W C tk) (hb X W C tk) hm) fun σ H Q h => ?_
  obtain ⟨w, sl, m, M, S, h⟩ := h
  have h : Post _ _ _ _ _ ((evalE E.p E.c (.cmp c a b) sl m).bind _) := h
  unfold evalE at h
  cases q1 : evalE E.p E.c a sl m with
  | bad => rw [q1] at h; exact absurd h id
  | exn C p m1 =>
    rw [q1] at h
    exact ⟨w, sl, m, M, S, by rw [q1]; exact h⟩
  | ok d m1 =>
    rw [q1] at h
    refine ⟨w, sl, m, M, S, ?_⟩
    rw [q1]
    intro w1 v H1 le1 M1 r1
    cases q2 : evalE E.p E.c b sl m1 with
    | bad => rw [Res.bind_ok, q2] at h; exact absurd h id
    | exn C p m2 =>
      rw [Res.bind_ok, q2] at h
      exact ⟨w1, sl, m1, M1, S.mono le1, by rw [q2]; exact Post.mono le1 h⟩
    | ok e m2 =>
      rw [Res.bind_ok, q2, Res.bind_ok] at h
      refine ⟨w1, sl, m1, M1, S.mono le1, ?_⟩
      rw [q2]
      intro w2 u H2 le2 M2 r2
      cases q3 : cmpD c m2 d e with
      | none => rw [q3] at h; exact absurd h id
      | some k =>
        rw [q3] at h
        exact ⟨w2, m2, d, e, k, M2, r1.mono le2, r2, q3, k, rfl, h w2 k H2 (le1.trans le2) M2 rfl⟩
theorem je_isn (ha : JE E N sc a ea) {k : Nat} {p : Pos} : JE E N sc (.isn false a) (.Compare ea [.Is] [.Constant .none k p] pos) := fun X W C tk => by
  refine PE.imp (pe_cmp (pc_isN (ha X W C tk)) rfl) fun σ H Q h => ?_
  obtain ⟨w, sl, m, M, S, h⟩ := h
  unfold evalE at h
  refine rd_bind M S h fun d m1 w1 v H1 le1 M1 S1 r1 h1 => ?_
  cases r1 <;> exact ok_same h1 M1 (.bl _)
theorem je_isnn (ha : JE E N sc a ea) {k : Nat} {p : Pos} : JE E N sc (.isn true a) (.Compare ea [.IsNot] [.Constant .none k p] pos) := fun X W C tk => by
  refine PE.imp (pe_cmp (pc_notN (ha X W C tk)) rfl) fun σ H Q h => ?_
  obtain ⟨w, sl, m, M, S, h⟩ := h
  unfold evalE at h
  refine rd_bind M S h fun d m1 w1 v H1 le1 M1 S1 r1 h1 => ?_
  cases r1 <;> exact ok_same h1 M1 (.bl _)
theorem jt_of_bl (h : ∀ X W, Cok E N sc X → Takes X W → PT X ea (fun σ H Q => rdE E W a σ H fun x H1 => ∃ k, x = .bl k ∧ Q k H1)) (hb : ∀ sl m d m1, evalE E.p E.c a sl m = .ok d m1 → ∃ k, d = .bl k) : JT E N sc a ea := fun X W C tk => by
  refine PT.imp (h X W C tk) fun σ H Q h => ?_
  obtain ⟨w, sl, m, M, S, h⟩ := h
  have h : Post _ _ _ _ _ ((evalE E.p E.c a sl m).bind _) := h
  refine ⟨w, sl, m, M, S, ?_⟩
  cases q1 : evalE E.p E.c a sl m with
  | bad => rw [q1] at h; exact absurd h id
  | exn C p m1 => rw [q1] at h; exact h
  | ok d m1 =>
    rw [q1] at h
    intro w1 v H1 le1 M1 r1
    obtain ⟨k, rfl⟩ := hb sl m d m1 q1
    cases r1
    exact ⟨k, rfl, h w1 k H1 le1 M1 rfl⟩
theorem isn_bl {ng : Bool} : ∀ sl m d m1, evalE E.p E.c (.isn ng a) sl m = .ok d m1 → ∃ k, d = .bl k := fun sl m d m1 h => by
  unfold evalE at h
  cases q : evalE E.p E.c a sl m with
  | bad => rw [q] at h; cases h
  | exn C p m1 => rw [q] at h; cases h
  | ok x m1 =>
    rw [q, Res.bind_ok] at h
    split at h <;> (cases h; exact ⟨_, rfl⟩)
theorem jt_isn (ha : JE E N sc a ea) {k : Nat} {p : Pos} : JT E N sc (.isn false a) (.Compare ea [.Is] [.Constant .none k p] pos) :=
  jt_of_bl (fun X W C tk => PT.imp (pt_cmp (pc_isN (ha X W C tk)) rfl) fun σ H Q h => by
    obtain ⟨w, sl, m, M, S, h⟩ := h
    unfold evalE at h
    refine rd_bind M S h fun d m1 w1 v H1 le1 M1 S1 r1 h1 => ?_
    cases r1 <;> exact ok_same (Q := fun x H1 => ∃ k, x = .bl k ∧ Q k H1) h1 M1 (.bl _)) isn_bl
theorem jt_isnn (ha : JE E N sc a ea) {k : Nat} {p : Pos} : JT E N sc (.isn true a) (.Compare ea [.IsNot] [.Constant .none k p] pos) :=
  jt_of_bl (fun X W C tk => PT.imp (pt_cmp (pc_notN (ha X W C tk)) rfl) fun σ H Q h => by
    obtain ⟨w, sl, m, M, S, h⟩ := h
    unfold evalE at h
    refine rd_bind M S h fun d m1 w1 v H1 le1 M1 S1 r1 h1 => ?_
    cases r1 <;> exact ok_same (Q := fun x H1 => ∃ k, x = .bl k ∧ Q k H1) h1 M1 (.bl _)) isn_bl
/-- a test by its value's truth -/
theorem plain_isTrue {e : Expr} {env : Env} (h : plainTest e = true) : ∀ whole, isTrue e env whole = (do let v ← whole; standAt e.pos; holding [v] (truthy v)) := by
  intro whole
  cases e with
  | UnaryOp op x p => cases op <;> first | rfl | cases h
  | _ => first | rfl | cases h
theorem jt_val (ha : JE E N sc a ea) (h : plainTest ea = true) : JT E N sc a ea := fun X W C tk => by
  refine PT.imp (pt_truth (ha X W C tk) (plain_isTrue h)) fun σ H Q h => ?_
  obtain ⟨w, sl, m, M, S, h⟩ := h
  refine rd_bind (f := fun x h => match truthD h x with | some b => .ok b h | none => .bad) M S h fun d m1 w1 v H1 le1 M1 S1 r1 h1 => ?_
  split at h1
  · rename_i b e
    exact ⟨b, by rw [C.K]; exact truthD_rel M1 r1 e, h1 w1 b H1 (Wd.le.refl _) M1 rfl⟩
  · exact absurd h1 id
/-- not, and, or -/
theorem je_not (ha : JE E N sc a ea) : JE E N sc (.not_ a) (.UnaryOp .Not ea pos) := fun X W C tk => by
  refine PE.imp (pe_notT (ha X W C tk)) fun σ H Q h => ?_
  obtain ⟨w, sl, m, M, S, h⟩ := h
  unfold evalE at h
  refine rd_bind M S h fun d m1 w1 v H1 le1 M1 S1 r1 h1 => ?_
  split at h1
  · rename_i b e
    exact ⟨b, by rw [C.K]; exact truthD_rel M1 r1 e, ok_same h1 M1 (.bl _)⟩
  · exact absurd h1 id
theorem jt_not (ha : JT E N sc a ea) : JT E N sc (.not_ a) (.UnaryOp .Not ea pos) := fun X W C tk => by
  refine PT.imp (pt_not (ha X W C tk)) fun σ H Q h => ?_
  obtain ⟨w, sl, m, M, S, h⟩ := h
  have h : Post _ _ _ _ _ ((evalE E.p E.c (.not_ a) sl m).bind _) := h
  unfold evalE at h
  refine ⟨w, sl, m, M, S, ?_⟩
  show Post _ _ _ _ _ (evalT E.p E.c a sl m)
  unfold evalT
  cases q1 : evalE E.p E.c a sl m with
  | bad => rw [q1] at h; exact absurd h id
  | exn C p m1 => rw [q1] at h; exact h
  | ok d m1 =>
    rw [q1, Res.bind_ok] at h
    rw [Res.bind_ok]
    cases q2 : truthD m1 d with
    | none => rw [q2] at h; exact absurd h id
    | some b =>
      rw [q2] at h
      intro w1 v H1 le1 M1 r1
      subst r1
      exact h w1 (!b) H1 le1 M1 rfl
abbrev boOp : Bool → BoolOp
  | true => .And | false => .Or
theorem je_bop1 {conj : Bool} (ha : JE E N sc a ea) : JE E N sc (.bop conj [a]) (.BoolOp (boOp conj) [ea] pos) := fun X W C tk => by
  refine PE.imp (pe_one (ha X W C tk)) fun σ H Q h => ?_
  obtain ⟨w, sl, m, M, S, h⟩ := h
  refine ⟨w, sl, m, M, S, ?_⟩
  unfold evalE evalB at h
  exact h
theorem je_bop {conj : Bool} {b : ME} {es : List ME} {eb : Expr} {ees : List Expr} (ha : JE E N sc a ea) (hb : JE E N sc (.bop conj (b :: es)) (.BoolOp (boOp conj) (eb :: ees) pos)) :
    JE E N sc (.bop conj (a :: b :: es)) (.BoolOp (boOp conj) (ea :: eb :: ees) pos) := fun X W C tk => by
  have core : ∀ (σ : L2.St) (H : Hp) (Q : VK), rdE E W (.bop conj (a :: b :: es)) σ H Q → rdE E W a σ H fun x H1 => ∃ k, TruV X.K x H1 k ∧ if k = conj then rdE E W (.bop conj (b :: es)) σ H1 Q else Q x H1 := by
    intro σ H Q h
    obtain ⟨w, sl, m, M, S, h⟩ := h
    unfold evalE evalB at h
    refine rd_bind M S h fun d m1 w1 v H1 le1 M1 S1 r1 h1 => ?_
    split at h1
    · rename_i k e
      refine ⟨k, by rw [C.K]; exact truthD_rel M1 r1 e, ?_⟩
      by_cases hk : k = conj
      · rw [if_pos hk] at h1 ⊢
        exact ⟨w1, sl, m1, M1, S1, by unfold evalE; exact h1⟩
      · rw [if_neg hk] at h1 ⊢
        exact ok_same h1 M1 r1
    · exact absurd h1 id
  have up : ∀ (σ : L2.St) (H : Hp) (Q Q' : VK), (∀ v H, Q v H → Q' v H) → rdE E W a σ H Q → rdE E W a σ H Q' := fun σ H Q Q' k ⟨w, sl, m, M, S, h⟩ => ⟨w, sl, m, M, S, Post.imp k h⟩
  cases conj with
  | true =>
    refine PE.imp (pe_andT (ha X W C tk) (hb X W C tk)) fun σ H Q h => up σ H _ _ (fun v H1 ⟨k, t, q⟩ => ⟨k, t, q⟩) (core σ H Q h)
  | false =>
    refine PE.imp (pe_orT (ha X W C tk) (hb X W C tk)) fun σ H Q h => up σ H _ _ (fun v H1 ⟨k, t, q⟩ => ⟨k, t, ?_⟩) (core σ H Q h)
    cases k with
    | true => exact q
    | false => exact q
theorem jt_bop1 {conj : Bool} (ha : JT E N sc a ea) : ∀ X W, Cok E N sc X → Takes X W → PW X (.BoolOp (boOp conj) [ea] pos) (rdT E W (.bop conj [a])) := fun X W C tk => by
  have up : ∀ (σ : L2.St) (H : Hp) (Q : Bool → Hp → Prop), rdT E W (.bop conj [a]) σ H Q → rdT E W a σ H Q := fun σ H Q ⟨w, sl, m, M, S, h⟩ => ⟨w, sl, m, M, S, by
    unfold evalT at h ⊢
    unfold evalE evalB at h
    exact h⟩
  cases conj with
  | true => exact ⟨fun wh pins s σ H Q I h => (pw_and1 (ha X W C tk)).run wh pins s σ H Q I (up σ H Q h)⟩
  | false => exact ⟨fun wh pins s σ H Q I h => (pw_or1 (ha X W C tk)).run wh pins s σ H Q I (up σ H Q h)⟩
theorem jt_bop {conj : Bool} {b : ME} {es : List ME} {eb : Expr} {ees : List Expr} (ha : JT E N sc a ea) (hb : ∀ X W, Cok E N sc X → Takes X W → PW X (.BoolOp (boOp conj) (eb :: ees) pos) (rdT E W (.bop conj (b :: es)))) :
    ∀ X W, Cok E N sc X → Takes X W → PW X (.BoolOp (boOp conj) (ea :: eb :: ees) pos) (rdT E W (.bop conj (a :: b :: es))) := fun X W C tk => by
  have core : ∀ (σ : L2.St) (H : Hp) (Q : Bool → Hp → Prop), rdT E W (.bop conj (a :: b :: es)) σ H Q → rdT E W a σ H fun k H1 => if k = conj then rdT E W (.bop conj (b :: es)) σ H1 Q else Q k H1 := by
    intro σ H Q h
    obtain ⟨w, sl, m, M, S, h⟩ := h
    refine ⟨w, sl, m, M, S, ?_⟩
    have h : Post _ _ _ _ _ ((evalE E.p E.c (.bop conj (a :: b :: es)) sl m).bind _) := h
    unfold evalE evalB at h
    show Post _ _ _ _ _ (evalT E.p E.c a sl m)
    unfold evalT
    cases q1 : evalE E.p E.c a sl m with
    | bad => rw [q1] at h; exact absurd h id
    | exn C p m1 => rw [q1] at h; exact h
    | ok d m1 =>
      rw [q1, Res.bind_ok] at h
      rw [Res.bind_ok]
      cases q2 : truthD m1 d with
      | none => rw [q2] at h; exact absurd h id
      | some k =>
        rw [q2] at h
        intro w1 v H1 le1 M1 r1
        subst r1
        dsimp only at h
        by_cases hk : k = conj
        · rw [if_pos hk] at h ⊢
          refine ⟨w1, sl, m1, M1, S.mono le1, Post.mono le1 ?_⟩
          unfold evalT evalE
          exact h
        · rw [if_neg hk, Res.bind_ok, q2] at h
          rw [if_neg hk]
          exact h w1 k H1 le1 M1 rfl
  have up : ∀ (σ : L2.St) (H : Hp) (Q Q' : Bool → Hp → Prop), (∀ v H, Q v H → Q' v H) → rdT E W a σ H Q → rdT E W a σ H Q' := fun σ H Q Q' k ⟨w, sl, m, M, S, h⟩ => ⟨w, sl, m, M, S, Post.imp k h⟩
  cases conj with
  | true => exact ⟨fun wh pins s σ H Q I h => (pw_and (ha X W C tk) (hb X W C tk)).run wh pins s σ H Q I (up σ H _ _ (fun k H1 q => by cases k <;> exact q) (core σ H Q h))⟩
  | false => exact ⟨fun wh pins s σ H Q I h => (pw_or (ha X W C tk) (hb X W C tk)).run wh pins s σ H Q I (up σ H _ _ (fun k H1 q => by cases k <;> exact q) (core σ H Q h))⟩
theorem je_ife {k : ME} {ek : Expr} (hk : JT E N sc k ek) (ha : JE E N sc a ea) (hb : JE E N sc b eb) : JE E N sc (.ife k a b) (.IfExp ek ea eb pos) := fun X W C tk => by
  refine PE.imp (pe_ifExp (hk X W C tk) (ha X W C tk) (hb X W C tk)) fun σ H Q h => ?_
  obtain ⟨w, sl, m, M, S, h⟩ := h
  unfold evalE at h
  refine ⟨w, sl, m, M, S, ?_⟩
  show Post _ _ _ _ _ (evalT E.p E.c k sl m)
  unfold evalT
  cases q1 : evalE E.p E.c k sl m with
  | bad => rw [q1] at h; exact absurd h id
  | exn C p m1 => rw [q1] at h; exact h
  | ok d m1 =>
    rw [q1, Res.bind_ok] at h
    rw [Res.bind_ok]
    cases q2 : truthD m1 d with
    | none => rw [q2] at h; exact absurd h id
    | some t =>
      rw [q2] at h
      intro w1 v H1 le1 M1 r1
      subst r1
      cases t with
      | true => exact ⟨w1, sl, m1, M1, S.mono le1, Post.mono le1 h⟩
      | false => exact ⟨w1, sl, m1, M1, S.mono le1, Post.mono le1 h⟩
/-! ### lists of expressions -/
theorem jes_nil : JEs E N sc [] [] := fun X W C tk => PA.imp pa_nil fun σ H Q ⟨w, sl, m, M, S, h⟩ => by
  unfold evalEs at h
  exact h w [] H (Wd.le.refl _) M .nil
theorem jes_cons {es : List ME} {ees : List Expr} (ha : JE E N sc a ea) (hs : notStar ea = true) (hr : JEs E N sc es ees) : JEs E N sc (a :: es) (ea :: ees) := fun X W C tk => by
  refine PA.imp (pa_cons (ha X W C tk) (hr X W C tk) (starEach_of hs)) fun σ H Q h => ?_
  obtain ⟨w, sl, m, M, S, h⟩ := h
  unfold evalEs at h
  refine rd_bind M S h fun d m1 w1 v H1 le1 M1 S1 r1 h1 => ?_
  refine rd_bind M1 S1 h1 fun ds m2 w2 vs H2 le2 M2 S2 r2 h2 => ?_
  exact h2 w2 _ H2 (Wd.le.refl _) M2 (.cons (r1.mono le2) r2)
theorem je_tup {es : List ME} {ees : List Expr} {k : Nat} (h : JEs E N sc es ees) : JE E N sc (.tup es) (.Tuple ees k pos) := fun X W C tk => by
  refine PE.imp (pe_tup (h X W C tk)) fun σ H Q h => ?_
  obtain ⟨w, sl, m, M, S, h⟩ := h
  unfold evalE at h
  refine rd_bind M S h fun ds m1 w1 vs H1 le1 M1 S1 r1 h1 => ?_
  exact mkT_post h1 M1 r1
theorem je_lst {es : List ME} {ees : List Expr} {obj : Bool} (h : JEs E N sc es ees) : JE E N sc (.lst obj es) (.List ees pos) := fun X W C tk => by
  refine PE.imp (pe_lst (h X W C tk)) fun σ H Q h => ?_
  obtain ⟨w, sl, m, M, S, h⟩ := h
  unfold evalE at h
  refine rd_bind M S h fun ds m1 w1 vs H1 le1 M1 S1 r1 h1 => ?_
  exact mkL_post h1 M1 r1
/-! ### items, slices -/
def plainIxB : Expr → Bool
  | .Slice _ _ _ _ => false
  | .Tuple _ _ _ => false
  | _ => true
theorem plainIx_of {e : Expr} (h : plainIxB e = true) : PlainIx e := by
  intro o i
  cases e <;> first | rfl | cases h
theorem je_idx (ha : JE E N sc a ea) (hb : JE E N sc b eb) (hp : plainIxB eb = true) : JE E N sc (.idx a b) (.Subscript ea eb pos) := fun X W C tk => by
  refine PE.imp (pe_ix (ix_idx (g := E.g) C.K) (ha X W C tk) (hb X W C tk) (plainIx_of hp)) fun σ H Q h => ?_
  obtain ⟨w, sl, m, M, S, h⟩ := h
  unfold evalE at h
  refine rd_bind M S h fun d m1 w1 v H1 le1 M1 S1 r1 h1 => ?_
  refine rd_bind M1 S1 h1 fun e m2 w2 u H2 le2 M2 S2 r2 h2 => ?_
  split at h2
  · rename_i x ex
    exact ⟨w2, m2, d, e, x, M2, r1.mono le2, r2, ex, fun v' rv => ok_same h2 M2 rv⟩
  · exact absurd h2 id
theorem jo_none : JO E N sc none none := fun X W C tk => PO.imp po_none fun σ H Q ⟨w, sl, m, M, S, h⟩ => by
  unfold evalO at h
  exact h w none H (Wd.le.refl _) M rfl
theorem jo_some (ha : JE E N sc a ea) : JO E N sc (some a) (some ea) := fun X W C tk => PO.imp (po_some (ha X W C tk)) fun σ H Q ⟨w, sl, m, M, S, h⟩ => by
  unfold evalO at h
  refine rd_bind M S h fun d m1 w1 v H1 le1 M1 S1 r1 h1 => ?_
  split at h1
  · cases r1
    exact ⟨_, rfl, h1 w1 (some _) H1 (Wd.le.refl _) M1 rfl⟩
  · exact absurd h1 id
theorem je_slc {lo hi : Option ME} {elo ehi : Option Expr} {obj : Bool} {p2 : Pos} (ha : JE E N sc a ea) (hl : JO E N sc lo elo) (hh : JO E N sc hi ehi) : JE E N sc (.slc obj a lo hi) (.Subscript ea (.Slice elo ehi none p2) pos) := fun X W C tk => by
  refine PE.imp (pe_slice sl_list (ha X W C tk) (hl X W C tk) (hh X W C tk)) fun σ H Q h => ?_
  obtain ⟨w, sl, m, M, S, h⟩ := h
  unfold evalE at h
  refine rd_bind M S h fun d m1 w1 v H1 le1 M1 S1 r1 h1 => ?_
  refine rd_bind (Rl' := fun _ (a b : Option Int) => a = b) M1 S1 h1 fun l m2 w2 l' H2 le2 M2 S2 r2 h2 => ?_
  refine rd_bind (Rl' := fun _ (a b : Option Int) => a = b) M2 S2 h2 fun u m3 w3 u' H3 le3 M3 S3 r3 h3 => ?_
  subst r2
  subst r3
  split at h3
  · rename_i xs ex
    obtain ⟨p, vs, rfl, hq, rs⟩ := lstOf_rel M3 (r1.mono (le2.trans le3)) ex
    refine ⟨p, vs, rfl, by rw [C.K]; exact hq, ?_⟩
    have q := mkL_post h3 M3 ((rs.drop (HT.sIx xs.length 0 l)).take (HT.sIx xs.length xs.length u - HT.sIx xs.length 0 l))
    unfold cutV
    rw [rs.length] at q
    exact q.2
  · exact absurd h3 id
theorem je_rev {obj : Bool} {k : Nat} {p1 p2 p3 : Pos} (ha : JE E N sc a ea) : JE E N sc (.rev obj a) (.Subscript ea (.Slice none none (some (.UnaryOp .USub (.Constant (.int 1) k p1) p2)) p3) pos) := fun X W C tk => by
  refine PE.imp (pe_revL (ha X W C tk)) fun σ H Q h => ?_
  obtain ⟨w, sl, m, M, S, h⟩ := h
  unfold evalE at h
  refine rd_bind M S h fun d m1 w1 v H1 le1 M1 S1 r1 h1 => ?_
  split at h1
  · rename_i xs ex
    obtain ⟨p, vs, rfl, hq, rs⟩ := lstOf_rel M1 r1 ex
    exact ⟨p, vs, rfl, by rw [C.K]; exact hq, (mkL_post h1 M1 rs.reverse).2⟩
  · exact absurd h1 id
end R

/-! RSnd6: calls. -/
namespace R
open PySem PySem.Spec PyProof.Rows L2
variable {E : En} {N : List Str} {sc : Scope} {a b : ME} {ea eb : Expr} {pos : Pos}

theorem Cok.fn {X : Cx} (C : Cok E N sc X) {f : Nat} {fa : Addr} (h : FnR E f fa) :
    ∃ (fd : FuncData) (ps : List Str), Binds X.K fd ps [] ∧ FnOk X.prog X.w X.K X.mg X.base (L2.CX X.prog X.w) E.lv fa fd ps (spR E f) := by
  obtain ⟨fd, ps, hb, F⟩ := h.ok
  refine ⟨fd, ps, by rw [C.K]; exact hb, ?_⟩
  rw [C.P, C.w, C.K, C.mg, C.base]
  exact F
theorem Cok.gl {X : Cx} (C : Cok E N sc X) {x : Str} (h : glB sc x = true) : Gl X x := gl_of (by rw [C.sc]; exact h)

/-! ### defs -/
theorem je_call (G : Gok E) {f : Nat} {x : Str} {p : Pos} {es : List ME} {e0 : Expr} {ees : List Expr} (hf : E.cf.fnm f = some x) (hg : glB sc x = true) (hn : nmOk x = true) (hs : notStars (e0 :: ees) = true) (h : JEs E N sc es (e0 :: ees)) :
    JE E N sc (.call f es) (.Call (.Name x p) (e0 :: ees) [] pos) := fun X W C tk => by
  obtain ⟨fa, hm, hk, hF⟩ := G.fn f x hf
  obtain ⟨fd, ps, hb, F⟩ := C.fn hF
  have hs2 : notStar e0 = true ∧ notStars ees = true := by
    unfold notStars at hs ⊢
    simpa [List.all_cons, Bool.and_eq_true] using hs
  refine PE.imp (pe_callS (E := fun σ => xwOf W σ) F (C.room.mono (Nat.le_succ _)) (C.gl hg) (by rw [C.mg]; exact hm) (by rw [C.K]; exact hk) hb (fun σ => passAt tk σ) (h X W C tk) (nmOk_of hn).1 (starEach_of hs2.1) (plain_of hs2.2)) fun σ H Q h => ?_
  obtain ⟨w, sl, m, M, S, h⟩ := h
  unfold evalE at h
  exact rd_bind M S h fun ds m1 w1 vs H1 le1 M1 S1 r1 h1 => ⟨w1, m1, ds, M1, r1, h1⟩
theorem je_call0 (G : Gok E) {f : Nat} {x : Str} {p : Pos} (hf : E.cf.fnm f = some x) (hg : glB sc x = true) (hn : nmOk x = true) :
    JE E N sc (.call f []) (.Call (.Name x p) [] [] pos) := fun X W C tk => by
  obtain ⟨fa, hm, hk, hF⟩ := G.fn f x hf
  obtain ⟨fd, ps, hb, F⟩ := C.fn hF
  refine ⟨fun pins s σ H Q I h => ?_⟩
  obtain ⟨w, sl, m, M, S, h⟩ := h
  unfold evalE evalEs at h
  refine wpAny_Call_Name_kw (ld_glob I (C.gl hg) (by rw [C.mg]; exact hm) ?_ (nmOk_of hn).1)
  refine PySem.W.callWith_K0 I.kIn (by rw [C.K]; exact hk) ?_
  exact run_fnS (us := []) (vs := []) (E := fun σ => xwOf W σ) F (C.room.mono (Nat.le_succ _)) hb (passAt tk σ) I .nil ⟨w, m, [], M, .nil, h⟩

/-! ### methods -/
theorem few_of {es : List Expr} {env : Env} {pos : Pos} (h : notStars es = true) (hl : es.length < 30) : methodCallForm (es.length + ([] : List Keyword).length) (backTo pos (starEach es env)) (backToKw pos (keywordEach [] env)) = true := by
  have h1 : ∀ {es : List Expr}, notStars es = true → (backTo pos (starEach es env)).all (!·.1) = true := by
    intro es
    induction es with
    | nil => intro _; rfl
    | cons e r ih =>
      intro h
      unfold notStars at h
      rw [List.all_cons, Bool.and_eq_true] at h
      rw [starEach_of h.1]
      show (true && (backTo pos (starEach r env)).all (!·.1)) = true
      rw [ih h.2]; rfl
  unfold methodCallForm
  rw [h1 h]
  show (true && true && decide (es.length + 0 + 0 < 30)) = true
  simpa using hl
theorem meth_tree {o : Expr} {m : Str} {args : List Expr} {apos pos : Pos} {env : Env} (h : notSuper o = true) (hs : notStars args = true) (hl : args.length < 30) (hp : (apos.endLine == pos.line) = true) : eval (.Call (.Attribute o m apos) args [] pos) env = (do
      let ov ← eval o env
      standAt apos.atName
      let (f, first) ← holding [ov] (getMethod ov m (do return (← importBound o env).getD true))
      callWith pos f first (backTo pos (starEach args env)) (backToKw pos (keywordEach [] env))) := by
  have e1 : eval (.Call (.Attribute o m apos) args [] pos) env = (do
      let ov ← attributeBase o m env (eval o env)
      standAt apos.atName
      methodCall o m apos pos env ov (args.length + ([] : List Keyword).length) (backTo pos (starEach args env)) (backToKw pos (keywordEach [] env))) := rfl
  rw [e1, base_of h]
  unfold methodCall
  rw [few_of hs hl]
  unfold methodCallPos
  rw [hp]
  rfl

/-- the arguments, then the call -/
theorem call_args {X : Cx} {pins : List (Addr × Obj)} {σ : L2.St} {H : Hp} {s : Shared} {Q : VK} {f : Value} {first : List Value} {e : Expr} {es : List Expr} {t : TA} (I : Inv X pins σ H s) (hk : PySem.W.keepIn X.K f = true) (hs : notStars (e :: es) = true) (ha : PA X (e :: es) t)
    (h : t σ H fun vs H2 => ∀ us s2, Inv X pins σ H2 s2 → Vals vs us → wpAny (model X.prog X.w) X.A (call f (first ++ us)) (EP X pins σ Q) X.xe s2) :
    wpAny (model X.prog X.w) X.A (callWith pos f first (backTo pos (starEach (e :: es) X.env)) (backToKw pos (keywordEach [] X.env))) (EP X pins σ Q) X.xe s := by
  have run := ha.run pos pins s σ H _ I h
  have hs2 : notStar e = true ∧ notStars es = true := by
    unfold notStars at hs ⊢
    simpa [List.all_cons, Bool.and_eq_true] using hs
  exact PySem.W.callWith_K (first := first) (h₀ := X.base) I.ok.mod.kin hk (thn run fun us s2 ⟨vs, H2, I2, r, q⟩ => ⟨I2.kIn, q us s2 I2 r⟩) (starEach_of hs2.1) (plain_of hs2.2)
/-- what the receiver of an own method is -/
def MethAt (E : En) (k f : Nat) (d : D) (x : V) (H : Hp) : Prop :=
  ∃ Ci p dx fvs fa, x = .ref p ∧ H p = some (.ins (E.g.cad Ci) dx fvs) ∧ fvs.lookup (E.cf.mnm k) = none ∧ Cls E.g.K (E.g.cad Ci) ∧ Meth E.g.K (E.g.cad Ci) (E.cf.mnm k) fa ∧ FnR E f fa
theorem meth_at (G : Gok E) {w : Wd} {H : Hp} {m : Mm} {k f Ci : Nat} {cd : CD} {d : D} {x : V} (M : Mem E.g w H m) (r : Rv E.g w d x) (ec : clsD m d = some Ci) (ecd : E.p.cls[Ci]? = some cd) (ef : cd.meths.lookup k = some f) : MethAt E k f d x H := by
  obtain ⟨hcl, _⟩ := G.cls Ci (G.ncl Ci cd ecd)
  obtain ⟨fa, hme, hF⟩ := G.mth Ci cd k f ecd ef
  cases r with
  | ins hc hi rf =>
    simp only [clsD] at ec
    cases ec
    exact ⟨_, _, _, _, fa, rfl, M.fr _ _ hi, rf.none G.inj fun a => G.mat a k, hcl, hme, hF⟩
  | ref n hn =>
    simp only [clsD] at ec
    split at ec
    · rename_i C' fs' em
      cases ec
      obtain ⟨_, dx, fvs, h1', rf⟩ := M.ob _ _ em
      exact ⟨_, _, dx, fvs, fa, rfl, h1', rf.none G.inj fun a => G.mat a k, hcl, hme, hF⟩
    · cases ec
  | _ => simp [clsD] at ec
/-- the receiver, then what follows -/
theorem meth_pre (G : Gok E) {k : Nat} {o : ME} {eo : Expr} {apos : Pos} {es : List ME} {ees : List Expr} (hso : notSuper eo = true) (hs : notStars ees = true) (hl : ees.length < 30) (hp : (apos.endLine == pos.line) = true) (ho : JE E N sc o eo)
    {X : Cx} {W : WX} (C : Cok E N sc X) (tk : Takes X W) {pins : List (Addr × Obj)} {s : Shared} {σ : L2.St} {H : Hp} {Q : VK} (I : Inv X pins σ H s) (hh : rdE E W (.meth o k es) σ H Q)
    (cont : ∀ w1 sl m1 d H1 s1 p f fa (fd : FuncData) (ps : List Str), Inv X pins σ H1 s1 → Mem E.g w1 H1 m1 → Slr E.g w1 sl σ → Rv E.g w1 d (.ref p) → Binds X.K fd ps [] → FnOk X.prog X.w X.K X.mg X.base (L2.CX X.prog X.w) E.lv fa fd ps (spR E f) → PySem.W.keepIn X.K (.ref fa) = true →
      PostE E.g w1 (xwOf W σ) Q ((evalEs E.p E.c es sl m1).bind fun xs h => E.c f (d :: xs) h) →
      wpAny (model X.prog X.w) X.A (callWith pos (.ref fa) [.ref p] (backTo pos (starEach ees X.env)) (backToKw pos (keywordEach [] X.env))) (EP X pins σ Q) X.xe s1) :
    wpAny (model X.prog X.w) X.A (eval (.Call (.Attribute eo (E.cf.mnm k) apos) ees [] pos) X.env) (EP X pins σ Q) X.xe s := by
  obtain ⟨w, sl, m, M, S, hh⟩ := hh
  unfold evalE at hh
  have first : rdE E W o σ H fun x H1 => ∃ w1 m1 d f, Mem E.g w1 H1 m1 ∧ Slr E.g w1 sl σ ∧ Rv E.g w1 d x ∧ MethAt E k f d x H1 ∧ PostE E.g w1 (xwOf W σ) Q ((evalEs E.p E.c es sl m1).bind fun xs h => E.c f (d :: xs) h) :=
    rd_bind M S hh fun d m1 w1 v H1 le1 M1 S1 r1 h1 => by
      split at h1
      · rename_i Ci ec
        split at h1
        · rename_i cd ecd
          split at h1
          · rename_i f ef
            exact ⟨w1, m1, d, f, M1, S1, r1, meth_at G M1 r1 ec ecd ef, h1⟩
          · exact absurd h1 id
        · exact absurd h1 id
      · exact absurd h1 id
  refine PySem.W.methodCall_KW (thn ((ho X W C tk).run pins s σ H _ I first) fun u s1 ⟨x, H1, I1, rx, w1, m1, d, f, M1, S1, r1, ma, h1⟩ => ?_) (meth_tree hso hs hl hp)
  obtain ⟨Ci, p, dx, fvs, fa, rfl, hpi, hlk, hcl, hme, hF⟩ := ma
  cases rx
  obtain ⟨fd, ps, hb, F⟩ := C.fn hF
  refine getmeth_ok I1 hpi (by rw [C.K]; exact hcl) (by rw [C.K]; exact hme) hlk ?_
  exact cont w1 sl m1 d H1 s1 p f fa fd ps I1 M1 S1 r1 hb F (by rw [C.K]; exact hme.kp) h1
theorem je_meth0 (G : Gok E) {k : Nat} {o : ME} {eo : Expr} {apos : Pos} (hso : notSuper eo = true) (hp : (apos.endLine == pos.line) = true) (ho : JE E N sc o eo) :
    JE E N sc (.meth o k []) (.Call (.Attribute eo (E.cf.mnm k) apos) [] [] pos) := fun X W C tk => ⟨fun pins s σ H Q I hh =>
  meth_pre G hso rfl (by decide) hp ho C tk I hh fun w1 sl m1 d H1 s1 p f fa fd ps I1 M1 S1 r1 hb F hk h1 => by
    unfold evalEs at h1
    exact PySem.W.callWith_K0 (first := [.ref p]) I1.kIn hk (run_fnS (us := [.ref p]) (vs := [.ref p]) (E := fun σ => xwOf W σ) F (C.room.mono (Nat.le_succ _)) hb (passAt tk σ) I1 (.cons rfl .nil) ⟨w1, m1, [d], M1, .cons r1 .nil, h1⟩)⟩
theorem je_meth (G : Gok E) {k : Nat} {o : ME} {eo e0 : Expr} {apos : Pos} {es : List ME} {ees : List Expr} (hso : notSuper eo = true) (hs : notStars (e0 :: ees) = true) (hl : (e0 :: ees).length < 30) (hp : (apos.endLine == pos.line) = true) (ho : JE E N sc o eo) (h : JEs E N sc es (e0 :: ees)) :
    JE E N sc (.meth o k es) (.Call (.Attribute eo (E.cf.mnm k) apos) (e0 :: ees) [] pos) := fun X W C tk => ⟨fun pins s σ H Q I hh =>
  meth_pre G hso hs hl hp ho C tk I hh fun w1 sl m1 d H1 s1 p f fa fd ps I1 M1 S1 r1 hb F hk h1 =>
    call_args (first := [.ref p]) I1 hk hs (h X W C tk) (rd_bind M1 S1 h1 fun ds m2 w2 vs H2 le2 M2 S2 r2 h2 => fun us s2 I2 rv =>
      run_fnS (us := .ref p :: us) (vs := .ref p :: vs) (E := fun σ => xwOf W σ) F (C.room.mono (Nat.le_succ _)) hb (passAt tk σ) I2 (.cons rfl rv) ⟨w2, m2, d :: ds, M2, .cons (r1.mono le2) r2, h2⟩)⟩

/-! ### classes -/
theorem make_run {X : Cx} {W : WX} {k : Nat} {f C : Addr} {fd : FuncData} {ps : List Str} {sp : Sp} {pins : List (Addr × Obj)} {σ : L2.St} {H : Hp} {s : Shared} {Q : VK} {us : List Value} {vs : List V} (M : Mk X.K C f)
    (F : FnOk X.prog X.w X.K X.mg X.base (L2.CX X.prog X.w) k f fd ps sp) (hr : Room (k + 1) X.A) (hb : Binds X.K fd ps []) (tk : Takes X W) (I : Inv X pins σ H s) (r : Vals vs us)
    (h : ∀ x dx, H x = none → H dx = none → dx ≠ x → sp (.ref x :: vs) (upd (upd H dx (.own x)) x (.ins C dx [])) (fun v H2 => v = .non ∧ Q (.ref x) H2) (xwOf W σ)) :
    wpAny (model X.prog X.w) X.A (call (.ref C) us) (EP X pins σ Q) X.xe s := by
  generalize hn : s.heap.objs.size = n at h
  have I2 := Inv.made (C := C) I
  rw [hn] at I2
  have hq := h (n + 1) n (I.hok.fresh (by rw [hn]; exact Nat.le_succ _)) (I.hok.fresh (by rw [hn]; exact Nat.le_refl _)) (Nat.ne_of_lt (Nat.lt_succ_self _))
  have r2 : Vals (V.ref (n + 1) :: vs) (Value.ref (n + 1) :: us) := .cons rfl r
  have len : (Value.ref (n + 1) :: us ++ []).length = ps.length := by
    rw [List.append_nil, ← r2.length]; exact F.len _ _ _ _ hq
  have bnd := fun s' (K : X.K.In s'.heap) => hb s' (Value.ref (n + 1) :: us) K len
  refine wpAny_call (make_map (f := f) I.kIn M.makes M.init (beq_iff_eq.mp M.fn) ?_)
  rw [hn]
  refine codeAny_mono (F.run _ X.stack _ _ ⟨Value.ref (n + 1) :: us, []⟩ (Value.ref (n + 1) :: us) _ _ _ (hr.make C us []) (I2.env0.make C us []) (by have z := bnd _ I2.kIn; rw [List.append_nil] at z; exact z) r2 hq) fun r s' hq' => ?_
  cases r with
  | error e => exact passAt tk σ pins _ _ e s' I2 hq'
  | ok fl =>
    cases fl with
    | ret u =>
      obtain ⟨v, H', I3, rv, ev, q3⟩ := I2.after hq'
      subst ev
      exact ⟨rv, ⟨V.ref (n + 1), H', I3, rfl, q3⟩⟩
    | _ => exact hq'.elim
/-- a new instance's place, then its __init__ -/
theorem make_sp (G : Gok E) {Ci f : Nat} {d : D} {w : Wd} {H : Hp} {m : Mm} {ds : List D} {vs : List V} {xw : XW} {Q : VK} (hC : Ci < E.g.ncls) (M : Mem E.g w H m) (r : Rvs E.g w ds vs)
    (h : PostE E.g w xw Q ((E.c f (.ref m.length :: ds) (m ++ [.ins Ci []])).bind fun r h' => match r with | .non => .ok (.ref m.length) h' | _ => .bad)) :
    ∀ x dx, H x = none → H dx = none → dx ≠ x → spR E f (.ref x :: vs) (upd (upd H dx (.own x)) x (.ins (E.g.cad Ci) dx [])) (fun v H2 => v = .non ∧ Q (.ref x) H2) xw := by
  intro x dx hx hdx hne
  -- the own dict stands beside, for good
  obtain ⟨le1, M1⟩ := M.laid (p := dx) (o := .own x) hdx
  have hx1 : upd H dx (.own x) x = none := by rw [upd_ne (Ne.symm hne)]; exact hx
  have hob : ObR E.g ((w.fz dx (.own x)).one x) (upd (upd H dx (.own x)) x (.ins (E.g.cad Ci) dx [])) (w.fz dx (.own x)).len (.ins Ci []) := ⟨hC, dx, [], by
    show upd (upd H dx (.own x)) x _ (if w.len = w.len then x else w.ρ w.len) = _
    rw [if_pos rfl, upd_same], .nil⟩
  obtain ⟨le2, M2⟩ := M1.new hx1 hob
  have rr : Rv E.g ((w.fz dx (.own x)).one x) (.ref w.len) (.ref x) := by
    have z := Rv.ref (g := E.g) (w := (w.fz dx (.own x)).one x) w.len (Nat.lt_succ_self _)
    have e : ((w.fz dx (.own x)).one x).ρ w.len = x := if_pos rfl
    rw [e] at z; exact z
  have le := le1.trans le2
  rw [← M.len] at h
  refine ⟨(w.fz dx (.own x)).one x, m ++ [.ins Ci []], .ref w.len :: ds, M2, .cons rr (r.mono le), Post.bind (Post.mono le h) fun d m' _ w' v H' le' M' rv q => ?_⟩
  split at q
  · cases rv
    refine ⟨rfl, q w' (.ref x) H' (Wd.le.refl _) M' ?_⟩
    exact rr.mono le'
  · exact absurd q id
theorem je_make (G : Gok E) {Ci : Nat} {cd : CD} {x : Str} {p : Pos} {es : List ME} {e0 : Expr} {ees : List Expr} (hcd : E.p.cls[Ci]? = some cd) (hf : E.cf.cnm Ci = some x) (hg : glB sc x = true) (hn : nmOk x = true) (hs : notStars (e0 :: ees) = true) (h : JEs E N sc es (e0 :: ees)) :
    JE E N sc (.make Ci es) (.Call (.Name x p) (e0 :: ees) [] pos) := fun X W C tk => by
  obtain ⟨fa, hm, hk, hF⟩ := G.mkc Ci cd x hcd hf
  obtain ⟨fd, ps, hb, F⟩ := C.fn hF
  refine ⟨fun pins s σ H Q I hh => ?_⟩
  obtain ⟨w, sl, m, M, S, hh⟩ := hh
  unfold evalE at hh
  refine wpAny_Call_Name_kw (ld_glob I (C.gl hg) (by rw [C.mg]; exact hm) ?_ (nmOk_of hn).1)
  refine call_args (first := []) I (by rw [C.K]; exact hk.kp) hs (h X W C tk) (rd_bind M S hh fun ds m2 w2 vs H2 le2 M2 S2 r2 h2 => fun us s2 I2 rv => ?_)
  rw [hcd] at h2
  exact make_run (by rw [C.K]; exact hk) F C.room hb tk I2 rv (make_sp G (d := .non) (G.ncl Ci cd hcd) M2 r2 h2)
theorem je_make0 (G : Gok E) {Ci : Nat} {cd : CD} {x : Str} {p : Pos} (hcd : E.p.cls[Ci]? = some cd) (hf : E.cf.cnm Ci = some x) (hg : glB sc x = true) (hn : nmOk x = true) :
    JE E N sc (.make Ci []) (.Call (.Name x p) [] [] pos) := fun X W C tk => by
  obtain ⟨fa, hm, hk, hF⟩ := G.mkc Ci cd x hcd hf
  obtain ⟨fd, ps, hb, F⟩ := C.fn hF
  refine ⟨fun pins s σ H Q I hh => ?_⟩
  obtain ⟨w, sl, m, M, S, hh⟩ := hh
  unfold evalE evalEs at hh
  rw [Res.bind_ok, hcd] at hh
  refine wpAny_Call_Name_kw (ld_glob I (C.gl hg) (by rw [C.mg]; exact hm) ?_ (nmOk_of hn).1)
  exact PySem.W.callWith_K0 (first := []) I.kIn (by rw [C.K]; exact hk.kp) (make_run (us := []) (by rw [C.K]; exact hk) F C.room hb tk I .nil (make_sp G (d := .non) (G.ncl Ci cd hcd) M .nil hh))

/-! ### built-in functions and types -/
theorem je_blt (G : Gok E) {b : Bt} {obj : Bool} {p : Pos} {es : List ME} {e0 : Expr} {ees : List Expr} (hg : glB sc b.nm = true) (hs : notStars (e0 :: ees) = true) (h : JEs E N sc es (e0 :: ees)) :
    JE E N sc (.blt b obj es) (.Call (.Name b.nm p) (e0 :: ees) [] pos) := fun X W C tk => by
  have hs2 : notStar e0 = true ∧ notStars ees = true := by
    unfold notStars at hs ⊢
    simpa [List.all_cons, Bool.and_eq_true] using hs
  have hm : X.mg b.nm = none := by rw [C.mg]; exact G.blt b
  have n1 : b.nm ≠ "__name__" := by cases b <;> decide +kernel
  have n2 : (b.nm == ("__debug__" : Str)) = false := by cases b <;> decide +kernel
  have rd : ∀ (σ : L2.St) (H : Hp) (Q : VK), rdE E W (.blt b obj es) σ H Q → tCB (rBlt E.g b obj) (rdEs E W es) σ H Q := fun σ H Q hh => by
    obtain ⟨w, sl, m, M, S, hh⟩ := hh
    unfold evalE at hh
    exact rd_bind M S hh fun ds m2 w2 vs H2 le2 M2 S2 r2 h2 => ⟨w2, m2, ds, _, M2, r2, h2⟩
  have hc := call_blt (X := X) (g := E.g) C.K C.calm b obj
  by_cases ty : b.isTy = true
  · obtain ⟨T, eT⟩ : ∃ T, b.val = .type T := by cases b <;> first | exact ⟨_, rfl⟩ | cases ty
    rw [eT] at hc
    exact PE.imp (pe_callTy hc (C.gl hg) hm (by rw [b.boot, eT]) (h X W C tk) n1 n2 (starEach_of hs2.1) (plain_of hs2.2)) rd
  · obtain ⟨T, eT⟩ : ∃ T, b.val = .builtin T := by cases b <;> first | exact ⟨_, rfl⟩ | exact absurd rfl ty
    rw [eT] at hc
    exact PE.imp (pe_callB hc (C.gl hg) hm (by rw [b.boot, eT]) (h X W C tk) n1 n2 (starEach_of hs2.1) (plain_of hs2.2)) rd

/-! ### methods of lists -/
theorem je_bm {b : Bm} {obj : Bool} {o : ME} {eo : Expr} {apos : Pos} {es : List ME} {e0 : Expr} {ees : List Expr} (hso : notSuper eo = true) (hs : notStars (e0 :: ees) = true) (hl : (e0 :: ees).length < 30) (hp : (apos.endLine == pos.line) = true) (ho : JE E N sc o eo) (h : JEs E N sc es (e0 :: ees)) :
    JE E N sc (.bm b obj o es) (.Call (.Attribute eo b.nm apos) (e0 :: ees) [] pos) := fun X W C tk => by
  have hs2 : notStar e0 = true ∧ notStars ees = true := by
    unfold notStars at hs ⊢
    simpa [List.all_cons, Bool.and_eq_true] using hs
  have few := few_of (env := X.env) (pos := pos) hs hl
  have slot : Slot b.ty b.nm b.id := by cases b <;> first | exact PySem.F.slot_list_append | exact PySem.F.slot_list_index
  have pa : PlainAttrs b.ty := by cases b <;> exact PySem.F.plainAttrs_list
  have ty : typeOf (.builtin b.id) = pure (.type "method_descriptor") := by cases b <;> first | exact PySem.F.type_list_append | exact PySem.F.type_list_index
  refine PE.imp (pe_bm pa slot ty (mt_bm (X := X) (g := E.g) C.K b obj) (ho X W C tk) (h X W C tk) (base_of hso) few hp (starEach_of hs2.1) (plain_of hs2.2)) fun σ H Q hh => ?_
  obtain ⟨w, sl, m, M, S, hh⟩ := hh
  unfold evalE at hh
  refine rd_bind M S hh fun d m1 w1 v H1 le1 M1 S1 r1 h1 => ?_
  by_cases ht : bmTy b m1 d = true
  · rw [if_pos ht] at h1
    refine ⟨?_, rd_bind M1 S1 h1 fun ds m2 w2 vs H2 le2 M2 S2 r2 h2 => ⟨w2, m2, d, ds, _, M2, r1.mono le2, r2, h2⟩⟩
    rw [C.K]
    cases b with
    | append =>
      obtain ⟨xs, e⟩ := Option.isSome_iff_exists.mp (show (lstOf m1 d).isSome = true from ht)
      obtain ⟨p, us, rfl, hq, _⟩ := lstOf_rel M1 r1 e
      exact .inl ⟨rfl, us, hq⟩
    | index =>
      obtain ⟨xs, e⟩ := Option.isSome_iff_exists.mp (show (lstOf m1 d).isSome = true from ht)
      obtain ⟨p, us, rfl, hq, _⟩ := lstOf_rel M1 r1 e
      exact .inl ⟨rfl, us, hq⟩
  · rw [if_neg ht] at h1
    exact absurd h1 id
/-! ### fields -/
/-- an instance as it stands -/
theorem inst_at {w : Wd} {H : Hp} {m : Mm} {d : D} {x : V} {f : Nat} {y : D} (G : Gok E) (M : Mem E.g w H m) (r : Rv E.g w d x) (e : fldD m f d = some y) :
    ∃ p Ci dx fvs v, x = .ref p ∧ H p = some (.ins (E.g.cad Ci) dx fvs) ∧ Ci < E.g.ncls ∧ fvs.lookup (E.g.att f) = some v ∧ Rv E.g w y v ∧ clsD m d = some Ci := by
  cases r with
  | ins hc hi rf =>
    simp only [fldD] at e
    obtain ⟨v, h1, h2⟩ := rf.look G.inj e
    exact ⟨_, _, _, _, v, rfl, M.fr _ _ hi, hc, h1, h2, rfl⟩
  | ref n hn =>
    simp only [fldD] at e
    split at e
    · rename_i C' fs' em
      obtain ⟨hc, dx, fvs, h1', rf⟩ := M.ob _ _ em
      obtain ⟨v, h1, h2⟩ := rf.look G.inj e
      exact ⟨_, _, _, _, v, rfl, h1', hc, h1, h2, by simp only [clsD, em]⟩
    · cases e
  | _ => simp [fldD] at e
theorem je_fld (G : Gok E) {o : ME} {eo : Expr} {f : Nat} (hso : notSuper eo = true) (hf : f < E.cf.natt) (ho : JE E N sc o eo) : JE E N sc (.fld o f) (.Attribute eo (E.g.att f) pos) := fun X W C tk => by
  refine PE.imp (pe_fld (ho X W C tk) (base_of hso)) fun σ H Q hh => ?_
  obtain ⟨w, sl, m, M, S, hh⟩ := hh
  unfold evalE at hh
  refine rd_bind M S hh fun d m1 w1 v H1 le1 M1 S1 r1 h1 => ?_
  split at h1
  · rename_i y ey
    obtain ⟨p, Ci, dx, fvs, u, rfl, h2, hc, h3, h4, _⟩ := inst_at G M1 r1 ey
    obtain ⟨c1, c2⟩ := G.cls Ci hc
    exact ⟨p, _, dx, fvs, u, rfl, h2, by rw [C.K]; exact c1, by rw [C.K]; exact c2 f hf, h3, ok_same h1 M1 h4⟩
  · exact absurd h1 id
end R

/-! RSnd7: targets, what is gone over, comprehensions. -/
namespace R
open PySem PySem.Spec PyProof.Rows L2
variable {E : En} {N : List Str} {sc : Scope} {a b : ME} {ea eb : Expr} {pos : Pos}

/-! ### targets -/
mutual
def Tg.ix : Tg → List Nat
  | .nm i => [i]
  | .tp ts => Tg.ixs ts
def Tg.ixs : List Tg → List Nat
  | [] => []
  | t :: ts => Tg.ix t ++ Tg.ixs ts
end
/-- nothing but the places is are other -/
def Samb (is : List Nat) (σ σ' : L2.St) : Prop := σ'.length = σ.length ∧ ∀ j, j ∉ is → σ'[j]? = σ[j]?
theorem Samb.refl (is : List Nat) (σ : L2.St) : Samb is σ σ := ⟨rfl, fun _ _ => rfl⟩
theorem Samb.trans {is js : List Nat} {σ σ' σ'' : L2.St} (h : Samb is σ σ') (k : Samb js σ' σ'') : Samb (is ++ js) σ σ'' :=
  ⟨k.1.trans h.1, fun j hj => (k.2 j fun z => hj (List.mem_append_right _ z)).trans (h.2 j fun z => hj (List.mem_append_left _ z))⟩
def rdG (E : En) (t : Tg) : TG := fun v σ H Q => ∃ w m d sl sl', Mem E.g w H m ∧ Rv E.g w d v ∧ Slr E.g w sl σ ∧ bindT t d sl = some sl' ∧ ∀ σ', Slr E.g w sl' σ' → Samb t.ix σ σ' → Q σ' H
def rdGs (E : En) (ts : List Tg) : TGs := fun vs σ H Q => ∃ w m ds sl sl', Mem E.g w H m ∧ Rvs E.g w ds vs ∧ Slr E.g w sl σ ∧ bindTs ts ds sl = some sl' ∧ ∀ σ', Slr E.g w sl' σ' → Samb (Tg.ixs ts) σ σ' → Q σ' H
def JG (E : En) (N : List Str) (sc : Scope) (fs : Str → Bool) (t : Tg) (e : Expr) : Prop := ∀ X : Cx, Cok E N sc X → X.fn = fs → PG X e (rdG E t)
def JGs (E : En) (N : List Str) (sc : Scope) (fs : Str → Bool) (t : List Tg) (e : List Expr) : Prop := ∀ X : Cx, Cok E N sc X → X.fn = fs → PGs X e (rdGs E t)
theorem PG.imp {X : Cx} {e : Expr} {t t' : TG} (h : PG X e t) (k : ∀ v σ H Q, t' v σ H Q → t v σ H Q) : PG X e t' := ⟨fun pins s σ H v u Q I r q => h.run pins s σ H v u Q I r (k _ _ _ _ q)⟩
theorem PGs.imp {X : Cx} {e : List Expr} {t t' : TGs} (h : PGs X e t) (k : ∀ v σ H Q, t' v σ H Q → t v σ H Q) : PGs X e t' := ⟨fun pins s σ H v u Q I r q => h.run pins s σ H v u Q I r (k _ _ _ _ q)⟩
/-- a name that may be stored -/
def locB (sc : Scope) (fs : Str → Bool) (x : Str) : Bool := match sc.names.lookup x with
  | some .local => true | some .cell => fs x | _ => false
theorem loc_of {sc : Scope} {fs : Str → Bool} {x : Str} (h : locB sc fs x = true) : L2.Loc sc x ∧ (fs x = true ∨ sc.names.lookup x = some .local) := by
  unfold locB at h
  unfold L2.Loc
  split at h <;> first | (cases h; done) | skip
  · exact ⟨.inl (by assumption), .inr (by assumption)⟩
  · exact ⟨.inr (by assumption), .inl h⟩
theorem jg_nm {fs : Str → Bool} {i : Nat} {x : Str} (h1 : N[i]? = some x) (h2 : locB sc fs x = true) : JG E N sc fs (.nm i) (.Name x pos) := fun X C hf => by
  have l := loc_of h2
  refine PG.imp (pg_name (X := X) (i := i) (by rw [C.Ns]; exact C.nd) (by rw [C.Ns]; exact h1) (by rw [C.sc]; exact l.1) (by rw [hf, C.sc]; exact l.2)) fun v σ H Q h => ?_
  obtain ⟨w, m, d, sl, sl', M, r, S, e, q⟩ := h
  unfold bindT at e
  cases e
  refine q _ (S.set r) ⟨by rw [List.length_set], fun j hj => ?_⟩
  have ne : i ≠ j := fun z => hj (by rw [← z]; exact List.mem_singleton.mpr rfl)
  rw [List.getElem?_set_ne ne]
theorem jgs_nil {fs : Str → Bool} : JGs E N sc fs [] [] := fun X C hf => PGs.imp pgs_nil fun v σ H Q h => by
  obtain ⟨w, m, d, sl, sl', M, r, S, e, q⟩ := h
  cases r with
  | nil =>
    unfold bindTs at e
    cases e
    exact ⟨rfl, q σ S (Samb.refl _ _)⟩
  | cons _ _ => unfold bindTs at e; cases e
theorem assignEach_of {e : Expr} {es : List Expr} {env : Env} (h : notStar e = true) : (assignEach (e :: es) env).map (·.2) = assign e env :: (assignEach es env).map (·.2) := by
  cases e <;> first | rfl | cases h
theorem assignEach_len : ∀ {es : List Expr} {env : Env}, (assignEach es env).length = es.length
  | [], _ => rfl
  | e :: es, env => by
    have ih := assignEach_len (es := es) (env := env)
    cases e <;> (show (assignEach es env).length + 1 = es.length + 1; rw [ih])
theorem assignEach_star : ∀ {es : List Expr} {env : Env}, notStars es = true → (assignEach es env).findIdx? (·.1) = none
  | [], _, _ => rfl
  | e :: es, env, h => by
    unfold notStars at h
    rw [List.all_cons, Bool.and_eq_true] at h
    have ih := assignEach_star (es := es) (env := env) h.2
    have e1 : ∃ f, assignEach (e :: es) env = (false, f) :: assignEach es env := by
      cases e <;> first | exact ⟨_, rfl⟩ | cases h.1
    obtain ⟨f, e1⟩ := e1
    rw [e1, List.findIdx?_cons]
    simp [ih]
theorem jgs_cons {fs : Str → Bool} {t : Tg} {ts : List Tg} {e : Expr} {es : List Expr} (hs : notStar e = true) (h1 : JG E N sc fs t e) (h2 : JGs E N sc fs ts es) : JGs E N sc fs (t :: ts) (e :: es) := fun X C hf =>
  PGs.imp (pgs_cons (h1 X C hf) (h2 X C hf) (assignEach_of hs)) fun v σ H Q h => by
    obtain ⟨w, m, ds, sl, sl', M, r, S, e, q⟩ := h
    cases r with
    | nil => unfold bindTs at e; cases e
    | cons r1 r2 =>
      unfold bindTs at e
      rw [Option.bind_eq_some_iff] at e
      obtain ⟨sl1, e1, e2⟩ := e
      refine ⟨_, _, rfl, w, m, _, sl, sl1, M, r1, S, e1, fun σ1 S1 b1 => ?_⟩
      exact ⟨w, m, _, sl1, sl', M, r2, S1, e2, fun σ2 S2 b2 => q σ2 S2 (b1.trans b2)⟩
theorem bindTs_len : ∀ {ts : List Tg} {ds : List D} {sl sl' : List (Option D)}, bindTs ts ds sl = some sl' → ts.length = ds.length
  | [], [], _, _, _ => rfl
  | t :: ts, d :: ds, sl, sl', h => by
    unfold bindTs at h
    rw [Option.bind_eq_some_iff] at h
    obtain ⟨sl1, _, e2⟩ := h
    rw [List.length_cons, List.length_cons, bindTs_len e2]
  | [], d :: ds, _, _, h => by unfold bindTs at h; cases h
  | t :: ts, [], _, _, h => by unfold bindTs at h; cases h
theorem jg_tp {fs : Str → Bool} {ts : List Tg} {es : List Expr} {k : Nat} (hs : notStars es = true) (hl : ts.length = es.length) (h : JGs E N sc fs ts es) : JG E N sc fs (.tp ts) (.Tuple es k pos) := fun X C hf =>
  PG.imp (pg_tup (n := es.length) C.calm (h X C hf) assignEach_len (assignEach_star hs)) fun v σ H Q h => by
    obtain ⟨w, m, d, sl, sl', M, r, S, e, q⟩ := h
    cases r with
    | tup hq rs =>
      unfold bindT at e
      refine ⟨_, _, rfl, by rw [C.K]; exact sqT_mono M.fr hq, ?_, w, m, _, sl, sl', M, rs, S, e, q⟩
      rw [← rs.length, ← bindTs_len e, hl]
    | _ => unfold bindT at e; cases e

/-! ### what is gone over -/
/-- J goes over xs -/
structure Wk (g : Gm) (w : Wd) (xs : List D) (J : L2.It) : Prop where
  go : ∀ (i : Nat) w' H m, w.le w' → Mem g w' H m → i < xs.length → J.go i H
  stop : ∀ (i : Nat) w' H m, w.le w' → Mem g w' H m → xs.length ≤ i → J.stop i H
  yld : ∀ (i : Nat) x w' H H' m, w.le w' → Mem g w' H m → i < xs.length → J.yld i H x H' → ∃ d w'', xs[i]? = some d ∧ w'.le w'' ∧ Mem g w'' H' m ∧ Rv g w'' d x
abbrev rdI (E : En) (W : WX) (it : It) : TI := rdOf (Wk E.g) E W (evalI E.p E.c it)
def JI (E : En) (N : List Str) (sc : Scope) (it : It) (tg iter : Expr) : Prop := ∀ (X : Cx) (W : WX), Cok E N sc X → Takes X W → PI X tg iter (rdI E W it)
theorem wk_list {g : Gm} {w : Wd} {a : Addr} {vs : List V} {xs : List D} (h : SqL g.K w.F a vs) (r : Rvs g w xs vs) : Wk g w xs (Itl g.K a) where
  go := fun i w' H m le M hi => by
    obtain ⟨v, hv, _⟩ := r.get (List.getElem?_eq_getElem hi)
    exact ⟨vs, v, sqL_mono M.fr (sqL_mono le.fr h), hv⟩
  stop := fun i w' H m le M hi => ⟨vs, sqL_mono M.fr (sqL_mono le.fr h), by rw [← r.length]; exact hi⟩
  yld := fun i x w' H H' m le M hi y => by
    obtain ⟨e, y⟩ := y
    subst e
    have hv := y vs (sqL_mono M.fr (sqL_mono le.fr h))
    obtain ⟨d, hd, rd⟩ := r.got hv
    exact ⟨d, w', hd, Wd.le.refl _, M, rd.mono le⟩
theorem wk_tup {g : Gm} {w : Wd} {a : Addr} {vs : List V} {xs : List D} (h : SqT g.K w.F a vs) (r : Rvs g w xs vs) : Wk g w xs (Itt g.K a) where
  go := fun i w' H m le M hi => by
    obtain ⟨v, hv, _⟩ := r.get (List.getElem?_eq_getElem hi)
    exact ⟨vs, v, sqT_mono M.fr (sqT_mono le.fr h), hv⟩
  stop := fun i w' H m le M hi => ⟨vs, sqT_mono M.fr (sqT_mono le.fr h), by rw [← r.length]; exact hi⟩
  yld := fun i x w' H H' m le M hi y => by
    obtain ⟨e, y⟩ := y
    subst e
    have hv := y vs (sqT_mono M.fr (sqT_mono le.fr h))
    obtain ⟨d, hd, rd⟩ := r.got hv
    exact ⟨d, w', hd, Wd.le.refl _, M, rd.mono le⟩
theorem wk_rng {g : Gm} {w : Wd} {n : Nat} : Wk g w ((List.range n).map fun (k : Nat) => D.int k) (Itr 0 n) where
  go := fun i w' H m le M hi => by
    show i < n
    simpa using hi
  stop := fun i w' H m le M hi => by
    show n ≤ i
    simpa using hi
  yld := fun i x w' H H' m le M hi y => by
    obtain ⟨e, y⟩ := y
    subst e
    subst y
    have hi' : i < n := by simpa using hi
    refine ⟨.int i, w', ?_, Wd.le.refl _, M, ?_⟩
    · rw [List.getElem?_map, List.getElem?_range hi']; rfl
    · rw [Int.zero_add]; exact .int _
theorem wk_rngC {g : Gm} {w : Wd} {lo c : Int} {n : Nat} : Wk g w (rngL lo n c) (Itc lo c n) where
  go := fun i w' H m le M hi => by
    show i < n
    simpa [rngL] using hi
  stop := fun i w' H m le M hi => by
    show n ≤ i
    simpa [rngL] using hi
  yld := fun i x w' H H' m le M hi y => by
    obtain ⟨e, y⟩ := y
    subst e
    subst y
    have hi' : i < n := by simpa [rngL] using hi
    refine ⟨.int (lo + (i : Int) * c), w', ?_, Wd.le.refl _, M, .int _⟩
    unfold rngL
    rw [List.getElem?_map, List.getElem?_range hi']; rfl
theorem wk_zip {g : Gm} {w : Wd} {a b : Addr} {vs us : List V} {xs ys : List D} (h : SqL g.K w.F a vs) (r : Rvs g w xs vs) (h2 : SqL g.K w.F b us) (r2 : Rvs g w ys us) : Wk g w ((xs.zip ys).map fun q => D.tup [q.1, q.2]) (Itz g.K a b) where
  go := fun i w' H m le M hi => by
    have hi : i < xs.length ∧ i < ys.length := by simp at hi; omega
    obtain ⟨v, hv, _⟩ := r.get (List.getElem?_eq_getElem hi.1)
    obtain ⟨u, hu, _⟩ := r2.get (List.getElem?_eq_getElem hi.2)
    exact ⟨vs, us, v, u, sqL_mono M.fr (sqL_mono le.fr h), sqL_mono M.fr (sqL_mono le.fr h2), hv, hu⟩
  stop := fun i w' H m le M hi => by
    refine ⟨vs, us, sqL_mono M.fr (sqL_mono le.fr h), sqL_mono M.fr (sqL_mono le.fr h2), ?_⟩
    rw [← r.length, ← r2.length]
    simp at hi
    omega
  yld := fun i x w' H H' m le M hi y => by
    obtain ⟨T, v, u, rfl, hT, rfl, f1, f2⟩ := y
    obtain ⟨d, hd, rd⟩ := r.got (f1 vs (sqL_mono M.fr (sqL_mono le.fr h)))
    obtain ⟨e, he, re⟩ := r2.got (f2 us (sqL_mono M.fr (sqL_mono le.fr h2)))
    obtain ⟨le', M'⟩ := M.laid (p := T) (o := .tup [v, u]) hT
    refine ⟨.tup [d, e], _, ?_, le', M', .tup (SqT.of upd_same) (.cons (rd.mono (le.trans le')) (.cons (re.mono (le.trans le')) .nil))⟩
    rw [List.getElem?_map, List.getElem?_zip_eq_some (z := (d, e)) |>.mpr ⟨hd, he⟩]; rfl
theorem wk_enum {g : Gm} {w : Wd} {a : Addr} {vs : List V} {xs : List D} (h : SqL g.K w.F a vs) (r : Rvs g w xs vs) : Wk g w ((List.range xs.length).zip xs |>.map fun q => D.tup [.int q.1, q.2]) (Ite g.K a) where
  go := fun i w' H m le M hi => by
    have hi : i < xs.length := by simpa using hi
    obtain ⟨v, hv, _⟩ := r.get (List.getElem?_eq_getElem hi)
    exact ⟨vs, v, sqL_mono M.fr (sqL_mono le.fr h), hv⟩
  stop := fun i w' H m le M hi => by
    refine ⟨vs, sqL_mono M.fr (sqL_mono le.fr h), ?_⟩
    rw [← r.length]
    simpa using hi
  yld := fun i x w' H H' m le M hi y => by
    have hi : i < xs.length := by simpa using hi
    obtain ⟨T, v, rfl, hT, rfl, f1⟩ := y
    obtain ⟨d, hd, rd⟩ := r.got (f1 vs (sqL_mono M.fr (sqL_mono le.fr h)))
    obtain ⟨le', M'⟩ := M.laid (p := T) (o := .tup [.int (i : Nat), v]) hT
    refine ⟨.tup [.int i, d], _, ?_, le', M', .tup (SqT.of upd_same) (.cons (.int _) (.cons (rd.mono (le.trans le')) .nil))⟩
    rw [List.getElem?_map, List.getElem?_zip_eq_some (z := (i, d)) |>.mpr ⟨List.getElem?_range hi, hd⟩]; rfl

theorem ji_seq {tg : Expr} (ha : JE E N sc a ea) : JI E N sc (.seq a) tg ea := fun X W C tk => ⟨fun pins s σ H R I h => by
  obtain ⟨w, sl, m, M, S, h⟩ := h
  unfold evalI at h
  cases q : evalE E.p E.c a sl m with
  | bad => rw [q] at h; exact absurd h id
  | exn Ce p m1 =>
    rw [q] at h
    exact (pi_list (tg := tg) (ha X W C tk)).run pins s σ H R I ⟨w, sl, m, M, S, by rw [q]; exact h⟩
  | ok d m1 =>
    rw [q, Res.bind_ok] at h
    cases d with
    | tup xs =>
      refine (pi_tup (tg := tg) (ha X W C tk)).run pins s σ H R I ⟨w, sl, m, M, S, ?_⟩
      rw [q, C.K]
      intro w1 v H1 le1 M1 r1
      cases r1 with
      | tup hq rs => exact ⟨_, rfl, ⟨_, sqT_mono M1.fr hq⟩, h w1 _ H1 le1 M1 (wk_tup hq rs)⟩
    | lst xs =>
      refine (pi_list (tg := tg) (ha X W C tk)).run pins s σ H R I ⟨w, sl, m, M, S, ?_⟩
      rw [q, C.K]
      intro w1 v H1 le1 M1 r1
      cases r1 with
      | lst hq rs => exact ⟨_, rfl, ⟨_, SqL.of (M1.fr _ _ hq)⟩, h w1 _ H1 le1 M1 (wk_list (SqL.of hq) rs)⟩
    | scr xs =>
      refine (pi_list (tg := tg) (ha X W C tk)).run pins s σ H R I ⟨w, sl, m, M, S, ?_⟩
      rw [q, C.K]
      intro w1 v H1 le1 M1 r1
      cases r1 with
      | scr hq rs => exact ⟨_, rfl, ⟨_, sqL_mono M1.fr hq⟩, h w1 _ H1 le1 M1 (wk_list hq rs)⟩
    | _ => exact absurd h id⟩
theorem small62_of {j : Int} (h : small62 j = true) : -(2 ^ 62) ≤ j ∧ j < 2 ^ 62 := by
  have h := Nat.le_of_ble_eq_true h
  omega
theorem ji_rng1 (G : Gok E) {tg : Expr} {p : Pos} (hg : glB sc "range" = true) (hs : notStar ea = true) (ha : JE E N sc a ea) : JI E N sc (.rng1 a) tg (.Call (.Name "range" p) [ea] [] pos) := fun X W C tk => by
  have st : starEach [ea] X.env = [(false, eval ea X.env)] := starEach_of hs
  have args := jes_cons ha hs (jes_nil (E := E) (N := N) (sc := sc)) X W C tk
  refine ⟨fun pins s σ H R I h => (pi_range1 (tg := tg) (C.gl hg) (by rw [C.mg]; exact G.rng) args st).run pins s σ H R I ?_⟩
  obtain ⟨w, sl, m, M, S, h⟩ := h
  unfold evalI at h
  refine ⟨w, sl, m, M, S, ?_⟩
  simp only [evalEs]
  cases q : evalE E.p E.c a sl m with
  | bad => rw [q] at h; exact absurd h id
  | exn Ce p m1 => rw [q] at h; exact h
  | ok d m1 =>
    rw [q, Res.bind_ok] at h
    intro w1 vs H1 le1 M1 r1
    obtain ⟨v, rfl, rv⟩ := r1.one
    cases rv with
    | int j =>
      dsimp only at h
      by_cases hj : small62 j = true
      · rw [if_pos hj] at h
        exact ⟨j, rfl, (small62_of hj).1, (small62_of hj).2, h w1 _ H1 le1 M1 wk_rng⟩
      · rw [if_neg hj] at h; exact absurd h id
    | _ => exact absurd h id
theorem ji_rng3 (G : Gok E) {tg : Expr} {p : Pos} {b c : ME} {eb ec : Expr} (hg : glB sc "range" = true) (hs : notStar ea = true) (hs2 : notStar eb = true) (hs3 : notStar ec = true) (ha : JE E N sc a ea) (hb : JE E N sc b eb) (hc : JE E N sc c ec) :
    JI E N sc (.rng3 a b c) tg (.Call (.Name "range" p) [ea, eb, ec] [] pos) := fun X W C tk => by
  have pl : (backTo pos (starEach [eb, ec] X.env)).any (·.1) = false := plain_of (by unfold notStars; simp [hs2, hs3])
  have args := jes_cons ha hs (jes_cons hb hs2 (jes_cons hc hs3 (jes_nil (E := E) (N := N) (sc := sc)))) X W C tk
  refine ⟨fun pins s σ H R I h => (pi_range3 (tg := tg) (C.gl hg) (by rw [C.mg]; exact G.rng) args (starEach_of hs) pl).run pins s σ H R I ?_⟩
  obtain ⟨w, sl, m, M, S, h⟩ := h
  unfold evalI at h
  refine ⟨w, sl, m, M, S, ?_⟩
  simp only [evalEs]
  cases q : evalE E.p E.c a sl m with
  | bad => rw [q] at h; exact absurd h id
  | exn Ce p m1 => rw [q] at h; exact h
  | ok d m1 =>
    rw [q, Res.bind_ok] at h
    rw [Res.bind_ok]
    cases q2 : evalE E.p E.c b sl m1 with
    | bad => rw [q2] at h; exact absurd h id
    | exn Ce p m1 => rw [q2] at h; exact h
    | ok d2 m2 =>
      rw [q2, Res.bind_ok] at h
      rw [Res.bind_ok]
      cases q3 : evalE E.p E.c c sl m2 with
      | bad => rw [q3] at h; exact absurd h id
      | exn Ce p m1 => rw [q3] at h; exact h
      | ok d3 m3 =>
        rw [q3, Res.bind_ok] at h
        intro w1 vs H1 le1 M1 r1
        cases r1 with
        | cons rv r1 =>
        cases r1 with
        | cons ru r1 =>
        cases r1 with
        | cons rw' r1 =>
        cases r1
        cases rv with
        | int i =>
          cases ru with
          | int j =>
            cases rw' with
            | int k =>
              dsimp only at h
              by_cases hj : rngOk i j k = true
              · rw [if_pos hj] at h
                unfold rngOk at hj
                simp only [Bool.and_eq_true, decide_eq_true_eq] at hj
                have h2 := Nat.le_of_ble_eq_true hj.1.1.2
                refine ⟨i, j, k, _, rfl, ⟨hj.1.1.1, by omega, hj.1.2, ?_⟩, h w1 _ H1 le1 M1 wk_rngC⟩
                rw [Int.toNat_of_nonneg hj.2]
              · rw [if_neg hj] at h; exact absurd h id
            | _ => exact absurd h id
          | _ => exact absurd h id
        | _ => exact absurd h id
theorem ji_zip (G : Gok E) {p tp : Pos} {b : ME} {eb : Expr} {elts : List Expr} {kk : Nat} (hg : glB sc "zip" = true) (hs : notStar ea = true) (hs2 : notStar eb = true) (ha : JE E N sc a ea) (hb : JE E N sc b eb) :
    JI E N sc (.zip a b) (.Tuple elts kk tp) (.Call (.Name "zip" p) [ea, eb] [] pos) := fun X W C tk => by
  have pl : (backTo pos (starEach [eb] X.env)).any (·.1) = false := plain_of (by unfold notStars; simp [hs2])
  have args := jes_cons ha hs (jes_cons hb hs2 (jes_nil (E := E) (N := N) (sc := sc))) X W C tk
  refine ⟨fun pins s σ H R I h => (pi_zip (C.gl hg) (by rw [C.mg]; exact G.zip) args (starEach_of hs) pl).run pins s σ H R I ?_⟩
  obtain ⟨w, sl, m, M, S, h⟩ := h
  unfold evalI at h
  refine ⟨w, sl, m, M, S, ?_⟩
  simp only [evalEs]
  cases q : evalE E.p E.c a sl m with
  | bad => rw [q] at h; exact absurd h id
  | exn Ce p m1 => rw [q] at h; exact h
  | ok d m1 =>
    rw [q, Res.bind_ok] at h
    rw [Res.bind_ok]
    cases q2 : evalE E.p E.c b sl m1 with
    | bad => rw [q2] at h; exact absurd h id
    | exn Ce p m1 => rw [q2] at h; exact h
    | ok d2 m2 =>
      rw [q2, Res.bind_ok] at h
      intro w1 vs H1 le1 M1 r1
      obtain ⟨v, u, rfl, rv, ru⟩ := r1.two
      cases rv with
      | lst hq rs =>
        cases ru with
        | lst hq2 rs2 => exact ⟨_, _, _, _, rfl, by rw [C.K]; exact SqL.of (M1.fr _ _ hq), by rw [C.K]; exact SqL.of (M1.fr _ _ hq2), by rw [C.K]; exact h w1 _ H1 le1 M1 (wk_zip (SqL.of hq) rs (SqL.of hq2) rs2)⟩
        | _ => exact absurd h id
      | _ => exact absurd h id
theorem ji_enum (G : Gok E) {p tp : Pos} {elts : List Expr} {kk : Nat} (hg : glB sc "enumerate" = true) (hs : notStar ea = true) (ha : JE E N sc a ea) :
    JI E N sc (.enum a) (.Tuple elts kk tp) (.Call (.Name "enumerate" p) [ea] [] pos) := fun X W C tk => by
  have args := jes_cons ha hs (jes_nil (E := E) (N := N) (sc := sc)) X W C tk
  refine ⟨fun pins s σ H R I h => (pi_enum (C.gl hg) (by rw [C.mg]; exact G.enum) args (starEach_of hs)).run pins s σ H R I ?_⟩
  obtain ⟨w, sl, m, M, S, h⟩ := h
  unfold evalI at h
  refine ⟨w, sl, m, M, S, ?_⟩
  simp only [evalEs]
  cases q : evalE E.p E.c a sl m with
  | bad => rw [q] at h; exact absurd h id
  | exn Ce p m1 => rw [q] at h; exact h
  | ok d m1 =>
    rw [q, Res.bind_ok] at h
    intro w1 vs H1 le1 M1 r1
    obtain ⟨v, rfl, rv⟩ := r1.one
    cases rv with
    | lst hq rs => exact ⟨_, _, rfl, by rw [C.K]; exact SqL.of (M1.fr _ _ hq), by rw [C.K]; exact h w1 _ H1 le1 M1 (wk_enum (SqL.of hq) rs)⟩
    | _ => exact absurd h id
end R

/-! RSnd8: comprehensions. -/
namespace R
open PySem PySem.Spec PyProof.Rows L2
variable {E : En} {N : List Str} {sc : Scope} {a b : ME} {ea eb : Expr} {pos : Pos}

/-! ### wiped slots -/
theorem wipe_at {σ : L2.St} {j : Nat} : ∀ {vs : List Nat}, j ∈ vs → j < σ.length → (L2.wipe σ vs)[j]? = some none
  | [], h, _ => by cases h
  | v :: vs, h, hj => by
    unfold L2.wipe
    by_cases q : v = j
    · subst q
      rw [List.getElem?_set_self (by rw [wipe_length]; exact hj)]
    · rw [List.getElem?_set_ne q]
      rcases List.mem_cons.mp h with e | h
      · exact absurd e.symm q
      · exact wipe_at h hj
theorem wipe_off {σ : L2.St} {j : Nat} : ∀ {vs : List Nat}, j ∉ vs → (L2.wipe σ vs)[j]? = σ[j]?
  | [], _ => rfl
  | v :: vs, h => by
    unfold L2.wipe
    rw [List.getElem?_set_ne fun z => h (by rw [z]; exact List.mem_cons_self)]
    exact wipe_off fun z => h (List.mem_cons_of_mem _ z)
theorem wipe_same {σ σ2 : L2.St} {is vs : List Nat} (h : Samb is (L2.wipe σ vs) σ2) (hs : ∀ i ∈ is, i ∈ vs) : L2.wipe σ2 vs = L2.wipe σ vs := by
  have hl : σ2.length = σ.length := h.1.trans (wipe_length _ _)
  apply List.ext_getElem?
  intro j
  by_cases hj : j ∈ vs
  · by_cases hlt : j < σ.length
    · rw [wipe_at hj hlt, wipe_at hj (by rw [hl]; exact hlt)]
    · rw [List.getElem?_eq_none (by rw [wipe_length, hl]; omega), List.getElem?_eq_none (by rw [wipe_length]; omega)]
  · rw [wipe_off hj, wipe_off hj, h.2 j fun z => hj (hs j z), wipe_off hj]

/-! ### the loop of a comprehension, in R -/
/-- one turn -/
def lcF (p : Pg) (c : Calls) (elt : ME) (g : Tg) (cond : Option ME) (sl0 : List (Option D)) : D → Mm → Res Mm (Option D) := fun x h =>
  match bindT g x sl0 with
  | some sl' => match cond with
    | some k => (noExn (evalE p c k sl' h)).bind fun b h => match truthD h b with
      | some true => (noExn (evalE p c elt sl' h)).bind fun y h => .ok (some y) h
      | some false => .ok none h
      | none => .bad
    | none => (noExn (evalE p c elt sl' h)).bind fun y h => .ok (some y) h
  | none => .bad
theorem evalE_lc {p : Pg} {c : Calls} {obj : Bool} {elt : ME} {g : Tg} {it : It} {cond : Option ME} {own : List Nat} {sl : List (Option D)} {h : Mm} :
    evalE p c (.lc obj elt g it cond own) sl h = (evalI p c it sl h).bind fun xs h => (mapL (lcF p c elt g cond (wipe sl own)) xs h).bind fun ys h => mkL obj ys h := by
  simp only [evalE]; rfl
theorem Post.noExn {α β γ δ : Type} {Rl : Wd → α → β → Prop} {Rl' : Wd → γ → δ → Prop} {g : Gm} {w : Wd} {xw xw' : XW} {Q : β → Hp → Prop} {Q' : δ → Hp → Prop} {r : Res Mm γ} {f : γ → Mm → Res Mm α} (h : Post Rl g w xw Q ((R.noExn r).bind f))
    (k : ∀ d m, r = .ok d m → ∀ w' v H', w.le w' → Mem g w' H' m → Rl' w' d v → Post Rl g w' xw Q (f d m) → Q' v H') : Post Rl' g w xw' Q' r := by
  cases r with
  | ok d m => exact fun w' v H' le M rv => k d m rfl w' v H' le M rv (Post.mono le h)
  | exn C p m => exact absurd h id
  | bad => exact h
theorem mapL_noexn {f : D → Mm → Res Mm (Option D)} (hf : ∀ x h C p h', f x h ≠ .exn C p h') : ∀ {xs : List D} {h : Mm} {C : Nat} {p : Option D} {h' : Mm}, mapL f xs h ≠ .exn C p h'
  | [], _, _, _, _, z => by cases z
  | x :: xs, h, C, p, h', z => by
    unfold mapL at z
    cases q : f x h with
    | bad => rw [q] at z; cases z
    | exn C' p' h1 => exact hf x h C' p' h1 q
    | ok y h1 =>
      rw [q, Res.bind_ok] at z
      cases q2 : mapL f xs h1 with
      | bad => rw [q2] at z; cases z
      | exn C' p' h2 => exact mapL_noexn hf q2
      | ok ys h2 =>
        rw [q2, Res.bind_ok] at z
        cases y <;> cases z
theorem noExn_ne {σ α : Type} {r : Res σ α} {C : Nat} {p : Option D} {s : σ} : R.noExn r ≠ .exn C p s := by
  cases r <;> (intro z; cases z)
theorem lcF_noexn {p : Pg} {c : Calls} {elt : ME} {g : Tg} {cond : Option ME} {sl0 : List (Option D)} : ∀ x h C q h', lcF p c elt g cond sl0 x h ≠ .exn C q h' := by
  have one : ∀ {r : Res Mm D} {C : Nat} {q : Option D} {h' : Mm}, ((R.noExn r).bind fun y h => (.ok (some y) h : Res Mm (Option D))) ≠ .exn C q h' := by
    intro r C q h' z
    cases r <;> cases z
  intro x h C q h' z
  unfold lcF at z
  cases hb : bindT g x sl0 with
  | none => rw [hb] at z; cases z
  | some sl' =>
    rw [hb] at z
    cases cond with
    | none => exact one z
    | some k =>
      dsimp only at z
      cases r : evalE p c k sl' h with
      | bad => rw [r] at z; cases z
      | exn C' p' h1 => rw [r] at z; cases z
      | ok d h1 =>
        rw [r] at z
        have z : (match truthD h1 d with | some true => (R.noExn (evalE p c elt sl' h1)).bind fun y h => .ok (some y) h | some false => .ok none h1 | none => .bad : Res Mm (Option D)) = .exn C q h' := z
        split at z
        · exact one z
        · cases z
        · cases z
theorem mkL_size {obj : Bool} {ds : List D} {m : Mm} {g : Gm} {w : Wd} {xw : XW} {Q : V → Hp → Prop} (h : PostE g w xw Q (mkL obj ds m)) : ds.length ≤ sizeLine := by
  unfold mkL at h
  split at h
  · rename_i hz; exact sl_szOk hz
  · exact absurd h id
/-- the list that was made -/
theorem mk_end {g : Gm} {w w' : Wd} {H : Hp} {m : Mm} {obj : Bool} {ds : List D} {acc : List V} {L : Addr} {xw : XW} {Q : V → Hp → Prop} (h : PostE g w xw Q (mkL obj ds m)) (le : w.lf w') (lg : ∀ a o, w.G a = some o → a ≠ L ∧ w'.G a = some o)
    (M : Mem g w' H m) (hL : w'.G L = some (.lst acc)) (r : Rvs g w' ds acc) : Q (.ref L) H := by
  unfold mkL at h
  split at h
  · cases obj with
    | true =>
      rw [if_pos rfl] at h
      have lf : w'.lf ⟨w'.F, fun n => if n = w'.len then L else w'.ρ n, w'.len + 1, fun a => if a = L then none else w'.G a⟩ := ⟨fun _ _ h => h, Nat.le_succ _, fun n h => if_neg (Nat.ne_of_lt h)⟩
      have M' := M.adopt (p := L) (o := .lst acc) (u := .lst ds) hL ⟨acc, by
        show H (if w'.len = w'.len then L else w'.ρ w'.len) = _
        rw [if_pos rfl]; exact M.gr _ _ hL, r.mono' lf⟩
      rw [← M.len] at h
      have rr := Rv.ref (g := g) (w := ⟨w'.F, fun n => if n = w'.len then L else w'.ρ n, w'.len + 1, fun a => if a = L then none else w'.G a⟩) w'.len (Nat.lt_succ_self _)
      rw [show (Wd.mk w'.F (fun n => if n = w'.len then L else w'.ρ n) (w'.len + 1) (fun a => if a = L then none else w'.G a)).ρ w'.len = L from if_pos rfl] at rr
      refine h ⟨w'.F, fun n => if n = w'.len then L else w'.ρ n, w'.len + 1, fun a => if a = L then none else w'.G a⟩ (.ref L) H ⟨⟨le.fr, Nat.le_trans le.len (Nat.le_succ _), fun n hn => ?_⟩, fun a o q => ?_⟩ M' rr
      · show (if n = w'.len then L else w'.ρ n) = w.ρ n
        rw [if_neg (Nat.ne_of_lt (Nat.lt_of_lt_of_le hn le.len))]; exact le.at_ n hn
      · obtain ⟨h1, h2⟩ := lg a o q
        show (if a = L then none else w'.G a) = some o
        rw [if_neg h1]; exact h2
    | false =>
      rw [if_neg Bool.false_ne_true] at h
      have M' := M.settle (p := L) (o := .lst acc) hL
      have lf : w'.lf ⟨upd w'.F L (.lst acc), w'.ρ, w'.len, fun a => if a = L then none else w'.G a⟩ := ⟨fun a o q => by
        show upd w'.F L _ a = _
        rw [upd_ne fun z => by rw [z, M.gf _ _ hL] at q; cases q]; exact q, Nat.le_refl _, fun _ _ => rfl⟩
      refine h _ (.ref L) H ⟨⟨fun a o q => lf.fr a o (le.fr a o q), le.len, le.at_⟩, fun a o q => ?_⟩ M' (.lst upd_same (r.mono' lf))
      obtain ⟨h1, h2⟩ := lg a o q
      show (if a = L then none else w'.G a) = some o
      rw [if_neg h1]; exact h2
  · exact absurd h id

/-! ### the reading -/
def condT (E : En) (cond : Option ME) : TT := match cond with
  | none => tYes
  | some k => rdT E (fun _ _ _ _ => False) k
theorem lc_read {elt : ME} {g : Tg} {it : It} {cond : Option ME} {own : List Nat} {obj : Bool} {W : WX} {K : PySem.W.Frag} (hg : ∀ i ∈ g.ix, i ∈ own) {σ : L2.St} {H : Hp} {Q : VK} (h : rdE E W (.lc obj elt g it cond own) σ H Q) :
    tLc (rdI E W it) (rdG E g) (condT E cond) (rdE E (fun _ _ _ _ => False) elt) own σ H Q := by
  obtain ⟨w, sl, m, M, S, h⟩ := h
  rw [evalE_lc] at h
  refine rd_bind M S h fun xs m1 w1 J H1 le1 M1 S1 wk h1 => ?_
  intro L hL
  have nG : ∀ a o, w1.G a = some o → a ≠ L := fun a o e => ne_of_none (M1.gr a o e) hL
  obtain ⟨leD, MD⟩ := M1.beside (p := L) (o := .lst []) hL
  -- between the turns
  refine ⟨fun i k H' => k = xs.length - i ∧ i ≤ xs.length ∧ ∃ w' m' acc ds, w1.le w' ∧ w'.G L = some (.lst acc) ∧ Mem E.g w' H' m' ∧ Rvs E.g w' ds acc ∧
      PostE E.g w1 (xwOf W σ) Q ((mapL (lcF E.p E.c elt g cond (wipe sl own)) (xs.drop i) m').bind fun ys h => mkL obj (ds ++ ys) h),
    ⟨_, rfl, Nat.zero_le _, w1.wg (upd w1.G L (.lst [])), m1, [], [], leD, upd_same, MD, .nil, by simpa using h1⟩, ?_⟩
  rintro i k H' ⟨rfl, hi, w', m', acc, ds, le', hG, M', rs, hp⟩
  by_cases hlt : i < xs.length
  · refine .inr ⟨wk.go i w' H' m' le' M' hlt, fun H'' => ∃ w' m' acc ds, w1.le w' ∧ w'.G L = some (.lst acc) ∧ Mem E.g w' H'' m' ∧ Rvs E.g w' ds acc ∧
        PostE E.g w1 (xwOf W σ) Q ((mapL (lcF E.p E.c elt g cond (wipe sl own)) (xs.drop (i + 1)) m').bind fun ys h => mkL obj (ds ++ ys) h),
      fun H'' hn => ⟨xs.length - (i + 1), by omega, rfl, hlt, hn⟩, fun x H2 y => ?_⟩
    obtain ⟨d, w2, hd, le2, M2, rd⟩ := wk.yld i x w' H' H2 m' le' M' hlt y
    have ed : xs.drop i = d :: xs.drop (i + 1) := by
      rw [List.drop_eq_getElem_cons hlt]
      rw [List.getElem?_eq_getElem hlt] at hd
      rw [Option.some.inj hd]
    rw [ed] at hp
    have hp2 : PostE E.g w1 (xwOf W σ) Q (((lcF E.p E.c elt g cond (wipe sl own) d m').bind fun y h => (mapL (lcF E.p E.c elt g cond (wipe sl own)) (xs.drop (i + 1)) h).bind fun ys h => match y with
        | some y => .ok (y :: ys) h
        | none => .ok ys h).bind fun ys h => mkL obj (ds ++ ys) h) := hp
    have le12 := le'.trans le2
    have S2 : Slr E.g w2 sl σ := S1.mono le12
    cases hb : bindT g d (wipe sl own) with
    | none =>
      unfold lcF at hp2
      rw [hb] at hp2
      exact absurd hp2 id
    | some sl' =>
      refine ⟨w2, m', d, wipe sl own, sl', M2, rd, S2.wipe own, hb, fun σ2 Sσ sb => ⟨wipe_same sb hg, ?_⟩⟩
      -- the element, kept
      have keep : ∀ (w3 : Wd) (H3 : Hp) (m3 : Mm), w2.le w3 → Mem E.g w3 H3 m3 → PostE E.g w1 (xwOf W σ) Q ((((R.noExn (evalE E.p E.c elt sl' m3)).bind fun y h => (.ok (some y) h : Res Mm (Option D))).bind fun y h => (mapL (lcF E.p E.c elt g cond (wipe sl own)) (xs.drop (i + 1)) h).bind fun ys h => match y with
          | some y => .ok (y :: ys) h
          | none => .ok ys h).bind fun ys h => mkL obj (ds ++ ys) h) →
          rdE E (fun _ _ _ _ => False) elt σ2 H3 fun y H4 => ∃ acc, H4 L = some (.lst acc) ∧ acc.length < sizeLine ∧ ∃ w' m' acc' ds, w1.le w' ∧ w'.G L = some (.lst acc') ∧ Mem E.g w' (upd H4 L (.lst (acc ++ [y]))) m' ∧ Rvs E.g w' ds acc' ∧
            PostE E.g w1 (xwOf W σ) Q ((mapL (lcF E.p E.c elt g cond (wipe sl own)) (xs.drop (i + 1)) m').bind fun ys h => mkL obj (ds ++ ys) h) := by
        intro w3 H3 m3 le3 M3 hp3
        refine ⟨w3, sl', m3, M3, Sσ.mono le3, ?_⟩
        cases qe : evalE E.p E.c elt sl' m3 with
        | bad => rw [qe] at hp3; exact absurd hp3 id
        | exn Ce p m4 => rw [qe] at hp3; exact absurd hp3 id
        | ok e m4 =>
          rw [qe] at hp3
          have hp4 : PostE E.g w1 (xwOf W σ) Q (((mapL (lcF E.p E.c elt g cond (wipe sl own)) (xs.drop (i + 1)) m4).bind fun ys h => (.ok (e :: ys) h : Res Mm (List D))).bind fun ys h => mkL obj (ds ++ ys) h) := hp3
          intro w4 y H4 le4 M4 ry
          have g4 : w4.G L = some (.lst acc) := le4.gr _ _ (le3.gr _ _ (le2.gr _ _ hG))
          have le14 : w1.le w4 := (le12.trans le3).trans le4
          -- the rest ends
          have rest : ∃ ys m5, mapL (lcF E.p E.c elt g cond (wipe sl own)) (xs.drop (i + 1)) m4 = .ok ys m5 := by
            cases qm : mapL (lcF E.p E.c elt g cond (wipe sl own)) (xs.drop (i + 1)) m4 with
            | bad => rw [qm] at hp4; exact absurd hp4 id
            | exn Ce p m5 => exact absurd qm (mapL_noexn lcF_noexn)
            | ok ys m5 => exact ⟨ys, m5, rfl⟩
          obtain ⟨ys, m5, qm⟩ := rest
          rw [qm] at hp4
          have hp5 : PostE E.g w1 (xwOf W σ) Q (mkL obj (ds ++ (e :: ys)) m5) := hp4
          have sz := mkL_size hp5
          rw [List.length_append, List.length_cons, rs.length] at sz
          refine ⟨acc, M4.gr _ _ g4, by omega, w4.wg (upd w4.G L (.lst (acc ++ [y]))), m4, acc ++ [y], ds ++ [e], ⟨⟨le14.fr, le14.len, le14.at_⟩, fun a o q => ?_⟩, upd_same, M4.turned g4, ?_, ?_⟩
          · show upd w4.G L _ a = some o
            rw [upd_ne (nG a o q)]; exact le14.gr a o q
          · exact ((((rs.mono le2).mono le3).mono le4).append (.cons ry .nil)).mono' (lf_G w4 _)
          · rw [qm]
            show PostE E.g w1 (xwOf W σ) Q (mkL obj ((ds ++ [e]) ++ ys) m5)
            rw [List.append_assoc]
            exact hp5
      unfold lcF at hp2
      rw [hb] at hp2
      cases cond with
      | none => exact keep w2 H2 m' (Wd.le.refl _) M2 hp2
      | some k =>
        refine ⟨w2, sl', m', M2, Sσ, ?_⟩
        show Post _ _ _ _ _ (evalT E.p E.c k sl' m')
        unfold evalT
        dsimp only at hp2
        cases qk : evalE E.p E.c k sl' m' with
        | bad => rw [qk] at hp2; exact absurd hp2 id
        | exn Ce p m4 => rw [qk] at hp2; exact absurd hp2 id
        | ok t m3 =>
          rw [qk] at hp2
          rw [Res.bind_ok]
          have hp3 : PostE E.g w1 (xwOf W σ) Q (((match truthD m3 t with
              | some true => (R.noExn (evalE E.p E.c elt sl' m3)).bind fun y h => .ok (some y) h
              | some false => .ok none m3
              | none => .bad : Res Mm (Option D)).bind fun y h => (mapL (lcF E.p E.c elt g (some k) (wipe sl own)) (xs.drop (i + 1)) h).bind fun ys h => match y with
              | some y => .ok (y :: ys) h
              | none => .ok ys h).bind fun ys h => mkL obj (ds ++ ys) h) := hp2
          cases qt : truthD m3 t with
          | none => rw [qt] at hp3; exact absurd hp3 id
          | some b =>
            rw [qt] at hp3
            intro w3 b' H3 le3 M3 eb
            subst eb
            cases b with
            | true => exact keep w3 H3 m3 le3 M3 hp3
            | false =>
              refine ⟨w3, m3, acc, ds, le12.trans le3, le3.gr _ _ (le2.gr _ _ hG), M3, (rs.mono le2).mono le3, ?_⟩
              have e2 : ((Res.ok (none : Option D) m3).bind fun y h => (mapL (lcF E.p E.c elt g (some k) (wipe sl own)) (xs.drop (i + 1)) h).bind fun ys h => match y with
                | some y => (.ok (y :: ys) h : Res Mm (List D))
                | none => .ok ys h) = mapL (lcF E.p E.c elt g (some k) (wipe sl own)) (xs.drop (i + 1)) m3 := by
                rw [Res.bind_ok]
                cases mapL (lcF E.p E.c elt g (some k) (wipe sl own)) (xs.drop (i + 1)) m3 <;> rfl
              dsimp only at hp3
              rw [e2] at hp3
              exact hp3
  · have e : i = xs.length := by omega
    subst e
    refine .inl ⟨wk.stop _ w' H' m' le' M' (Nat.le_refl _), ?_⟩
    rw [List.drop_length] at hp
    have hp : PostE E.g w1 (xwOf W σ) Q (mkL obj (ds ++ []) m') := hp
    rw [List.append_nil] at hp
    exact mk_end hp le'.tolf (fun a o q => ⟨nG a o q, le'.gr a o q⟩) M' hG rs

/-! ### the rules -/
def JC (E : En) (N : List Str) (sc : Scope) (cond : Option ME) (ifs : List Expr) : Prop := ∀ X : Cx, Cok E N sc X → PTs X ifs (condT E cond)
theorem jc_none : JC E N sc none [] := fun X C => pts_nil
theorem jc_some {k : ME} {e : Expr} (h : JT E N sc k e) : JC E N sc (some k) [e] := fun X C => pts_one (h X _ C takes0)
def ownOf (N : List Str) (own : List Nat) : List (Str × Nat) := own.filterMap fun i => (N[i]?).map fun x => (x, i)
theorem ownOf_ix {N : List Str} : ∀ {own : List Nat}, (∀ i ∈ own, i < N.length) → (ownOf N own).map (·.2) = own
  | [], _ => rfl
  | i :: is, h => by
    have hi := h i List.mem_cons_self
    have ih := ownOf_ix (N := N) (own := is) fun j hj => h j (List.mem_cons_of_mem _ hj)
    unfold ownOf at ih ⊢
    rw [List.filterMap_cons, List.getElem?_eq_getElem hi]
    show i :: _ = i :: is
    rw [ih]
def notSetE : Expr → Bool
  | .Set _ _ _ => false
  | _ => true
theorem noFold (iter : Expr) (h : notSetE iter = true) : ∀ env x, foldedSetIterable iter env x = pure x := by
  intro env x
  cases iter <;> first | rfl | cases h
theorem je_lc {obj : Bool} {elt : ME} {g : Tg} {it : It} {cond : Option ME} {own : List Nat} {eelt tg iter : Expr} {ifs : List Expr} {scope : Scope} (ho : ∀ i ∈ own, i < N.length) (hg : ∀ i ∈ g.ix, i ∈ own) (hb : blkC N sc scope (ownOf N own) = true) (hns : notSetE iter = true)
    (hi : JI E N sc it tg iter) (ht : JG E N (relS scope sc) (fun x => scope.names.lookup x == some .cell) g tg) (hc : JC E N (relS scope sc) cond ifs) (he : JE E N (relS scope sc) elt eelt) :
    JE E N sc (.lc obj elt g it cond own) (.ListComp eelt [⟨tg, iter, ifs, 0⟩] scope pos) := fun X W C tk => by
  have h := pe_lc (X := X) (own := ownOf N own) (pos := pos) C.calm (by rw [C.Ns]; exact C.nd) (hi X W C tk) (blkOk_by (by rw [C.Ns, C.sc]; exact hb)) (fun s H A cl fp => ht _ (C.blk (s := s) (H := H)) rfl) (fun s H A cl fp => hc _ (C.blk (s := s) (H := H))) (fun s H A cl fp => he _ (fun _ _ _ _ => False) (C.blk (s := s) (H := H)) takes0) (noFold iter hns X.env)
  rw [ownOf_ix ho] at h
  exact PE.imp h fun σ H Q h => lc_read (K := X.K) hg h
end R

/-! RSnd9: statements. -/
namespace R
open PySem PySem.Spec PyProof.Rows L2
variable {E : En} {N : List Str} {sc : Scope} {fs : Str → Bool} {a b : ME} {ea eb : Expr} {pos : Pos}

/-! ### the frozen form -/
section
variable {g : Gm} {H : Hp}
theorem thr_rel {α : Type} {β γ : Type} {R1 : Wd → α → γ → Prop} {R2 : Wd → β → γ → Prop} (m1 : ∀ {w w' : Wd} {a c}, w.le w' → R1 w a c → R1 w' a c) (m2 : ∀ {w w' : Wd} {a c}, w.le w' → R2 w a c → R2 w' a c) {f : α → Mm → Option (β × Mm)}
    (hf : ∀ x m w v y m', Mem g w H m → R1 w x v → f x m = some (y, m') → ∃ w', w.le w' ∧ Mem g w' H m' ∧ R2 w' y v) :
    ∀ (xs : List α) (vs : List γ) (m : Mm) (w : Wd) ys m', Mem g w H m → Paired (R1 w) xs vs → thr f xs m = some (ys, m') → ∃ w', w.le w' ∧ Mem g w' H m' ∧ Paired (R2 w') ys vs := by
  intro xs
  induction xs with
  | nil =>
    intro vs m w ys m' M r e
    cases r
    simp [thr] at e
    obtain ⟨rfl, rfl⟩ := e
    exact ⟨w, Wd.le.refl _, M, .nil⟩
  | cons x xs ih =>
    intro vs m w ys m' M r e
    cases r with
    | cons r1 rr =>
      unfold thr at e
      rw [Option.bind_eq_some_iff] at e
      obtain ⟨⟨y, m1'⟩, e1, e⟩ := e
      rw [Option.bind_eq_some_iff] at e
      obtain ⟨⟨ys', m2'⟩, e2, e⟩ := e
      cases e
      obtain ⟨w1, le1, M1, q1⟩ := hf x m w _ y m1' M r1 e1
      obtain ⟨w2, le2, M2, q2⟩ := ih _ m1' w1 ys' m2' M1 (Paired.mapP rr fun a b z => m1 le1 z) e2
      exact ⟨w2, le1.trans le2, M2, .cons (m2 le2 q1) q2⟩
theorem Rvs.pair {w : Wd} : ∀ {ds : List D} {vs : List V}, Rvs g w ds vs → Paired (Rv g w) ds vs
  | _, _, .nil => .nil
  | _, _, .cons h r => .cons h (Rvs.pair r)
theorem Rvs.ofPair {w : Wd} : ∀ {ds : List D} {vs : List V}, Paired (Rv g w) ds vs → Rvs g w ds vs
  | _, _, .nil => .nil
  | _, _, .cons h r => .cons h (Rvs.ofPair r)
def Rf1 (g : Gm) (w : Wd) (p : Nat × D) (q : Str × V) : Prop := q.1 = g.att p.1 ∧ Rv g w p.2 q.2
def Rk1 (g : Gm) (w : Wd) (p : Key × D) (q : Key × V) : Prop := q.1 = p.1 ∧ Rv g w p.2 q.2
theorem Rfs.pair {w : Wd} : ∀ {ds : List (Nat × D)} {vs : List (Str × V)}, Rfs g w ds vs → Paired (Rf1 g w) ds vs
  | _, _, .nil => .nil
  | _, _, .cons h r => .cons ⟨rfl, h⟩ (Rfs.pair r)
theorem Rfs.ofPair {w : Wd} : ∀ {ds : List (Nat × D)} {vs : List (Str × V)}, Paired (Rf1 g w) ds vs → Rfs g w ds vs
  | _, _, .nil => .nil
  | (f, d) :: _, (x, v) :: _, .cons h r => by
    obtain ⟨h1, h2⟩ := h
    have h1 : x = g.att f := h1
    subst h1
    exact .cons h2 (Rfs.ofPair r)
theorem Rkv.pair {w : Wd} : ∀ {ds : List (Key × D)} {vs : List (Key × V)}, Rkv g w ds vs → Paired (Rk1 g w) ds vs
  | _, _, .nil => .nil
  | _, _, .cons h r => .cons ⟨rfl, h⟩ (Rkv.pair r)
theorem Rkv.ofPair {w : Wd} : ∀ {ds : List (Key × D)} {vs : List (Key × V)}, Paired (Rk1 g w) ds vs → Rkv g w ds vs
  | _, _, .nil => .nil
  | (f, d) :: _, (x, v) :: _, .cons h r => by
    obtain ⟨h1, h2⟩ := h
    have h1 : x = f := h1
    subst h1
    exact .cons h2 (Rkv.ofPair r)
theorem frzN_rel : ∀ (k : Nat) (d : D) (m : Mm) (w : Wd) (v : V) (d' : D) (m' : Mm), Mem g w H m → Rv g w d v → frzN k d m = some (d', m') → ∃ w', w.le w' ∧ Mem g w' H m' ∧ Rv g w' d' v := by
  intro k
  induction k with
  | zero => intro d m w v d' m' M r e; simp [frzN] at e
  | succ k ih =>
    intro d m w v d' m' M r e
    have lists : ∀ (xs : List D) (vs : List V) (m : Mm) (w : Wd) ys m', Mem g w H m → Rvs g w xs vs → thr (frzN k) xs m = some (ys, m') → ∃ w', w.le w' ∧ Mem g w' H m' ∧ Rvs g w' ys vs := fun xs vs m w ys m' M r e => by
      obtain ⟨w', h1, h2, h3⟩ := thr_rel (R1 := Rv g) (R2 := Rv g) (fun le h => h.mono le) (fun le h => h.mono le) (fun x m w v y m' M r e => ih x m w v y m' M r e) xs vs m w ys m' M r.pair e
      exact ⟨w', h1, h2, .ofPair h3⟩
    have flds : ∀ (xs : List (Nat × D)) (vs : List (Str × V)) (m : Mm) (w : Wd) ys m', Mem g w H m → Rfs g w xs vs → thr (fun p h => (frzN k p.2 h).map fun q => ((p.1, q.1), q.2)) xs m = some (ys, m') → ∃ w', w.le w' ∧ Mem g w' H m' ∧ Rfs g w' ys vs := fun xs vs m w ys m' M r e => by
      obtain ⟨w', h1, h2, h3⟩ := thr_rel (R1 := Rf1 g) (R2 := Rf1 g) (fun le h => ⟨h.1, h.2.mono le⟩) (fun le h => ⟨h.1, h.2.mono le⟩) (fun x m w v y m' M r e => by
        rw [Option.map_eq_some_iff] at e
        obtain ⟨⟨d1, m1⟩, e1, e2⟩ := e
        cases e2
        obtain ⟨w', h1, h2, h3⟩ := ih x.2 m w v.2 d1 m1 M r.2 e1
        exact ⟨w', h1, h2, r.1, h3⟩) xs vs m w ys m' M r.pair e
      exact ⟨w', h1, h2, .ofPair h3⟩
    have kvs : ∀ (xs : List (Key × D)) (vs : List (Key × V)) (m : Mm) (w : Wd) ys m', Mem g w H m → Rkv g w xs vs → thr (fun p h => (frzN k p.2 h).map fun q => ((p.1, q.1), q.2)) xs m = some (ys, m') → ∃ w', w.le w' ∧ Mem g w' H m' ∧ Rkv g w' ys vs := fun xs vs m w ys m' M r e => by
      obtain ⟨w', h1, h2, h3⟩ := thr_rel (R1 := Rk1 g) (R2 := Rk1 g) (fun le h => ⟨h.1, h.2.mono le⟩) (fun le h => ⟨h.1, h.2.mono le⟩) (fun x m w v y m' M r e => by
        rw [Option.map_eq_some_iff] at e
        obtain ⟨⟨d1, m1⟩, e1, e2⟩ := e
        cases e2
        obtain ⟨w', h1, h2, h3⟩ := ih x.2 m w v.2 d1 m1 M r.2 e1
        exact ⟨w', h1, h2, r.1, h3⟩) xs vs m w ys m' M r.pair e
      exact ⟨w', h1, h2, .ofPair h3⟩
    simp only [frzN] at e
    by_cases hn : nr d = true
    · rw [if_pos hn] at e
      cases e
      exact ⟨w, Wd.le.refl _, M, r⟩
    rw [if_neg hn] at e
    cases r with
    | non => cases e
    | bl b => cases e
    | int i => cases e
    | str x => cases e
    | tup h r =>
      simp only [Option.map_eq_some_iff] at e
      obtain ⟨⟨ys, m1⟩, e1, e2⟩ := e
      cases e2
      obtain ⟨w', h1, h2, h3⟩ := lists _ _ _ _ _ _ M r e1
      exact ⟨w', h1, h2, .tup (sqT_mono h1.fr h) h3⟩
    | lst h r =>
      simp only [Option.map_eq_some_iff] at e
      obtain ⟨⟨ys, m1⟩, e1, e2⟩ := e
      cases e2
      obtain ⟨w', h1, h2, h3⟩ := lists _ _ _ _ _ _ M r e1
      exact ⟨w', h1, h2, .lst (h1.fr _ _ h) h3⟩
    | scr h r =>
      simp only [Option.map_eq_some_iff] at e
      obtain ⟨⟨ys, m1⟩, e1, e2⟩ := e
      cases e2
      obtain ⟨w', h1, h2, h3⟩ := lists _ _ _ _ _ _ M r e1
      exact ⟨w', h1, h2, .scr (sqL_mono h1.fr h) h3⟩
    | ins hc h r =>
      simp only [Option.map_eq_some_iff] at e
      obtain ⟨⟨ys, m1⟩, e1, e2⟩ := e
      cases e2
      obtain ⟨w', h1, h2, h3⟩ := flds _ _ _ _ _ _ M r e1
      exact ⟨w', h1, h2, .ins hc (h1.fr _ _ h) h3⟩
    | dct h r =>
      simp only [Option.map_eq_some_iff] at e
      obtain ⟨⟨ys, m1⟩, e1, e2⟩ := e
      cases e2
      obtain ⟨w', h1, h2, h3⟩ := kvs _ _ _ _ _ _ M r e1
      exact ⟨w', h1, h2, .dct (h1.fr _ _ h) h3⟩
    | ref n hn =>
      dsimp only at e
      split at e
      · rename_i xs en
        rw [Option.map_eq_some_iff] at e
        obtain ⟨⟨ys, m1⟩, e1, e2⟩ := e
        cases e2
        obtain ⟨vs, hv, rv⟩ := M.ob n _ en
        obtain ⟨le, M'⟩ := M.give en trivial hv
        obtain ⟨w', h1, h2, h3⟩ := lists _ _ _ _ _ _ M' (rv.mono le) e1
        exact ⟨w', le.trans h1, h2, .lst (h1.fr _ _ upd_same) h3⟩
      · rename_i C xs en
        rw [Option.map_eq_some_iff] at e
        obtain ⟨⟨ys, m1⟩, e1, e2⟩ := e
        cases e2
        obtain ⟨hc, dx, vs, hv, rv⟩ := M.ob n _ en
        obtain ⟨le, M'⟩ := M.give en trivial hv
        obtain ⟨w', h1, h2, h3⟩ := flds _ _ _ _ _ _ M' (rv.mono le) e1
        exact ⟨w', le.trans h1, h2, .ins hc (h1.fr _ _ upd_same) h3⟩
      · rename_i xs en
        rw [Option.map_eq_some_iff] at e
        obtain ⟨⟨ys, m1⟩, e1, e2⟩ := e
        cases e2
        obtain ⟨vs, hv, rv⟩ := M.ob n _ en
        obtain ⟨le, M'⟩ := M.give en trivial hv
        obtain ⟨w', h1, h2, h3⟩ := kvs _ _ _ _ _ _ M' (rv.mono le) e1
        exact ⟨w', le.trans h1, h2, .dct (h1.fr _ _ upd_same) h3⟩
      · cases e
end
theorem je_frz (ha : JE E N sc a ea) : JE E N sc (.frz a) ea := fun X W C tk => PE.imp (ha X W C tk) fun σ H Q h => by
  obtain ⟨w, sl, m, M, S, h⟩ := h
  unfold evalE at h
  refine rd_bind M S h fun d m1 w1 v H1 le1 M1 S1 r1 h1 => ?_
  unfold frzD at h1
  split at h1
  · rename_i d' m2 e
    obtain ⟨w2, le2, M2, r2⟩ := frzN_rel 9 d m1 w1 v d' m2 M1 r1 e
    exact h1 w2 v H1 le2 M2 r2
  · exact absurd h1 id

/-! ### what a statement leaves -/
def PostS (g : Gm) (w : Wd) (W : WX) (D : Ends) : Res Sx Fl → Prop
  | .ok .nx s => ∀ w' σ' H', w.le w' → Mem g w' H' s.hp → Slr g w' s.sl σ' → D.nx σ' H'
  | .ok .bk s => ∀ w' σ' H', w.le w' → Mem g w' H' s.hp → Slr g w' s.sl σ' → D.bk σ' H'
  | .ok .ct s => ∀ w' σ' H', w.le w' → Mem g w' H' s.hp → Slr g w' s.sl σ' → D.ct σ' H'
  | .ok (.rt d) s => ∀ w' v H', w.le w' → Mem g w' H' s.hp → Rv g w' d v → D.rt v H'
  | .exn C p s => ∀ w' σ' cls dx H', w.le w' → Mem g w' H' s.hp → Slr g w' s.sl σ' → XR g C p cls → W cls dx σ' H'
  | .bad => False
theorem PostS.mono {g : Gm} {w w' : Wd} {W : WX} {D : Ends} (le : w.le w') : ∀ {r : Res Sx Fl}, PostS g w W D r → PostS g w' W D r
  | .ok .nx _, h => fun u s H' l => h u s H' (le.trans l)
  | .ok .bk _, h => fun u s H' l => h u s H' (le.trans l)
  | .ok .ct _, h => fun u s H' l => h u s H' (le.trans l)
  | .ok (.rt _) _, h => fun u s H' l => h u s H' (le.trans l)
  | .exn _ _ _, h => fun u s c d H' l => h u s c d H' (le.trans l)
  | .bad, h => h
def rdS (E : En) (W : WX) (ms : MS) : TS := fun D σ H => ∃ w sl m, Mem E.g w H m ∧ Slr E.g w sl σ ∧ PostS E.g w W D (execS E.p E.c ms ⟨sl, m⟩)
def rdSs (E : En) (W : WX) (ms : List MS) : TS := fun D σ H => ∃ w sl m, Mem E.g w H m ∧ Slr E.g w sl σ ∧ PostS E.g w W D (execSs E.p E.c ms ⟨sl, m⟩)
/-- a body's context -/
structure Sok (E : En) (N : List Str) (sc : Scope) (fs : Str → Bool) (X : Cx) (W : WX) : Prop where
  C : Cok E N sc X
  fn : X.fn = fs
  tk : Takes X W
  po : PassesOwn (model X.prog X.w) X.A X.env X.xe
  kd : sc.kind = .function
def JS (E : En) (N : List Str) (sc : Scope) (fs : Str → Bool) (ms : MS) (st : Stmt) : Prop := ∀ X W, Sok E N sc fs X W → PS X st (rdS E W ms)
def JSs (E : En) (N : List Str) (sc : Scope) (fs : Str → Bool) (ms : List MS) (st : List Stmt) : Prop := ∀ X W, Sok E N sc fs X W → PSs X st (rdSs E W ms)
theorem PS.imp {X : Cx} {st : Stmt} {t t' : TS} (h : PS X st t) (k : ∀ D σ H, t' D σ H → t D σ H) : PS X st t' := ⟨fun pins s σ H D I q => h.run pins s σ H D I (k _ _ _ q)⟩
theorem PSs.imp {X : Cx} {st : List Stmt} {t t' : TS} (h : PSs X st t) (k : ∀ D σ H, t' D σ H → t D σ H) : PSs X st t' := ⟨fun pins s σ H D I q => h.run pins s σ H D I (k _ _ _ q)⟩
/-- an expression of a statement, what follows taken up -/
theorem up_bind {α β : Type} {Rl : Wd → α → β → Prop} {W : WX} {D : Ends} {σ : L2.St} {H : Hp} {Q' : β → Hp → Prop} {w : Wd} {sl : List (Option R.D)} {m : Mm} {r : List (Option R.D) → Mm → Res Mm α} {f : α → Mm → Res Sx Fl}
    (M : Mem E.g w H m) (S : Slr E.g w sl σ) (h : PostS E.g w W D (up sl (r sl m) f))
    (k : ∀ d m' w' v H', w.le w' → Mem E.g w' H' m' → Slr E.g w' sl σ → Rl w' d v → PostS E.g w' W D (f d m') → Q' v H') : rdOf Rl E W r σ H Q' := by
  refine ⟨w, sl, m, M, S, ?_⟩
  cases q : r sl m with
  | ok d m1 =>
    rw [q] at h
    exact fun w' v H' le M' rv => k d m1 w' v H' le M' (S.mono le) rv (PostS.mono le h)
  | exn C p m1 =>
    rw [q] at h
    exact fun w' cls dx H' le M' x => h w' σ cls dx H' le M' (S.mono le) x
  | bad => rw [q] at h; exact h

/-! ### small statements -/
theorem js_ex (hc : notComp ea = true) (ha : JE E N sc a ea) : JS E N sc fs (.ex a) (.Expr ea pos) := fun X W K => by
  refine PS.imp (ps_expr (ha X W K.C K.tk) (swaps_of hc)) fun D σ H h => ?_
  obtain ⟨w, sl, m, M, S, h⟩ := h
  unfold execS at h
  exact up_bind M S h fun d m1 w1 v H1 le1 M1 S1 r1 h1 => h1 w1 σ H1 (Wd.le.refl _) M1 S1
theorem js_ret (ha : JE E N sc a ea) : JS E N sc fs (.ret a) (.Return (some ea) pos) := fun X W K => by
  refine PS.imp (ps_ret (ha X W K.C K.tk)) fun D σ H h => ?_
  obtain ⟨w, sl, m, M, S, h⟩ := h
  unfold execS at h
  exact up_bind M S h fun d m1 w1 v H1 le1 M1 S1 r1 h1 => h1 w1 v H1 (Wd.le.refl _) M1 r1
theorem js_retn : JS E N sc fs .retn (.Return none pos) := fun X W K => PS.imp ps_retN fun D σ H h => by
  obtain ⟨w, sl, m, M, S, h⟩ := h
  unfold execS at h
  exact h w .non H (Wd.le.refl _) M .non
/-- what the comprehension of 'y = [..]' is stored by -/
def swapB (sc : Scope) (y : Str) (py : Pos) (e : Expr) : Bool := match e with
  | .ListComp _ _ scope p => (match sc.names.lookup y with | some .local => true | _ => false) && (py.line == p.line) && !(scope.names.any fun (n, k) => n == y && (k == .local || k == .cell))
  | _ => false
def isComp2 : Expr → Bool
  | .SetComp _ _ _ _ => false
  | .DictComp _ _ _ _ _ => false
  | _ => true
theorem swap_false {env : Env} {y : Str} {py : Pos} {l : Nat} {e : Expr} (hk : env.scope.kind = .function) (h2 : isComp2 e = true) (h : swapB env.scope y py e = false) : swapsWith e (some (.Name y py)) l env = pure false := by
  have hb : env.blockKind = .function := by unfold Env.blockKind; rw [hk]; rfl
  cases e with
  | ListComp elt gs scope p =>
    have e1 : swapsWith (.ListComp elt gs scope p) (some (.Name y py)) l env = pure (env.blockKind == .function && env.kindOf y == some .local && py.line == p.line && !(scope.names.any fun (n, k) => n == y && (k == .local || k == .cell))) := rfl
    rw [e1, hb]
    unfold swapB at h
    dsimp only at h
    have e2 : (env.kindOf y == some .local) = (match env.scope.names.lookup y with | some .local => true | _ => false) := by
      show (env.scope.names.lookup y == some .local) = _
      cases env.scope.names.lookup y with
      | none => rfl
      | some k => cases k <;> rfl
    rw [e2]
    have e3 : (ScopeKind.function == ScopeKind.function) = true := rfl
    rw [e3, Bool.true_and, h]
  | SetComp _ _ _ _ => cases h2
  | DictComp _ _ _ _ _ => cases h2
  | _ => rfl
theorem js_set {i : Nat} {x : Str} {pn : Pos} (h1 : N[i]? = some x) (h2 : locB sc fs x = true) (hc : isComp2 ea = true) (hw : swapB sc x pn ea = false) (ha : JE E N sc a ea) : JS E N sc fs (.set i a) (.Assign [.Name x pn] ea pos) := fun X W K => by
  have l := loc_of h2
  refine PS.imp (ps_set (X := X) (i := i) (by rw [K.C.Ns]; exact K.C.nd) (by rw [K.C.Ns]; exact h1) (by rw [K.C.sc]; exact l.1) (ha X W K.C K.tk) (swap_false (by rw [K.C.sc]; exact K.kd) hc (by rw [K.C.sc]; exact hw)) (by rw [K.fn, K.C.sc]; exact l.2)) fun D σ H h => ?_
  obtain ⟨w, sl, m, M, S, h⟩ := h
  unfold execS at h
  exact up_bind M S h fun d m1 w1 v H1 le1 M1 S1 r1 h1 => h1 w1 _ H1 (Wd.le.refl _) M1 (S1.set r1)
theorem js_setc {i : Nat} {x : Str} {pn : Pos} {obj : Bool} {elt : ME} {g : Tg} {it : It} {cond : Option ME} {own : List Nat} {eelt tg iter : Expr} {ifs : List Expr} {scope : Scope} {cpos : Pos} (h1 : N[i]? = some x) (hw : swapB sc x pn (.ListComp eelt [⟨tg, iter, ifs, 0⟩] scope cpos) = true)
    (ho : ∀ i ∈ own, i < N.length) (hg : ∀ i ∈ g.ix, i ∈ own) (hb : blkC N sc scope (ownOf N own) = true) (hns : notSetE iter = true)
    (hi : JI E N sc it tg iter) (ht : JG E N (relS scope sc) (fun x => scope.names.lookup x == some .cell) g tg) (hc : JC E N (relS scope sc) cond ifs) (he : JE E N (relS scope sc) elt eelt) :
    JS E N sc fs (.set i (.lc obj elt g it cond own)) (.Assign [.Name x pn] (.ListComp eelt [⟨tg, iter, ifs, 0⟩] scope cpos) pos) := fun X W K => by
  have C := K.C
  have hy : X.env.scope.names.lookup x = some .local ∧ (pn.line == cpos.line) = true ∧ (scope.names.any fun (n, k) => n == x && (k == .local || k == .cell)) = false := by
    rw [C.sc]
    unfold swapB at hw
    dsimp only at hw
    simp only [Bool.and_eq_true, Bool.not_eq_true'] at hw
    refine ⟨?_, hw.1.2, hw.2⟩
    have q := hw.1.1
    split at q
    · assumption
    · cases q
  have h := ps_setLc (X := X) (i := i) (own := ownOf N own) (pos := cpos) (spos := pos) C.calm (by rw [C.Ns]; exact C.nd) (by rw [C.Ns]; exact h1) hy.1 (sw_true (by rw [C.sc]; exact K.kd) hy.1 hy.2.1 hy.2.2) (hi X W C K.tk) (blkOk_by (by rw [C.Ns, C.sc]; exact hb))
    (fun s H A cl fp => ht _ (C.blk (s := s) (H := H)) rfl) (fun s H A cl fp => hc _ (C.blk (s := s) (H := H))) (fun s H A cl fp => he _ (fun _ _ _ _ => False) (C.blk (s := s) (H := H)) takes0) (noFold iter hns X.env)
  rw [ownOf_ix ho] at h
  refine PS.imp h fun D σ H h => ?_
  refine lc_read (K := X.K) (obj := obj) (W := W) hg ?_
  obtain ⟨w, sl, m, M, S, h⟩ := h
  unfold execS at h
  exact up_bind M S h fun d m1 w1 v H1 le1 M1 S1 r1 h1 => h1 w1 _ H1 (Wd.le.refl _) M1 (S1.set r1)
theorem swapsSole {t e : Expr} {l : Nat} {env : Env} (h : notComp e = true) : swapsWithSole [t] e l env = pure false := swaps_of h
def notTup : Expr → Bool
  | .Tuple _ _ _ => false
  | _ => true
theorem stores_none {t e : Expr} {env : Env} (h : notTup e = true) : swappedStores [t] e env = pure none := by
  unfold swappedStores
  cases t <;> cases e <;> first | rfl | cases h
theorem js_unp {g : Tg} {tg : Expr} (hs : notStar tg = true) (hc : notComp ea = true) (ht : notTup ea = true) (hg : JG E N sc fs g tg) (ha : JE E N sc a ea) : JS E N sc fs (.unp g a) (.Assign [tg] ea pos) := fun X W K => by
  refine PS.imp (ps_asg (ha X W K.C K.tk) (hg X K.C K.fn) (swapsSole hc) (stores_none ht) (assignEach_of hs)) fun D σ H h => ?_
  obtain ⟨w, sl, m, M, S, h⟩ := h
  unfold execS at h
  refine up_bind M S h fun d m1 w1 v H1 le1 M1 S1 r1 h1 => ?_
  split at h1
  · rename_i sl' e
    exact ⟨w1, m1, d, sl, sl', M1, r1, S1, e, fun σ' S' _ => h1 w1 σ' H1 (Wd.le.refl _) M1 S'⟩
  · exact absurd h1 id
theorem swaps_attr {e o : Expr} {f : Str} {p : Pos} {l : Nat} {env : Env} : swapsWith e (some (.Attribute o f p)) l env = pure false := by
  cases e <;> rfl
theorem swaps_sub {e o i : Expr} {p : Pos} {l : Nat} {env : Env} : swapsWithSole [.Subscript o i p] e l env = pure false := by
  show swapsWith e (some (.Subscript o i p)) l env = pure false
  cases e <;> rfl
theorem stores_sub {e o i : Expr} {p : Pos} {env : Env} : swappedStores [.Subscript o i p] e env = pure none := by
  unfold swappedStores
  cases e <;> rfl
/-- a field is stored -/
theorem set_field (G : Gok E) {w : Wd} {H : Hp} {m m' : Mm} {d y : D} {x u : V} {f : Nat} (hf : f < E.cf.natt) (M : Mem E.g w H m) (rd : Rv E.g w d x) (ry : Rv E.g w y u) (e : setFD d f y m = some m') :
    ∃ p Ci dx fvs, x = .ref p ∧ H p = some (.ins (E.g.cad Ci) dx fvs) ∧ Cls E.g.K (E.g.cad Ci) ∧ NoAttr E.g.K (E.g.cad Ci) (E.g.att f) ∧ fvs.length < 1000 ∧ Mem E.g w (upd H p (.ins (E.g.cad Ci) dx (L2.putF (E.g.att f) u fvs))) m' ∧ clsD m d = some Ci := by
  unfold setFD at e
  split at e
  · split at e
    · rename_i n Ci fs' en
      split at e
      · rename_i hl
        cases e
        cases rd with
        | ref n hn =>
          obtain ⟨hc, dx, fvs, h1, rf⟩ := M.ob _ _ en
          obtain ⟨c1, c2⟩ := G.cls Ci hc
          refine ⟨_, Ci, dx, fvs, rfl, h1, c1, c2 f hf, by rw [← rf.len]; omega, ?_, by simp only [clsD, en]⟩
          exact M.write en trivial trivial ⟨hc, dx, _, upd_same, rf.put G.inj ry⟩
      · cases e
    · cases e
  · cases e
theorem js_setf (G : Gok E) {o : ME} {eo : Expr} {f : Nat} {p : Pos} (hf : f < E.cf.natt) (ho : JE E N sc o eo) (ha : JE E N sc a ea) : JS E N sc fs (.setf o f a) (.Assign [.Attribute eo (E.g.att f) p] ea pos) := fun X W K => by
  refine PS.imp (ps_fld (ho X W K.C K.tk) (ha X W K.C K.tk) swaps_attr) fun D σ H h => ?_
  obtain ⟨w, sl, m, M, S, h⟩ := h
  unfold execS at h
  refine up_bind M S h fun d m1 w1 v H1 le1 M1 S1 r1 h1 => ?_
  refine up_bind M1 S1 h1 fun y m2 w2 u H2 le2 M2 S2 r2 h2 => ?_
  split at h2
  · rename_i m3 e
    obtain ⟨q, Ci, dx, fvs, rfl, h3, c1, c2, hl, M3, _⟩ := set_field G hf M2 r2 (r1.mono le2) e
    exact ⟨q, _, dx, fvs, rfl, h3, by rw [K.C.K]; exact c1, by rw [K.C.K]; exact c2, hl, h2 w2 σ _ (Wd.le.refl _) M3 S2⟩
  · exact absurd h2 id
/-- an item is stored -/
theorem set_item {w : Wd} {H : Hp} {m m' : Mm} {o i d : D} {x y u : V} (M : Mem E.g w H m) (ro : Rv E.g w o x) (ri : Rv E.g w i y) (rd : Rv E.g w d u) (e : setID o i d m = some m') :
    ∃ p vs k j, x = .ref p ∧ y = .int k ∧ H p = some (.lst vs) ∧ ixN vs.length k = some j ∧ Mem E.g w (upd H p (.lst (vs.set j u))) m' := by
  cases ro with
  | ref n hn =>
    cases ri with
    | int k =>
      simp only [setID] at e
      split at e
      · rename_i xs en
        split at e
        · rename_i j ej
          cases e
          obtain ⟨vs, h1, rv⟩ := M.ob _ _ en
          refine ⟨_, vs, k, j, rfl, rfl, h1, by rw [← rv.length]; exact ej, ?_⟩
          exact M.write en trivial trivial ⟨_, upd_same, rv.set rd⟩
        · cases e
      · cases e
    | _ => simp [setID] at e
  | _ => simp [setID] at e
theorem js_seti {o i : ME} {eo ei : Expr} {p : Pos} (hp : plainIxB ei = true) (ho : JE E N sc o eo) (hi : JE E N sc i ei) (ha : JE E N sc a ea) : JS E N sc fs (.seti o i a) (.Assign [.Subscript eo ei p] ea pos) := fun X W K => by
  have hasg : ∀ v, assign (.Subscript eo ei p) X.env v = (do
      let ov ← holding [v] (eval eo X.env)
      let iv ← holding [v, ov] (eval ei X.env)
      standAt p
      holding [v, ov, iv] (setItem ov iv v)
      release [v, ov, iv] []) := by
    intro v
    cases ei <;> first | rfl | cases hp
  refine PS.imp (ps_asg (ha X W K.C K.tk) (pg_sub (ho X W K.C K.tk) (hi X W K.C K.tk) set_list hasg) swaps_sub stores_sub rfl) fun D σ H h => ?_
  obtain ⟨w, sl, m, M, S, h⟩ := h
  unfold execS at h
  refine up_bind M S h fun d m1 w1 v H1 le1 M1 S1 r1 h1 => ?_
  refine up_bind M1 S1 h1 fun y m2 w2 u H2 le2 M2 S2 r2 h2 => ?_
  refine up_bind M2 S2 h2 fun z m3 w3 t H3 le3 M3 S3 r3 h3 => ?_
  split at h3
  · rename_i m4 e
    obtain ⟨q, vs, k, j, rfl, rfl, h4, h5, M4⟩ := set_item M3 (r2.mono le3) r3 ((r1.mono le2).mono le3) e
    exact ⟨q, vs, k, j, rfl, rfl, h4, h5, h3 w3 σ _ (Wd.le.refl _) M4 S3⟩
  · exact absurd h3 id
/-- += and -= of ints -/
def augF : Op → Int → Int → Int
  | .add, a, b => a + b
  | .sub, a, b => a - b
  | _, a, _ => a
theorem augD_rel {g : Gm} {w : Wd} {o : Op} {x y z : D} {v u : V} (rx : Rv g w x v) (ry : Rv g w y u) (e : augD o x y = some z) : ∃ a b, x = .int a ∧ y = .int b ∧ v = .int a ∧ u = .int b ∧ z = .int (augF o a b) := by
  cases rx with
  | int a =>
    cases ry with
    | int b =>
      simp only [augD] at e
      rw [Option.map_eq_some_iff] at e
      obtain ⟨k, e1, e2⟩ := e
      refine ⟨a, b, rfl, rfl, rfl, rfl, ?_⟩
      cases o <;> first | (cases e1; exact e2.symm) | cases e1
    | _ => simp [augD] at e
  | _ => simp [augD] at e
def augOp : Op → Bool
  | .add => true | .sub => true | _ => false
theorem ip_aug {X : Cx} {o : Op} (h : augOp o = true) : PIp X o.py (ipI (augF o)) := by
  cases o <;> first | exact ip_add | exact ip_sub | cases h
theorem js_aug {i : Nat} {x : Str} {pn : Pos} {o : Op} (h1 : N[i]? = some x) (h2 : locB sc fs x = true) (ho : augOp o = true) (ha : JE E N sc a ea) : JS E N sc fs (.aug i o a) (.AugAssign (.Name x pn) o.py ea pos) := fun X W K => by
  have l := loc_of h2
  refine PS.imp (ps_aug (X := X) (i := i) (by rw [K.C.Ns]; exact K.C.nd) (by rw [K.C.Ns]; exact h1) (by rw [K.C.sc]; exact l.1) (ha X W K.C K.tk) (ip_aug ho) (by rw [K.fn, K.C.sc]; exact l.2)) fun D σ H h => ?_
  obtain ⟨w, sl, m, M, S, h⟩ := h
  unfold execS at h
  dsimp only at h
  split at h
  · rename_i d e
    obtain ⟨v, hv, rv⟩ := S.at_ i d e
    refine ⟨v, hv, up_bind M S h fun y m1 w1 u H1 le1 M1 S1 r1 h2 => ?_⟩
    split at h2
    · rename_i z ez
      obtain ⟨a, b, rfl, rfl, rfl, rfl, rfl⟩ := augD_rel (rv.mono le1) r1 ez
      exact ⟨a, b, rfl, rfl, h2 w1 _ H1 (Wd.le.refl _) M1 (S1.set (.int _))⟩
    · exact absurd h2 id
  · exact absurd h id
theorem in_aug {X : Cx} {o : Op} (h : augOp o = true) : InOp X o.py (fun x y H Q => ∃ i j, x = .int i ∧ y = .int j ∧ Q (.int (augF o i j)) H) := by
  cases o <;> first | exact in_add | exact in_sub | cases h
theorem js_augf (G : Gok E) {o : ME} {eo : Expr} {f : Nat} {p : Pos} {op : Op} (hso : notSuper eo = true) (hf : f < E.cf.natt) (hop : augOp op = true) (ho : JE E N sc o eo) (ha : JE E N sc a ea) : JS E N sc fs (.augf o f op a) (.AugAssign (.Attribute eo (E.g.att f) p) op.py ea pos) := fun X W K => by
  refine PS.imp (ps_fldaug (ho X W K.C K.tk) (ha X W K.C K.tk) (in_aug hop)) fun D σ H h => ?_
  obtain ⟨w, sl, m, M, S, h⟩ := h
  unfold execS at h
  refine up_bind M S h fun d m1 w1 v H1 le1 M1 S1 r1 h1 => ?_
  split at h1
  · rename_i y ey
    obtain ⟨p, Ci, dx, fvs, u, rfl, h2, hc, h3, h4, ecl⟩ := inst_at G M1 r1 ey
    obtain ⟨c1, c2⟩ := G.cls Ci hc
    refine ⟨p, _, dx, fvs, u, rfl, h2, by rw [K.C.K]; exact c1, by rw [K.C.K]; exact c2 f hf, h3, up_bind M1 S1 h1 fun z m2 w2 t H2 le2 M2 S2 r2 h5 => ?_⟩
    split at h5
    · rename_i q eq
      obtain ⟨a, b, rfl, rfl, rfl, rfl, rfl⟩ := augD_rel (h4.mono le2) r2 eq
      split at h5
      · rename_i hcl
        split at h5
        · rename_i m3 e3
          obtain ⟨p', Ci', dx', fvs', e4, h6, c1', c2', hl, M3, ecl'⟩ := set_field G hf M2 (r1.mono le2) (.int _) e3
          cases e4
          rw [ecl, ecl'] at hcl
          cases hcl
          exact ⟨a, b, rfl, rfl, dx', fvs', h6, hl, h5 w2 σ _ (Wd.le.refl _) M3 S2⟩
        · exact absurd h5 id
      · exact absurd h5 id
    · exact absurd h5 id
  · exact absurd h1 id
/-- an item of a list, by values -/
theorem get_list {X : Cx} : PGet X (rIxL X.K) := by
  intro pins s σ H o i ov iv Q I ro ri h
  obtain ⟨p, xs, k, v, rfl, rfl, hq, he, q⟩ := h
  cases ro
  obtain ⟨t, rfl⟩ := ri
  obtain ⟨its, r, pl, hz⟩ := I.list hq
  obtain ⟨j, h1, h2, h3, h4, h5⟩ := atI_get he
  obtain ⟨u, eu, ru⟩ := r.get h2
  have hl := r.length
  have hn := line63
  have fin : EP X pins σ Q u s := ⟨v, H, I, ru, q⟩
  by_cases h0 : 0 ≤ k
  · have hj : k.toNat = j := by
      rw [seqIndex_of h0 h5] at h1
      exact Option.some.inj h1
    refine wpAny_getItem_list pl.isList h0 (by omega) ?_ fin
    rw [hj]
    simpa using eu
  · have hj : (k + (its.toArray.size : Int)).toNat = j := by
      rw [seqIndex_neg (by omega) h4] at h1
      rw [List.size_toArray, ← hl]
      exact Option.some.inj h1
    refine wpAny_getItem_list_neg pl.isList (by omega) (by rw [List.size_toArray]; omega) (by omega) ?_ fin
    rw [hj]
    simpa using eu
theorem js_augi {o i : ME} {eo ei : Expr} {p : Pos} {op : Op} (hp : plainIxB ei = true) (hop : augOp op = true) (ho : JE E N sc o eo) (hi : JE E N sc i ei) (ha : JE E N sc a ea) : JS E N sc fs (.augi o i op a) (.AugAssign (.Subscript eo ei p) op.py ea pos) := fun X W K => by
  have hst : ∀ ov iv new, augStore ei ov iv new = (do holding [new, ov, iv] (setItem ov iv new); release [new, ov, iv] []; pure .next) := by
    intro ov iv new
    cases ei <;> first | rfl | cases hp
  refine PS.imp (ps_augS (ho X W K.C K.tk) (hi X W K.C K.tk) get_list (ha X W K.C K.tk) (ip_aug hop) set_list hst) fun D σ H h => ?_
  obtain ⟨w, sl, m, M, S, h⟩ := h
  unfold execS at h
  refine up_bind M S h fun d m1 w1 v H1 le1 M1 S1 r1 h1 => ?_
  refine up_bind M1 S1 h1 fun y m2 w2 u H2 le2 M2 S2 r2 h2 => ?_
  split at h2
  · rename_i z ez
    have r1' := r1.mono le2
    cases r1' with
    | ref n hn =>
      cases r2 with
      | int k =>
        simp only [idxM] at ez
        split at ez
        · rename_i xs en
          obtain ⟨vs, hv, rv⟩ := M2.ob _ _ en
          obtain ⟨x, hx, rx⟩ := rv.atI ez
          refine ⟨_, vs, k, x, rfl, rfl, by rw [K.C.K]; exact SqL.of hv, hx, up_bind M2 S2 h2 fun q m3 w3 t H3 le3 M3 S3 r3 h3 => ?_⟩
          split at h3
          · rename_i z2 ez2
            obtain ⟨i1, i2, rfl, rfl, rfl, rfl, rfl⟩ := augD_rel (rx.mono le3) r3 ez2
            split at h3
            · rename_i m4 e4
              have rr := (Rv.ref (g := E.g) n hn).mono le3
              obtain ⟨q', us, k', j, e5, e6, h6, h7, M4⟩ := set_item M3 rr (.int k) (.int _) e4
              cases e6
              exact ⟨i1, i2, rfl, rfl, q', us, _, j, e5, rfl, h6, h7, h3 w3 σ _ (Wd.le.refl _) M4 S3⟩
            · exact absurd h3 id
          · exact absurd h3 id
        · cases ez
      | _ => simp [idxM] at ez
    | _ => simp [idxM] at ez
  · exact absurd h2 id

/-! ### if, for, while, blocks -/
theorem test_bind {W : WX} {D : Ends} {σ : L2.St} {H : Hp} {w : Wd} {sl : List (Option R.D)} {m : Mm} {k : ME} {f : Bool → Mm → Res Sx Fl} {Q : Bool → Hp → Prop} (M : Mem E.g w H m) (S : Slr E.g w sl σ)
    (h : PostS E.g w W D (up sl (evalE E.p E.c k sl m) fun x h => match truthD h x with | some b => f b h | none => .bad))
    (q : ∀ b m1 w1 H1, w.le w1 → Mem E.g w1 H1 m1 → Slr E.g w1 sl σ → PostS E.g w1 W D (f b m1) → Q b H1) : rdT E W k σ H Q := by
  refine ⟨w, sl, m, M, S, ?_⟩
  show Post _ _ _ _ _ (evalT E.p E.c k sl m)
  unfold evalT
  cases q1 : evalE E.p E.c k sl m with
  | bad => rw [q1] at h; exact absurd h id
  | exn C p m1 =>
    rw [q1] at h
    exact fun w' cls dx H' le M' x => h w' σ cls dx H' le M' (S.mono le) x
  | ok d m1 =>
    rw [q1, up_ok] at h
    rw [Res.bind_ok]
    cases q2 : truthD m1 d with
    | none => rw [q2] at h; exact absurd h id
    | some b =>
      rw [q2] at h
      intro w1 v H1 le1 M1 r1
      subst r1
      exact q b m1 w1 H1 le1 M1 (S.mono le1) (PostS.mono le1 h)
theorem js_ite {k : ME} {ek : Expr} {ms ns : List MS} {ss ts : List Stmt} (hk : JT E N sc k ek) (h1 : JSs E N sc fs ms ss) (h2 : JSs E N sc fs ns ts) : JS E N sc fs (.ite k ms ns) (.If ek ss ts pos) := fun X W K => by
  refine PS.imp (ps_if (hk X W K.C K.tk) (h1 X W K) (h2 X W K)) fun D σ H h => ?_
  obtain ⟨w, sl, m, M, S, h⟩ := h
  have e : execS E.p E.c (.ite k ms ns) ⟨sl, m⟩ = up sl (evalE E.p E.c k sl m) fun x h => match truthD h x with | some b => (fun (b : Bool) h => if b = true then execSs E.p E.c ms ⟨sl, h⟩ else execSs E.p E.c ns ⟨sl, h⟩) b h | none => .bad := by
    simp only [execS]
    congr 1
    funext x h
    cases truthD h x with
    | none => rfl
    | some b => cases b <;> rfl
  rw [e] at h
  refine test_bind M S h fun b m1 w1 H1 le1 M1 S1 h3 => ?_
  cases b with
  | true => exact ⟨w1, sl, m1, M1, S1, h3⟩
  | false => exact ⟨w1, sl, m1, M1, S1, h3⟩
theorem jss_nil : JSs E N sc fs [] [] := fun X W K => PSs.imp pss_nil fun D σ H h => by
  obtain ⟨w, sl, m, M, S, h⟩ := h
  unfold execSs at h
  exact h w σ H (Wd.le.refl _) M S
theorem jss_cons {ms : MS} {mss : List MS} {st : Stmt} {sts : List Stmt} (h1 : JS E N sc fs ms st) (h2 : JSs E N sc fs mss sts) : JSs E N sc fs (ms :: mss) (st :: sts) := fun X W K => by
  refine PSs.imp (pss_cons (h1 X W K) (h2 X W K)) fun D σ H h => ?_
  obtain ⟨w, sl, m, M, S, h⟩ := h
  refine ⟨w, sl, m, M, S, ?_⟩
  unfold execSs at h
  cases q : execS E.p E.c ms ⟨sl, m⟩ with
  | bad => rw [q] at h; exact absurd h id
  | exn C p s => rw [q] at h; exact h
  | ok f s =>
    rw [q, Res.bind_ok] at h
    cases f with
    | nx => exact fun w' σ' H' le M' S' => ⟨w', s.sl, s.hp, M', S', PostS.mono le h⟩
    | bk => exact h
    | ct => exact h
    | rt d => exact h
/-- a list is made such as nobody changes -/
theorem jss_frzv {i : Nat} {mss : List MS} {sts : List Stmt} (h2 : JSs E N sc fs mss sts) : JSs E N sc fs (.frzv i :: mss) sts := fun X W K => PSs.imp (h2 X W K) fun D σ H h => by
  obtain ⟨w, sl, m, M, S, h⟩ := h
  unfold execSs execS at h
  dsimp only at h
  cases q : sl[i]? with
  | none => rw [q] at h; exact absurd h id
  | some o =>
    cases o with
    | none => rw [q] at h; exact absurd h id
    | some x =>
      rw [q] at h
      dsimp only at h
      unfold frzD at h
      cases e : frzN 9 x m with
      | none => rw [e] at h; exact absurd h id
      | some r =>
        obtain ⟨d', m'⟩ := r
        rw [e] at h
        obtain ⟨v, hv, rv⟩ := S.at_ i x q
        obtain ⟨w', le, M', r'⟩ := frzN_rel 9 x m w v d' m' M rv e
        have S' : Slr E.g w' (sl.set i (some d')) σ := by
          refine ⟨by rw [List.length_set]; exact S.len, fun j d hj => ?_⟩
          by_cases hji : i = j
          · subst hji
            by_cases hi : i < sl.length
            · rw [List.getElem?_set_self hi] at hj
              cases hj
              exact ⟨v, hv, r'⟩
            · rw [List.getElem?_eq_none (by simpa using hi)] at hj; cases hj
          · rw [List.getElem?_set_ne hji] at hj
            obtain ⟨u, hu, ru⟩ := S.at_ j d hj
            exact ⟨u, hu, ru.mono le⟩
        have h : PostS E.g w W D (execSs E.p E.c mss ⟨sl.set i (some d'), m'⟩) := h
        exact ⟨w', _, m', M', S', PostS.mono le h⟩
theorem js_brk : JS E N sc fs .brk (.Break pos) := fun X W K => PS.imp ps_break fun D σ H h => by
  obtain ⟨w, sl, m, M, S, h⟩ := h
  unfold execS at h
  exact h w σ H (Wd.le.refl _) M S
theorem js_cont : JS E N sc fs .cont (.Continue pos) := fun X W K => PS.imp ps_continue fun D σ H h => by
  obtain ⟨w, sl, m, M, S, h⟩ := h
  unfold execS at h
  exact h w σ H (Wd.le.refl _) M S
theorem js_pass : JS E N sc fs .pass (.Pass pos) := fun X W K => PS.imp ps_pass fun D σ H h => by
  obtain ⟨w, sl, m, M, S, h⟩ := h
  unfold execS at h
  exact h w σ H (Wd.le.refl _) M S
theorem js_for {g : Tg} {it : It} {ms : List MS} {tg iter : Expr} {ss : List Stmt} (hns : notSetE iter = true) (hi : JI E N sc it tg iter) (hg : JG E N sc fs g tg) (hb : JSs E N sc fs ms ss) : JS E N sc fs (.for_ g it ms) (.For tg iter ss [] pos) := fun X W K => by
  refine PS.imp (ps_for K.po K.C.calm (hi X W K.C K.tk) (hg X K.C K.fn) (hb X W K) (noFold iter hns X.env)) fun D σ H h => ?_
  obtain ⟨w, sl, m, M, S, h⟩ := h
  unfold execS at h
  refine up_bind M S h fun xs m1 w1 J H1 le1 M1 S1 wk h1 => ?_
  generalize hF : (fun (x : R.D) (s : Sx) => (match bindT g x s.sl with | some sl => execSs E.p E.c ms ⟨sl, s.hp⟩ | none => .bad : Res Sx Fl)) = F at h1
  refine ⟨fun i k σ' H' => k = xs.length - i ∧ i ≤ xs.length ∧ ∃ w' sl' m', w1.le w' ∧ Mem E.g w' H' m' ∧ Slr E.g w' sl' σ' ∧ PostS E.g w' W D (forL F (xs.drop i) ⟨sl', m'⟩), ⟨_, rfl, Nat.zero_le _, w1, sl, m1, Wd.le.refl _, M1, S1, h1⟩, ?_⟩
  rintro i k σ' H' ⟨rfl, hi, w', sl', m', le', M', S', hp⟩
  by_cases hlt : i < xs.length
  · refine .inr ⟨wk.go i w' H' m' le' M' hlt, fun σ2 H2 => ∃ w' sl' m', w1.le w' ∧ Mem E.g w' H2 m' ∧ Slr E.g w' sl' σ2 ∧ PostS E.g w' W D (forL F (xs.drop (i + 1)) ⟨sl', m'⟩), fun σ2 H2 hn => ⟨xs.length - (i + 1), by omega, rfl, hlt, hn⟩, fun x H2 y => ?_⟩
    obtain ⟨d, w2, hd, le2, M2, rd⟩ := wk.yld i x w' H' H2 m' le' M' hlt y
    have ed : xs.drop i = d :: xs.drop (i + 1) := by
      rw [List.drop_eq_getElem_cons hlt]
      rw [List.getElem?_eq_getElem hlt] at hd
      rw [Option.some.inj hd]
    rw [ed] at hp
    have hp2 : PostS E.g w2 W D ((F d ⟨sl', m'⟩).bind fun r s => match r with
      | .nx => forL F (xs.drop (i + 1)) s
      | .ct => forL F (xs.drop (i + 1)) s
      | .bk => .ok .nx s
      | .rt d => .ok (.rt d) s) := PostS.mono le2 hp
    cases hbt : bindT g d sl' with
    | none =>
      rw [← hF] at hp2
      dsimp only at hp2
      rw [hbt] at hp2
      exact absurd hp2 id
    | some sl2 =>
      refine ⟨w2, m', d, sl', sl2, M2, rd, S'.mono le2, hbt, fun σ2 Sσ _ => ⟨w2, sl2, m', M2, Sσ, ?_⟩⟩
      have eF : F d ⟨sl', m'⟩ = execSs E.p E.c ms ⟨sl2, m'⟩ := by
        rw [← hF]
        dsimp only
        rw [hbt]
      rw [eF] at hp2
      cases q : execSs E.p E.c ms ⟨sl2, m'⟩ with
      | bad => rw [q] at hp2; exact absurd hp2 id
      | exn C p s => rw [q] at hp2; exact hp2
      | ok f s =>
        rw [q, Res.bind_ok] at hp2
        have le12 := le'.trans le2
        cases f with
        | nx => exact fun w3 σ3 H3 le3 M3 S3 => ⟨w3, s.sl, s.hp, le12.trans le3, M3, S3, PostS.mono le3 hp2⟩
        | ct => exact fun w3 σ3 H3 le3 M3 S3 => ⟨w3, s.sl, s.hp, le12.trans le3, M3, S3, PostS.mono le3 hp2⟩
        | bk => exact hp2
        | rt d => exact hp2
  · have e : i = xs.length := by omega
    subst e
    refine .inl ⟨wk.stop _ w' H' m' le' M' (Nat.le_refl _), ?_⟩
    rw [List.drop_length] at hp
    exact hp w' σ' H' (Wd.le.refl _) M' S'
theorem js_while {fuel : Nat} {k : ME} {ek : Expr} {ms : List MS} {ss : List Stmt} (hk : JT E N sc k ek) (hb : JSs E N sc fs ms ss) : JS E N sc fs (.while_ fuel k ms) (.While ek ss [] pos) := fun X W K => by
  refine PS.imp (ps_while K.po (hk X W K.C K.tk) (hb X W K)) fun D σ H h => ?_
  obtain ⟨w, sl, m, M, S, h⟩ := h
  unfold execS at h
  generalize hF : (fun (s : Sx) => up s.sl (evalE E.p E.c k s.sl s.hp) fun x h => (match truthD h x with
      | some true => (execSs E.p E.c ms ⟨s.sl, h⟩).bind fun r s => .ok (some r) s
      | some false => .ok none ⟨s.sl, h⟩
      | none => .bad : Res Sx (Option Fl))) = F at h
  refine ⟨fun n σ' H' => ∃ w' sl' m', Mem E.g w' H' m' ∧ Slr E.g w' sl' σ' ∧ PostS E.g w' W D (whileL F n ⟨sl', m'⟩), ⟨fuel, w, sl, m, M, S, h⟩, ?_⟩
  rintro n σ' H' ⟨w', sl', m', M', S', hp⟩
  cases n with
  | zero => exact absurd hp id
  | succ n =>
    have e : (F ⟨sl', m'⟩).bind (fun r s => (match r with
        | none => .ok .nx s
        | some .nx => whileL F n s
        | some .ct => whileL F n s
        | some .bk => .ok .nx s
        | some (.rt d) => .ok (.rt d) s : Res Sx Fl)) = up sl' (evalE E.p E.c k sl' m') fun x h => match truthD h x with
          | some b => (fun (b : Bool) h => if b = true then (execSs E.p E.c ms ⟨sl', h⟩).bind fun r s => (match r with
              | .nx => whileL F n s
              | .ct => whileL F n s
              | .bk => .ok .nx s
              | .rt d => .ok (.rt d) s : Res Sx Fl) else .ok .nx ⟨sl', h⟩) b h
          | none => .bad := by
      rw [← hF]
      dsimp only
      cases evalE E.p E.c k sl' m' with
      | bad => rfl
      | exn C p h => rfl
      | ok x h =>
        simp only [up_ok]
        cases truthD h x with
        | none => rfl
        | some b =>
          cases b with
          | false => rfl
          | true =>
            dsimp only
            cases execSs E.p E.c ms ⟨sl', h⟩ with
            | bad => rfl
            | exn C p s => rfl
            | ok r s => cases r <;> rfl
    have e2 : whileL F (n + 1) ⟨sl', m'⟩ = _ := e
    rw [e2] at hp
    refine test_bind M' S' hp fun b m1 w1 H1 le1 M1 S1 h3 => ?_
    cases b with
    | false => exact h3 w1 σ' H1 (Wd.le.refl _) M1 S1
    | true =>
      rw [if_pos rfl]
      refine ⟨fun σ2 H2 => ∃ w' sl' m', Mem E.g w' H2 m' ∧ Slr E.g w' sl' σ2 ∧ PostS E.g w' W D (whileL F n ⟨sl', m'⟩), fun σ2 H2 hn => ⟨n, Nat.lt_succ_self _, hn⟩, w1, sl', m1, M1, S1, ?_⟩
      rw [if_pos rfl] at h3
      cases q : execSs E.p E.c ms ⟨sl', m1⟩ with
      | bad => rw [q] at h3; exact absurd h3 id
      | exn C p s => rw [q] at h3; exact h3
      | ok f s =>
        rw [q, Res.bind_ok] at h3
        cases f with
        | nx => exact fun w3 σ3 H3 le3 M3 S3 => ⟨w3, s.sl, s.hp, M3, S3, PostS.mono le3 h3⟩
        | ct => exact fun w3 σ3 H3 le3 M3 S3 => ⟨w3, s.sl, s.hp, M3, S3, PostS.mono le3 h3⟩
        | bk => exact h3
        | rt d => exact h3
end R

/-! RSndA: a tree of R and a tree of the row, compared. -/
namespace R
open PySem PySem.Spec PyProof.Rows L2

def mConst : Cn → Const → Bool
  | .non, .none => true
  | .bl a, .bool b => decide (a = b)
  | .int i, .int j => decide (i = j)
  | .str x, .str y => decide (x = y)
  | _, _ => false
mutual
def mG (N : List Str) (sc : Scope) (fs : Str → Bool) : Tg → Expr → Bool
  | .nm i, .Name x _ => decide (N[i]? = some x) && locB sc fs x
  | .tp ts, .Tuple es _ _ => notStars es && mGs N sc fs ts es
  | _, _ => false
def mGs (N : List Str) (sc : Scope) (fs : Str → Bool) : List Tg → List Expr → Bool
  | [], [] => true
  | t :: ts, e :: es => notStar e && mG N sc fs t e && mGs N sc fs ts es
  | _, _ => false
end
def isTupE : Expr → Bool
  | .Tuple _ _ _ => true
  | _ => false
mutual
def mE (p : Pg) (cf : Cf) (N : List Str) : Bool → ME → Scope → Expr → Bool
  | t, .var i, sc, e => match e with
    | .Name x _ => decide (N[i]? = some x) && visB sc x && nmOk x
    | _ => false
  | t, .lit c, _, e => match e with
    | .Constant k _ _ => mConst c k
    | _ => false
  | t, .bin o _ a b, sc, e => match e with
    | .BinOp ea o' eb _ => decide (o' = o.py) && mE p cf N false a sc ea && mE p cf N false b sc eb
    | _ => false
  | t, .neg a, sc, e => match e with
    | .UnaryOp op ea _ => decide (op = .USub) && mE p cf N false a sc ea
    | _ => false
  | t, .cmp c a b, sc, e => match e with
    | .Compare ea [op] [eb] _ => decide (op = c.py) && mE p cf N false a sc ea && mE p cf N false b sc eb
    | _ => false
  | t, .isn ng a, sc, e => match e with
    | .Compare ea [op] [.Constant .none _ _] _ => decide (op = (if ng then .IsNot else .Is)) && mE p cf N false a sc ea
    | _ => false
  | t, .bop k es, sc, e => match e with
    | .BoolOp op ees _ => decide (op = boOp k) && mB p cf N t es sc ees
    | _ => false
  | t, .not_ a, sc, e => match e with
    | .UnaryOp op ea _ => decide (op = .Not) && mE p cf N t a sc ea
    | _ => false
  | t, .ife k a b, sc, e => match e with
    | .IfExp ek ea eb _ => !t && mE p cf N true k sc ek && mE p cf N false a sc ea && mE p cf N false b sc eb
    | _ => false
  | t, .call f es, sc, e => match e with
    | .Call (.Name x _) ees [] _ => decide (cf.fnm f = some x) && glB sc x && nmOk x && notStars ees && mEs p cf N es sc ees
    | _ => false
  | t, .make C es, sc, e => match e with
    | .Call (.Name x _) ees [] _ => decide (cf.cnm C = some x) && (p.cls[C]?).isSome && glB sc x && nmOk x && notStars ees && mEs p cf N es sc ees
    | _ => false
  | t, .meth o k es, sc, e => match e with
    | .Call (.Attribute eo m apos) ees [] pos => decide (m = cf.mnm k) && notSuper eo && notStars ees && decide (ees.length < 30) && (apos.endLine == pos.line) && mE p cf N false o sc eo && mEs p cf N es sc ees
    | _ => false
  | t, .blt b _ es, sc, e => match e with
    | .Call (.Name x _) ees [] _ => decide (x = b.nm) && glB sc b.nm && !ees.isEmpty && notStars ees && mEs p cf N es sc ees
    | _ => false
  | t, .bm b _ o es, sc, e => match e with
    | .Call (.Attribute eo m apos) ees [] pos => decide (m = b.nm) && notSuper eo && !ees.isEmpty && notStars ees && decide (ees.length < 30) && (apos.endLine == pos.line) && mE p cf N false o sc eo && mEs p cf N es sc ees
    | _ => false
  | t, .fld o f, sc, e => match e with
    | .Attribute eo x _ => decide (x = attOf cf.atl f) && decide (f < cf.natt) && notSuper eo && mE p cf N false o sc eo
    | _ => false
  | t, .idx a b, sc, e => match e with
    | .Subscript ea eb _ => plainIxB eb && mE p cf N false a sc ea && mE p cf N false b sc eb
    | _ => false
  | t, .slc _ a lo hi, sc, e => match e with
    | .Subscript ea (.Slice elo ehi none _) _ => mE p cf N false a sc ea && mO p cf N lo sc elo && mO p cf N hi sc ehi
    | _ => false
  | t, .rev _ a, sc, e => match e with
    | .Subscript ea (.Slice none none (some (.UnaryOp op (.Constant k _ _) _)) _) _ => decide (op = .USub) && decide (k = .int 1) && mE p cf N false a sc ea
    | _ => false
  | t, .lst _ es, sc, e => match e with
    | .List ees _ => notStars ees && mEs p cf N es sc ees
    | _ => false
  | t, .tup es, sc, e => match e with
    | .Tuple ees _ _ => notStars ees && mEs p cf N es sc ees
    | _ => false
  | t, .lc _ elt g it cond own, sc, e => match e with
    | .ListComp eelt [⟨tg, iter, ifs, as⟩] scope _ =>
    decide (as = 0) && own.all (fun i => decide (i < N.length)) && g.ix.all (fun i => own.contains i) && blkC N sc scope (ownOf N own) && notSetE iter && mI p cf N it sc tg iter && mG N (relS scope sc) (fun x => scope.names.lookup x == some .cell) g tg
      && mC p cf N cond (relS scope sc) ifs && mE p cf N false elt (relS scope sc) eelt
    | _ => false
  | t, .frz a, sc, e => !t && mE p cf N false a sc e
def mEs (p : Pg) (cf : Cf) (N : List Str) : List ME → Scope → List Expr → Bool
  | [], _, [] => true
  | a :: as, sc, e :: es => mE p cf N false a sc e && mEs p cf N as sc es
  | _, _, _ => false
def mB (p : Pg) (cf : Cf) (N : List Str) (t : Bool) : List ME → Scope → List Expr → Bool
  | [a], sc, [e] => mE p cf N t a sc e
  | a :: as, sc, e :: es => mE p cf N t a sc e && mB p cf N t as sc es
  | _, _, _ => false
def mO (p : Pg) (cf : Cf) (N : List Str) : Option ME → Scope → Option Expr → Bool
  | none, _, none => true
  | some a, sc, some e => mE p cf N false a sc e
  | _, _, _ => false
def mC (p : Pg) (cf : Cf) (N : List Str) : Option ME → Scope → List Expr → Bool
  | none, _, [] => true
  | some a, sc, [e] => mE p cf N true a sc e
  | _, _, _ => false
def mI (p : Pg) (cf : Cf) (N : List Str) : It → Scope → Expr → Expr → Bool
  | .seq a, sc, _, e => mE p cf N false a sc e
  | .rng1 a, sc, _, e => match e with
    | .Call (.Name x _) [ea] [] _ => decide (x = "range") && glB sc "range" && notStar ea && mE p cf N false a sc ea
    | _ => false
  | .rng3 a b c, sc, _, e => match e with
    | .Call (.Name x _) [ea, eb, ec] [] _ => decide (x = "range") && glB sc "range" && notStar ea && notStar eb && notStar ec && mE p cf N false a sc ea && mE p cf N false b sc eb && mE p cf N false c sc ec
    | _ => false
  | .zip a b, sc, tg, e => match e with
    | .Call (.Name x _) [ea, eb] [] _ => isTupE tg && decide (x = "zip") && glB sc "zip" && notStar ea && notStar eb && mE p cf N false a sc ea && mE p cf N false b sc eb
    | _ => false
  | .enum a, sc, tg, e => match e with
    | .Call (.Name x _) [ea] [] _ => isTupE tg && decide (x = "enumerate") && glB sc "enumerate" && notStar ea && mE p cf N false a sc ea
    | _ => false
end
variable {E : En} {N : List Str}
mutual
theorem mG_ok {fs : Str → Bool} {sc : Scope} : ∀ (t : Tg) (e : Expr), mG N sc fs t e = true → JG E N sc fs t e
  | .nm i, e, h => by
    cases e <;> first
      | (simp only [mG, Bool.and_eq_true, decide_eq_true_eq] at h; exact jg_nm h.1 h.2)
      | (simp [mG] at h; done)
  | .tp ts, e, h => by
    cases e <;> first
      | (simp only [mG, Bool.and_eq_true] at h; exact jg_tp h.1 (mGs_len ts _ h.2) (mGs_ok ts _ h.2))
      | (simp [mG] at h; done)
theorem mGs_ok {fs : Str → Bool} {sc : Scope} : ∀ (ts : List Tg) (es : List Expr), mGs N sc fs ts es = true → JGs E N sc fs ts es
  | [], [], _ => jgs_nil
  | t :: ts, e :: es, h => by
    simp only [mGs, Bool.and_eq_true] at h
    exact jgs_cons h.1.1 (mG_ok t e h.1.2) (mGs_ok ts es h.2)
  | [], _ :: _, h => by simp [mGs] at h
  | _ :: _, [], h => by simp [mGs] at h
theorem mGs_len {fs : Str → Bool} {sc : Scope} : ∀ (ts : List Tg) (es : List Expr), mGs N sc fs ts es = true → ts.length = es.length
  | [], [], _ => rfl
  | t :: ts, e :: es, h => by
    simp only [mGs, Bool.and_eq_true] at h
    rw [List.length_cons, List.length_cons, mGs_len ts es h.2]
  | [], _ :: _, h => by simp [mGs] at h
  | _ :: _, [], h => by simp [mGs] at h
end

/-- a value, or a test -/
def JX (E : En) (N : List Str) (sc : Scope) (t : Bool) (me : ME) (e : Expr) : Prop := if t = true then JT E N sc me e else JE E N sc me e
theorem jx_plain {sc : Scope} {t : Bool} {me : ME} {e : Expr} (h : JE E N sc me e) (hp : plainTest e = true) : JX E N sc t me e := by
  unfold JX
  cases t with
  | true => rw [if_pos rfl]; exact jt_val h hp
  | false => rw [if_neg Bool.false_ne_true]; exact h
theorem jx_e {sc : Scope} {me : ME} {e : Expr} (h : JX E N sc false me e) : JE E N sc me e := h
theorem jx_t {sc : Scope} {me : ME} {e : Expr} (h : JX E N sc true me e) : JT E N sc me e := h
def JB (E : En) (N : List Str) (sc : Scope) (t conj : Bool) (es : List ME) (ees : List Expr) : Prop := ∀ pos : Pos, if t = true then (∀ X W, Cok E N sc X → Takes X W → PW X (.BoolOp (boOp conj) ees pos) (rdT E W (.bop conj es))) else JE E N sc (.bop conj es) (.BoolOp (boOp conj) ees pos)
theorem isTup_of {e : Expr} (h : isTupE e = true) : ∃ es k p, e = .Tuple es k p := by
  cases e <;> first | exact ⟨_, _, _, rfl⟩ | cases h
theorem mConst_ok {sc : Scope} {t : Bool} {c : Cn} {k : Const} {u : _} {p : _} (h : mConst c k = true) : JX E N sc t (.lit c) (.Constant k u p) := by
  cases c <;> cases k <;> first
    | exact jx_plain je_non rfl
    | (simp only [mConst, decide_eq_true_eq] at h; subst h; first | exact jx_plain je_bl rfl | exact jx_plain je_int rfl | exact jx_plain je_str rfl)
    | (simp [mConst] at h; done)
set_option maxHeartbeats 4000000 in
mutual
theorem mE_ok (G : Gok E) : ∀ (me : ME) (t : Bool) (sc : Scope) (e : Expr), mE E.p E.cf N t me sc e = true → JX E N sc t me e
  | .var i, t, sc, e, h => by
    simp only [mE] at h
    split at h
    · simp only [Bool.and_eq_true, decide_eq_true_eq] at h
      exact jx_plain (je_var h.1.1 h.1.2 h.2) rfl
    · cases h
  | .lit c, t, sc, e, h => by
    simp only [mE] at h
    split at h
    · exact mConst_ok h
    · cases h
  | .bin o obj a b, t, sc, e, h => by
    simp only [mE] at h
    split at h
    · simp only [Bool.and_eq_true, decide_eq_true_eq] at h
      obtain ⟨⟨h1, h2⟩, h3⟩ := h
      subst h1
      exact jx_plain (je_bin (mE_ok G a false sc _ h2) (mE_ok G b false sc _ h3) o obj) rfl
    · cases h
  | .neg a, t, sc, e, h => by
    simp only [mE] at h
    split at h
    · simp only [Bool.and_eq_true, decide_eq_true_eq] at h
      obtain ⟨h1, h2⟩ := h
      subst h1
      exact jx_plain (je_neg (mE_ok G a false sc _ h2)) rfl
    · cases h
  | .cmp c a b, t, sc, e, h => by
    simp only [mE] at h
    split at h
    · simp only [Bool.and_eq_true, decide_eq_true_eq] at h
      obtain ⟨⟨h1, h2⟩, h3⟩ := h
      subst h1
      have ja := jx_e (mE_ok G a false sc _ h2)
      have jb := jx_e (mE_ok G b false sc _ h3)
      unfold JX
      cases t with
      | true => rw [if_pos rfl]; exact jt_cmp ja jb c
      | false => rw [if_neg Bool.false_ne_true]; exact je_cmp ja jb c
    · cases h
  | .isn ng a, t, sc, e, h => by
    simp only [mE] at h
    split at h
    · simp only [Bool.and_eq_true, decide_eq_true_eq] at h
      obtain ⟨h1, h2⟩ := h
      have ja := jx_e (mE_ok G a false sc _ h2)
      unfold JX
      cases ng with
      | true =>
        rw [if_pos rfl] at h1
        subst h1
        cases t with
        | true => rw [if_pos rfl]; exact jt_isnn ja
        | false => rw [if_neg Bool.false_ne_true]; exact je_isnn ja
      | false =>
        rw [if_neg Bool.false_ne_true] at h1
        subst h1
        cases t with
        | true => rw [if_pos rfl]; exact jt_isn ja
        | false => rw [if_neg Bool.false_ne_true]; exact je_isn ja
    · cases h
  | .bop k es, t, sc, e, h => by
    simp only [mE] at h
    split at h
    · simp only [Bool.and_eq_true, decide_eq_true_eq] at h
      obtain ⟨h1, h2⟩ := h
      subst h1
      have j := mB_ok G es t k sc _ h2
      unfold JX
      cases t with
      | true => rw [if_pos rfl]; exact fun X W C tk => ((j _) X W C tk).pt
      | false => rw [if_neg Bool.false_ne_true]; exact j _
    · cases h
  | .not_ a, t, sc, e, h => by
    simp only [mE] at h
    split at h
    · simp only [Bool.and_eq_true, decide_eq_true_eq] at h
      obtain ⟨h1, h2⟩ := h
      subst h1
      have j := mE_ok G a t sc _ h2
      unfold JX at j ⊢
      cases t with
      | true => rw [if_pos rfl] at j ⊢; exact jt_not j
      | false => rw [if_neg Bool.false_ne_true] at j ⊢; exact je_not j
    · cases h
  | .ife k a b, t, sc, e, h => by
    simp only [mE] at h
    split at h
    · simp only [Bool.and_eq_true, Bool.not_eq_true'] at h
      obtain ⟨⟨⟨h1, h2⟩, h3⟩, h4⟩ := h
      subst h1
      exact je_ife (jx_t (mE_ok G k true sc _ h2)) (jx_e (mE_ok G a false sc _ h3)) (jx_e (mE_ok G b false sc _ h4))
    · cases h
  | .call f es, t, sc, e, h => by
    simp only [mE] at h
    split at h
    · rename_i x _ ees pos
      simp only [Bool.and_eq_true, decide_eq_true_eq] at h
      obtain ⟨⟨⟨⟨h1, h2⟩, h3⟩, h4⟩, h5⟩ := h
      have j := mEs_ok G es sc _ h5 h4
      cases ees with
      | nil =>
        cases es with
        | nil => exact jx_plain (je_call0 G h1 h2 h3) rfl
        | cons a as => simp [mEs] at h5
      | cons e0 ees => exact jx_plain (je_call G h1 h2 h3 h4 j) rfl
    · cases h
  | .make C es, t, sc, e, h => by
    simp only [mE] at h
    split at h
    · rename_i x _ ees pos
      simp only [Bool.and_eq_true, decide_eq_true_eq] at h
      obtain ⟨⟨⟨⟨⟨h1, h0⟩, h2⟩, h3⟩, h4⟩, h5⟩ := h
      obtain ⟨cd, hcd⟩ := Option.isSome_iff_exists.mp h0
      have j := mEs_ok G es sc _ h5 h4
      cases ees with
      | nil =>
        cases es with
        | nil => exact jx_plain (je_make0 G hcd h1 h2 h3) rfl
        | cons a as => simp [mEs] at h5
      | cons e0 ees => exact jx_plain (je_make G hcd h1 h2 h3 h4 j) rfl
    · cases h
  | .meth o k es, t, sc, e, h => by
    simp only [mE] at h
    split at h
    · rename_i eo m apos ees pos
      simp only [Bool.and_eq_true, decide_eq_true_eq] at h
      obtain ⟨⟨⟨⟨⟨⟨h1, h2⟩, h3⟩, h4⟩, h5⟩, h6⟩, h7⟩ := h
      subst h1
      have jo := jx_e (mE_ok G o false sc _ h6)
      have j := mEs_ok G es sc _ h7 h3
      cases ees with
      | nil =>
        cases es with
        | nil => exact jx_plain (je_meth0 G h2 h5 jo) rfl
        | cons a as => simp [mEs] at h7
      | cons e0 ees => exact jx_plain (je_meth G h2 h3 h4 h5 jo j) rfl
    · cases h
  | .blt b obj es, t, sc, e, h => by
    simp only [mE] at h
    split at h
    · rename_i x _ ees pos
      simp only [Bool.and_eq_true, decide_eq_true_eq, Bool.not_eq_true'] at h
      obtain ⟨⟨⟨⟨h1, h2⟩, h3⟩, h4⟩, h5⟩ := h
      subst h1
      have j := mEs_ok G es sc _ h5 h4
      cases ees with
      | nil => simp at h3
      | cons e0 ees => exact jx_plain (je_blt G h2 h4 j) rfl
    · cases h
  | .bm b obj o es, t, sc, e, h => by
    simp only [mE] at h
    split at h
    · rename_i eo m apos ees pos
      simp only [Bool.and_eq_true, decide_eq_true_eq, Bool.not_eq_true'] at h
      obtain ⟨⟨⟨⟨⟨⟨⟨h1, h2⟩, h3⟩, h4⟩, h5⟩, h6⟩, h7⟩, h8⟩ := h
      subst h1
      have jo := jx_e (mE_ok G o false sc _ h7)
      have j := mEs_ok G es sc _ h8 h4
      cases ees with
      | nil => simp at h3
      | cons e0 ees => exact jx_plain (je_bm h2 h4 h5 h6 jo j) rfl
    · cases h
  | .fld o f, t, sc, e, h => by
    simp only [mE] at h
    split at h
    · rename_i eo x pos
      simp only [Bool.and_eq_true, decide_eq_true_eq] at h
      obtain ⟨⟨⟨h1, h2⟩, h3⟩, h4⟩ := h
      subst h1
      have j := je_fld (pos := by assumption) G h3 h2 (jx_e (mE_ok G o false sc _ h4))
      rw [G.att] at j
      exact jx_plain j rfl
    · cases h
  | .idx a b, t, sc, e, h => by
    simp only [mE] at h
    split at h
    · simp only [Bool.and_eq_true] at h
      obtain ⟨⟨h1, h2⟩, h3⟩ := h
      exact jx_plain (je_idx (jx_e (mE_ok G a false sc _ h2)) (jx_e (mE_ok G b false sc _ h3)) h1) rfl
    · cases h
  | .slc obj a lo hi, t, sc, e, h => by
    simp only [mE] at h
    split at h
    · simp only [Bool.and_eq_true] at h
      obtain ⟨⟨h1, h2⟩, h3⟩ := h
      exact jx_plain (je_slc (jx_e (mE_ok G a false sc _ h1)) (mO_ok G lo sc _ h2) (mO_ok G hi sc _ h3)) rfl
    · cases h
  | .rev obj a, t, sc, e, h => by
    simp only [mE] at h
    split at h
    · simp only [Bool.and_eq_true, decide_eq_true_eq] at h
      obtain ⟨⟨h1, h2⟩, h3⟩ := h
      subst h1
      subst h2
      exact jx_plain (je_rev (jx_e (mE_ok G a false sc _ h3))) rfl
    · cases h
  | .lst obj es, t, sc, e, h => by
    simp only [mE] at h
    split at h
    · simp only [Bool.and_eq_true] at h
      exact jx_plain (je_lst (mEs_ok G es sc _ h.2 h.1)) rfl
    · cases h
  | .tup es, t, sc, e, h => by
    simp only [mE] at h
    split at h
    · simp only [Bool.and_eq_true] at h
      exact jx_plain (je_tup (mEs_ok G es sc _ h.2 h.1)) rfl
    · cases h
  | .lc obj elt g it cond own, t, sc, e, h => by
    simp only [mE] at h
    split at h
    · rename_i eelt tg iter ifs as scope pos
      simp only [Bool.and_eq_true, decide_eq_true_eq, List.all_eq_true] at h
      obtain ⟨⟨⟨⟨⟨⟨⟨⟨h1, h2⟩, h3⟩, h4⟩, h5⟩, h6⟩, h7⟩, h8⟩, h9⟩ := h
      subst h1
      refine jx_plain (je_lc h2 (fun i hi => by simpa using h3 i hi) h4 h5 (mI_ok G it sc _ _ h6) (mG_ok g _ h7) ?_ (jx_e (mE_ok G elt false _ _ h9))) rfl
      exact mC_ok G cond _ _ h8
    · cases h
  | .frz a, t, sc, e, h => by
    simp only [mE, Bool.and_eq_true, Bool.not_eq_true'] at h
    obtain ⟨h1, h2⟩ := h
    subst h1
    exact je_frz (jx_e (mE_ok G a false sc _ h2))
theorem mEs_ok (G : Gok E) : ∀ (es : List ME) (sc : Scope) (ees : List Expr), mEs E.p E.cf N es sc ees = true → notStars ees = true → JEs E N sc es ees
  | [], sc, [], _, _ => jes_nil
  | a :: as, sc, e :: es, h, hs => by
    simp only [mEs, Bool.and_eq_true] at h
    have hs2 : notStar e = true ∧ notStars es = true := by
      unfold notStars at hs ⊢
      simpa [List.all_cons, Bool.and_eq_true] using hs
    exact jes_cons (jx_e (mE_ok G a false sc e h.1)) hs2.1 (mEs_ok G as sc es h.2 hs2.2)
  | [], sc, _ :: _, h, _ => by simp [mEs] at h
  | _ :: _, sc, [], h, _ => by simp [mEs] at h
theorem mB_ok (G : Gok E) : ∀ (es : List ME) (t conj : Bool) (sc : Scope) (ees : List Expr), mB E.p E.cf N t es sc ees = true → JB E N sc t conj es ees
  | [], t, conj, sc, ees, h => by cases ees <;> simp [mB] at h
  | [a], t, conj, sc, ees, h => by
    rcases ees with _ | ⟨e, _ | ⟨e2, es⟩⟩
    · simp [mB] at h
    · simp only [mB] at h
      have j := mE_ok G a t sc e h
      intro pos
      unfold JX at j
      cases t with
      | true => rw [if_pos rfl] at j ⊢; exact jt_bop1 j
      | false => rw [if_neg Bool.false_ne_true] at j ⊢; exact je_bop1 j
    · simp [mB] at h
  | a :: b :: es, t, conj, sc, ees, h => by
    rcases ees with _ | ⟨e, _ | ⟨e2, ees⟩⟩
    · simp [mB] at h
    · simp [mB] at h
    · have h : (mE E.p E.cf N t a sc e && mB E.p E.cf N t (b :: es) sc (e2 :: ees)) = true := by simpa only [mB] using h
      rw [Bool.and_eq_true] at h
      have j := mE_ok G a t sc e h.1
      have jb := mB_ok G (b :: es) t conj sc _ h.2
      intro pos
      have jb := jb pos
      unfold JX at j
      cases t with
      | true => rw [if_pos rfl] at j jb ⊢; exact jt_bop j jb
      | false => rw [if_neg Bool.false_ne_true] at j jb ⊢; exact je_bop j jb
theorem mO_ok (G : Gok E) : ∀ (o : Option ME) (sc : Scope) (e : Option Expr), mO E.p E.cf N o sc e = true → JO E N sc o e
  | none, sc, none, _ => jo_none
  | some a, sc, some e, h => by
    simp only [mO] at h
    exact jo_some (jx_e (mE_ok G a false sc e h))
  | none, sc, some _, h => by simp [mO] at h
  | some _, sc, none, h => by simp [mO] at h
theorem mC_ok (G : Gok E) : ∀ (o : Option ME) (sc : Scope) (e : List Expr), mC E.p E.cf N o sc e = true → JC E N sc o e
  | none, sc, [], _ => jc_none
  | some a, sc, [e], h => by
    simp only [mC] at h
    exact jc_some (jx_t (mE_ok G a true sc e h))
  | none, sc, _ :: _, h => by simp [mC] at h
  | some _, sc, [], h => by simp [mC] at h
  | some _, sc, _ :: _ :: _, h => by simp [mC] at h
theorem mI_ok (G : Gok E) : ∀ (it : It) (sc : Scope) (tg e : Expr), mI E.p E.cf N it sc tg e = true → JI E N sc it tg e
  | .seq a, sc, tg, e, h => by
    simp only [mI] at h
    exact ji_seq (jx_e (mE_ok G a false sc e h))
  | .rng1 a, sc, tg, e, h => by
    simp only [mI] at h
    split at h
    · simp only [Bool.and_eq_true, decide_eq_true_eq] at h
      obtain ⟨⟨⟨h1, h2⟩, h3⟩, h4⟩ := h
      subst h1
      exact ji_rng1 G h2 h3 (jx_e (mE_ok G a false sc _ h4))
    · cases h
  | .rng3 a b c, sc, tg, e, h => by
    simp only [mI] at h
    split at h
    · simp only [Bool.and_eq_true, decide_eq_true_eq] at h
      obtain ⟨⟨⟨⟨⟨⟨⟨h1, h2⟩, h3⟩, h4⟩, h5⟩, h6⟩, h7⟩, h8⟩ := h
      subst h1
      exact ji_rng3 G h2 h3 h4 h5 (jx_e (mE_ok G a false sc _ h6)) (jx_e (mE_ok G b false sc _ h7)) (jx_e (mE_ok G c false sc _ h8))
    · cases h
  | .zip a b, sc, tg, e, h => by
    simp only [mI] at h
    split at h
    · simp only [Bool.and_eq_true, decide_eq_true_eq] at h
      obtain ⟨⟨⟨⟨⟨⟨h0, h1⟩, h2⟩, h3⟩, h4⟩, h5⟩, h6⟩ := h
      subst h1
      obtain ⟨es, k, p, rfl⟩ := isTup_of h0
      exact ji_zip G h2 h3 h4 (jx_e (mE_ok G a false sc _ h5)) (jx_e (mE_ok G b false sc _ h6))
    · cases h
  | .enum a, sc, tg, e, h => by
    simp only [mI] at h
    split at h
    · simp only [Bool.and_eq_true, decide_eq_true_eq] at h
      obtain ⟨⟨⟨⟨h0, h1⟩, h2⟩, h3⟩, h4⟩ := h
      subst h1
      obtain ⟨es, k, p, rfl⟩ := isTup_of h0
      exact ji_enum G h2 h3 (jx_e (mE_ok G a false sc _ h4))
    · cases h
end
end R

/-! RSndB: statements of R and of the row, compared. -/
namespace R
open PySem PySem.Spec PyProof.Rows L2

def isFrzv : MS → Bool
  | .frzv _ => true
  | _ => false
def isLc : ME → Bool
  | .lc _ _ _ _ _ _ => true
  | _ => false
mutual
def mS (p : Pg) (cf : Cf) (N : List Str) (sc : Scope) (fs : Str → Bool) : MS → Stmt → Bool
  | .ex a, s => match s with
    | .Expr ea _ => notComp ea && mE p cf N false a sc ea
    | _ => false
  | .ret a, s => match s with
    | .Return (some ea) _ => mE p cf N false a sc ea
    | _ => false
  | .retn, s => match s with
    | .Return none _ => true
    | _ => false
  | .set i a, s => match s with
    | .Assign [.Name x pn] ea _ => decide (N[i]? = some x) && locB sc fs x && isComp2 ea && (!swapB sc x pn ea || isLc a) && mE p cf N false a sc ea
    | _ => false
  | .unp g a, s => match s with
    | .Assign [tg] ea _ => notStar tg && notComp ea && notTup ea && mG N sc fs g tg && mE p cf N false a sc ea
    | _ => false
  | .setf o f a, s => match s with
    | .Assign [.Attribute eo x _] ea _ => decide (x = attOf cf.atl f) && decide (f < cf.natt) && mE p cf N false o sc eo && mE p cf N false a sc ea
    | _ => false
  | .seti o i a, s => match s with
    | .Assign [.Subscript eo ei _] ea _ => plainIxB ei && mE p cf N false o sc eo && mE p cf N false i sc ei && mE p cf N false a sc ea
    | _ => false
  | .aug i o a, s => match s with
    | .AugAssign (.Name x _) op ea _ => decide (op = o.py) && decide (N[i]? = some x) && locB sc fs x && augOp o && mE p cf N false a sc ea
    | _ => false
  | .augf o f op a, s => match s with
    | .AugAssign (.Attribute eo x _) op' ea _ => decide (op' = op.py) && decide (x = attOf cf.atl f) && decide (f < cf.natt) && notSuper eo && augOp op && mE p cf N false o sc eo && mE p cf N false a sc ea
    | _ => false
  | .augi o i op a, s => match s with
    | .AugAssign (.Subscript eo ei _) op' ea _ => decide (op' = op.py) && plainIxB ei && augOp op && mE p cf N false o sc eo && mE p cf N false i sc ei && mE p cf N false a sc ea
    | _ => false
  | .ite k a b, s => match s with
    | .If ek ss ts _ => mE p cf N true k sc ek && mSs p cf N sc fs a ss && mSs p cf N sc fs b ts
    | _ => false
  | .for_ g it b, s => match s with
    | .For tg iter ss [] _ => notSetE iter && mI p cf N it sc tg iter && mG N sc fs g tg && mSs p cf N sc fs b ss
    | _ => false
  | .while_ _ k b, s => match s with
    | .While ek ss [] _ => mE p cf N true k sc ek && mSs p cf N sc fs b ss
    | _ => false
  | .brk, s => match s with
    | .Break _ => true
    | _ => false
  | .cont, s => match s with
    | .Continue _ => true
    | _ => false
  | .pass, s => match s with
    | .Pass _ => true
    | _ => false
  | .frzv _, _ => false
def mSs (p : Pg) (cf : Cf) (N : List Str) (sc : Scope) (fs : Str → Bool) : List MS → List Stmt → Bool
  | [], [] => true
  | m :: ms, ss => if isFrzv m = true then mSs p cf N sc fs ms ss else match ss with
    | s :: ss => mS p cf N sc fs m s && mSs p cf N sc fs ms ss
    | [] => false
  | [], _ :: _ => false
end
variable {E : En} {N : List Str} {sc : Scope} {fs : Str → Bool}
theorem setc_ok (G : Gok E) {i : Nat} {x : Str} {pn pos : Pos} {a : ME} {ea : Expr} (h1 : N[i]? = some x) (hw : swapB sc x pn ea = true) (hl : isLc a = true) (h : mE E.p E.cf N false a sc ea = true) : JS E N sc fs (.set i a) (.Assign [.Name x pn] ea pos) := by
  cases a with
  | lc obj elt g it cond own =>
    simp only [mE] at h
    split at h
    · rename_i eelt tg iter ifs as scope cpos
      simp only [Bool.and_eq_true, decide_eq_true_eq, List.all_eq_true] at h
      obtain ⟨⟨⟨⟨⟨⟨⟨⟨q1, q2⟩, q3⟩, q4⟩, q5⟩, q6⟩, q7⟩, q8⟩, q9⟩ := h
      subst q1
      exact js_setc h1 hw q2 (fun i hi => by simpa using q3 i hi) q4 q5 (mI_ok G it sc _ _ q6) (mG_ok g _ q7) (mC_ok G cond _ _ q8) (jx_e (mE_ok G elt false _ _ q9))
    · cases h
  | _ => cases hl
set_option maxHeartbeats 4000000 in
mutual
theorem mS_ok (G : Gok E) : ∀ (ms : MS) (st : Stmt), mS E.p E.cf N sc fs ms st = true → JS E N sc fs ms st
  | .ex a, s, h => by
    simp only [mS] at h
    split at h
    · rw [Bool.and_eq_true] at h
      exact js_ex h.1 (jx_e (mE_ok G a false sc _ h.2))
    · cases h
  | .ret a, s, h => by
    simp only [mS] at h
    split at h
    · exact js_ret (jx_e (mE_ok G a false sc _ h))
    · cases h
  | .retn, s, h => by
    simp only [mS] at h
    split at h
    · exact js_retn
    · cases h
  | .set i a, s, h => by
    simp only [mS] at h
    split at h
    · rename_i x pn ea _
      simp only [Bool.and_eq_true, decide_eq_true_eq, Bool.or_eq_true, Bool.not_eq_true'] at h
      obtain ⟨⟨⟨⟨h1, h2⟩, h3⟩, h4⟩, h5⟩ := h
      by_cases q : swapB sc x pn ea = false
      · exact js_set h1 h2 h3 q (jx_e (mE_ok G a false sc _ h5))
      · rcases h4 with h4 | h4
        · exact absurd h4 q
        · exact setc_ok G h1 (by simpa using q) h4 h5
    · cases h
  | .unp g a, s, h => by
    simp only [mS] at h
    split at h
    · simp only [Bool.and_eq_true] at h
      obtain ⟨⟨⟨⟨h1, h2⟩, h3⟩, h4⟩, h5⟩ := h
      exact js_unp h1 h2 h3 (mG_ok g _ h4) (jx_e (mE_ok G a false sc _ h5))
    · cases h
  | .setf o f a, s, h => by
    simp only [mS] at h
    split at h
    · simp only [Bool.and_eq_true, decide_eq_true_eq] at h
      obtain ⟨⟨⟨h1, h2⟩, h3⟩, h4⟩ := h
      subst h1
      rw [← G.att]
      exact js_setf G h2 (jx_e (mE_ok G o false sc _ h3)) (jx_e (mE_ok G a false sc _ h4))
    · cases h
  | .seti o i a, s, h => by
    simp only [mS] at h
    split at h
    · simp only [Bool.and_eq_true] at h
      obtain ⟨⟨⟨h1, h2⟩, h3⟩, h4⟩ := h
      exact js_seti h1 (jx_e (mE_ok G o false sc _ h2)) (jx_e (mE_ok G i false sc _ h3)) (jx_e (mE_ok G a false sc _ h4))
    · cases h
  | .aug i o a, s, h => by
    simp only [mS] at h
    split at h
    · simp only [Bool.and_eq_true, decide_eq_true_eq] at h
      obtain ⟨⟨⟨⟨h1, h2⟩, h3⟩, h4⟩, h5⟩ := h
      subst h1
      exact js_aug h2 h3 h4 (jx_e (mE_ok G a false sc _ h5))
    · cases h
  | .augf o f op a, s, h => by
    simp only [mS] at h
    split at h
    · simp only [Bool.and_eq_true, decide_eq_true_eq] at h
      obtain ⟨⟨⟨⟨⟨⟨h1, h2⟩, h3⟩, h4⟩, h5⟩, h6⟩, h7⟩ := h
      subst h1
      subst h2
      rw [← G.att]
      exact js_augf G h4 h3 h5 (jx_e (mE_ok G o false sc _ h6)) (jx_e (mE_ok G a false sc _ h7))
    · cases h
  | .augi o i op a, s, h => by
    simp only [mS] at h
    split at h
    · simp only [Bool.and_eq_true, decide_eq_true_eq] at h
      obtain ⟨⟨⟨⟨⟨h1, h2⟩, h3⟩, h4⟩, h5⟩, h6⟩ := h
      subst h1
      exact js_augi h2 h3 (jx_e (mE_ok G o false sc _ h4)) (jx_e (mE_ok G i false sc _ h5)) (jx_e (mE_ok G a false sc _ h6))
    · cases h
  | .ite k a b, s, h => by
    simp only [mS] at h
    split at h
    · simp only [Bool.and_eq_true] at h
      obtain ⟨⟨h1, h2⟩, h3⟩ := h
      exact js_ite (jx_t (mE_ok G k true sc _ h1)) (mSs_ok G a _ h2) (mSs_ok G b _ h3)
    · cases h
  | .for_ g it b, s, h => by
    simp only [mS] at h
    split at h
    · simp only [Bool.and_eq_true] at h
      obtain ⟨⟨⟨h1, h2⟩, h3⟩, h4⟩ := h
      exact js_for h1 (mI_ok G it sc _ _ h2) (mG_ok g _ h3) (mSs_ok G b _ h4)
    · cases h
  | .while_ n k b, s, h => by
    simp only [mS] at h
    split at h
    · simp only [Bool.and_eq_true] at h
      exact js_while (jx_t (mE_ok G k true sc _ h.1)) (mSs_ok G b _ h.2)
    · cases h
  | .brk, s, h => by
    simp only [mS] at h
    split at h
    · exact js_brk
    · cases h
  | .cont, s, h => by
    simp only [mS] at h
    split at h
    · exact js_cont
    · cases h
  | .pass, s, h => by
    simp only [mS] at h
    split at h
    · exact js_pass
    · cases h
  | .frzv _, s, h => by
    simp [mS] at h
theorem mSs_ok (G : Gok E) : ∀ (ms : List MS) (sts : List Stmt), mSs E.p E.cf N sc fs ms sts = true → JSs E N sc fs ms sts
  | [], [], _ => jss_nil
  | [], _ :: _, h => by simp [mSs] at h
  | m :: ms, ss, h => by
    have h : (if isFrzv m = true then mSs E.p E.cf N sc fs ms ss else match ss with
      | s :: ss => mS E.p E.cf N sc fs m s && mSs E.p E.cf N sc fs ms ss
      | [] => false) = true := by
      cases ss <;> simpa only [mSs] using h
    by_cases q : isFrzv m = true
    · rw [if_pos q] at h
      cases m <;> first | exact jss_frzv (mSs_ok G ms ss h) | cases q
    · rw [if_neg q] at h
      cases ss with
      | nil => cases h
      | cons s ss =>
        simp only [Bool.and_eq_true] at h
        exact jss_cons (mS_ok G m s h.1) (mSs_ok G ms ss h.2)
end
end R

/-! RSndC: a def's end, and that each matched def keeps R's promise. -/
namespace R
open PySem PySem.Spec PyProof.Rows L2

section
variable {g : Gm} {w w1 w2 : Wd} {H H1 : Hp} {m m1 : Mm}
/-! ### values without ids -/
mutual
theorem Rv.nr (le : ∀ a o, w1.F a = some o → w2.F a = some o) : ∀ {d : D} {v : V}, R.nr d = true → Rv g w1 d v → Rv g w2 d v
  | _, _, _, .non => .non
  | _, _, _, .bl b => .bl b
  | _, _, _, .int i => .int i
  | _, _, _, .str x => .str x
  | _, _, h, .tup q r => .tup (sqT_mono le q) (Rvs.nr le (by simpa [R.nr] using h) r)
  | _, _, h, .lst q r => .lst (le _ _ q) (Rvs.nr le (by simpa [R.nr] using h) r)
  | _, _, h, .scr q r => .scr (sqL_mono le q) (Rvs.nr le (by simpa [R.nr] using h) r)
  | _, _, h, .dct q r => .dct (le _ _ q) (Rkv.nr le (by simpa [R.nr] using h) r)
  | _, _, h, .ins hc q r => .ins hc (le _ _ q) (Rfs.nr le (by simpa [R.nr] using h) r)
  | _, _, h, .ref _ _ => by simp [R.nr] at h
theorem Rvs.nr (le : ∀ a o, w1.F a = some o → w2.F a = some o) : ∀ {d : List D} {v : List V}, nrs d = true → Rvs g w1 d v → Rvs g w2 d v
  | _, _, _, .nil => .nil
  | _, _, h, .cons q r => by
    simp only [nrs, Bool.and_eq_true] at h
    exact .cons (Rv.nr le h.1 q) (Rvs.nr le h.2 r)
theorem Rkv.nr (le : ∀ a o, w1.F a = some o → w2.F a = some o) : ∀ {d : List (Key × D)} {v : List (Key × V)}, nrk d = true → Rkv g w1 d v → Rkv g w2 d v
  | _, _, _, .nil => .nil
  | _, _, h, .cons q r => by
    simp only [nrk, Bool.and_eq_true] at h
    exact .cons (Rv.nr le h.1 q) (Rkv.nr le h.2 r)
theorem Rfs.nr (le : ∀ a o, w1.F a = some o → w2.F a = some o) : ∀ {d : List (Nat × D)} {v : List (Str × V)}, nrf d = true → Rfs g w1 d v → Rfs g w2 d v
  | _, _, _, .nil => .nil
  | _, _, h, .cons q r => by
    simp only [nrf, Bool.and_eq_true] at h
    exact .cons (Rv.nr le h.1 q) (Rfs.nr le h.2 r)
end
theorem mapM_rel {α β γ : Type} {R1 : α → γ → Prop} {R2 : β → γ → Prop} {f : α → Option β} (hf : ∀ x v y, R1 x v → f x = some y → R2 y v) : ∀ {xs : List α} {vs : List γ} {ys : List β}, Paired R1 xs vs → xs.mapM f = some ys → Paired R2 ys vs := by
  intro xs
  induction xs with
  | nil =>
    intro vs ys r e
    cases r
    simp at e
    subst e
    exact .nil
  | cons x xs ih =>
    intro vs ys r e
    cases r with
    | cons r1 rr =>
      rw [List.mapM_cons] at e
      cases e1 : f x with
      | none => rw [e1] at e; simp at e
      | some y =>
        cases e2 : xs.mapM f with
        | none => rw [e1, e2] at e; simp at e
        | some ys' =>
          rw [e1, e2] at e
          simp at e
          subst e
          exact .cons (hf _ _ _ r1 e1) (ih rr e2)
/-- the lists, dicts, instances of a memory stand for good -/
def New (w1 w2 : Wd) (H1 : Hp) (m1 : Mm) : Prop := ∀ k o u, m1[k]? = some o → o.live → H1 (w1.ρ k) = some u → w2.F (w1.ρ k) = some u
theorem rsv_rel (M : Mem g w1 H1 m1) (fr : ∀ a o, w1.F a = some o → w2.F a = some o) (nw : New w1 w2 H1 m1) : ∀ (k : Nat) (d : D) (v : V) (d' : D), Rv g w1 d v → rsv m1 k d = some d' → Rv g w2 d' v := by
  intro k
  induction k with
  | zero => intro d v d' r e; simp [rsv] at e
  | succ k ih =>
    intro d v d' r e
    have lists : ∀ (xs : List D) (vs : List V) ys, Rvs g w1 xs vs → xs.mapM (rsv m1 k) = some ys → Rvs g w2 ys vs := fun xs vs ys r e => .ofPair (mapM_rel (fun x v y r e => ih x v y r e) r.pair e)
    have flds : ∀ (xs : List (Nat × D)) (vs : List (Str × V)) ys, Rfs g w1 xs vs → xs.mapM (fun p => (rsv m1 k p.2).map fun d => (p.1, d)) = some ys → Rfs g w2 ys vs := fun xs vs ys r e => .ofPair (mapM_rel (R1 := Rf1 g w1) (R2 := Rf1 g w2) (fun x v y r e => by
      rw [Option.map_eq_some_iff] at e
      obtain ⟨d1, e1, e2⟩ := e
      cases e2
      exact ⟨r.1, ih _ _ _ r.2 e1⟩) r.pair e)
    have kvs : ∀ (xs : List (Key × D)) (vs : List (Key × V)) ys, Rkv g w1 xs vs → xs.mapM (fun p => (rsv m1 k p.2).map fun d => (p.1, d)) = some ys → Rkv g w2 ys vs := fun xs vs ys r e => .ofPair (mapM_rel (R1 := Rk1 g w1) (R2 := Rk1 g w2) (fun x v y r e => by
      rw [Option.map_eq_some_iff] at e
      obtain ⟨d1, e1, e2⟩ := e
      cases e2
      exact ⟨r.1, ih _ _ _ r.2 e1⟩) r.pair e)
    simp only [rsv] at e
    by_cases hn : R.nr d = true
    · rw [if_pos hn] at e
      cases e
      exact r.nr fr hn
    rw [if_neg hn] at e
    cases r with
    | non => cases e
    | bl b => cases e
    | int i => cases e
    | str x => cases e
    | tup h r =>
      simp only [Option.map_eq_some_iff] at e
      obtain ⟨ys, e1, rfl⟩ := e
      exact .tup (sqT_mono fr h) (lists _ _ _ r e1)
    | lst h r =>
      simp only [Option.map_eq_some_iff] at e
      obtain ⟨ys, e1, rfl⟩ := e
      exact .lst (fr _ _ h) (lists _ _ _ r e1)
    | scr h r =>
      simp only [Option.map_eq_some_iff] at e
      obtain ⟨ys, e1, rfl⟩ := e
      exact .scr (sqL_mono fr h) (lists _ _ _ r e1)
    | ins hc h r =>
      simp only [Option.map_eq_some_iff] at e
      obtain ⟨ys, e1, rfl⟩ := e
      exact .ins hc (fr _ _ h) (flds _ _ _ r e1)
    | dct h r =>
      simp only [Option.map_eq_some_iff] at e
      obtain ⟨ys, e1, rfl⟩ := e
      exact .dct (fr _ _ h) (kvs _ _ _ r e1)
    | ref n hn =>
      dsimp only at e
      split at e
      · rename_i xs en
        rw [Option.map_eq_some_iff] at e
        obtain ⟨ys, e1, rfl⟩ := e
        obtain ⟨vs, hv, rv⟩ := M.ob n _ en
        exact .lst (nw n _ _ en trivial hv) (lists _ _ _ rv e1)
      · rename_i C xs en
        rw [Option.map_eq_some_iff] at e
        obtain ⟨ys, e1, rfl⟩ := e
        obtain ⟨hc, dx, vs, hv, rv⟩ := M.ob n _ en
        exact .ins hc (nw n _ _ en trivial hv) (flds _ _ _ rv e1)
      · rename_i xs en
        rw [Option.map_eq_some_iff] at e
        obtain ⟨ys, e1, rfl⟩ := e
        obtain ⟨vs, hv, rv⟩ := M.ob n _ en
        exact .dct (nw n _ _ en trivial hv) (kvs _ _ _ rv e1)
      · cases e
theorem own_rel (M : Mem g w1 H1 m1) (fr : ∀ a xs, SqT g.K w1.F a xs → SqT g.K w2.F a xs) (nw : New w1 w2 H1 m1) : ∀ (k : Nat) (d : D) (v : V) (d' : D), Rv g w1 d v → own m1 k d = some d' → Rv g w2 d' v := by
  intro k
  induction k with
  | zero => intro d v d' r e; simp [own] at e
  | succ k ih =>
    intro d v d' r e
    have lists : ∀ (xs : List D) (vs : List V) ys, Rvs g w1 xs vs → xs.mapM (own m1 k) = some ys → Rvs g w2 ys vs := fun xs vs ys r e => .ofPair (mapM_rel (fun x v y r e => ih x v y r e) r.pair e)
    have flds : ∀ (xs : List (Nat × D)) (vs : List (Str × V)) ys, Rfs g w1 xs vs → xs.mapM (fun p => (own m1 k p.2).map fun d => (p.1, d)) = some ys → Rfs g w2 ys vs := fun xs vs ys r e => .ofPair (mapM_rel (R1 := Rf1 g w1) (R2 := Rf1 g w2) (fun x v y r e => by
      rw [Option.map_eq_some_iff] at e
      obtain ⟨d1, e1, e2⟩ := e
      cases e2
      exact ⟨r.1, ih _ _ _ r.2 e1⟩) r.pair e)
    have kvs : ∀ (xs : List (Key × D)) (vs : List (Key × V)) ys, Rkv g w1 xs vs → xs.mapM (fun p => (own m1 k p.2).map fun d => (p.1, d)) = some ys → Rkv g w2 ys vs := fun xs vs ys r e => .ofPair (mapM_rel (R1 := Rk1 g w1) (R2 := Rk1 g w2) (fun x v y r e => by
      rw [Option.map_eq_some_iff] at e
      obtain ⟨d1, e1, e2⟩ := e
      cases e2
      exact ⟨r.1, ih _ _ _ r.2 e1⟩) r.pair e)
    simp only [own] at e
    cases r with
    | non => cases e; exact .non
    | bl b => cases e; exact .bl b
    | int i => cases e; exact .int i
    | str x => cases e; exact .str x
    | tup h r =>
      simp only [Option.map_eq_some_iff] at e
      obtain ⟨ys, e1, rfl⟩ := e
      exact .tup (fr _ _ h) (lists _ _ _ r e1)
    | lst h r => cases e
    | scr h r => cases e
    | ins hc h r => cases e
    | dct h r => cases e
    | ref n hn =>
      dsimp only at e
      split at e
      · rename_i xs en
        rw [Option.map_eq_some_iff] at e
        obtain ⟨ys, e1, rfl⟩ := e
        obtain ⟨vs, hv, rv⟩ := M.ob n _ en
        exact .lst (nw n _ _ en trivial hv) (lists _ _ _ rv e1)
      · rename_i C xs en
        rw [Option.map_eq_some_iff] at e
        obtain ⟨ys, e1, rfl⟩ := e
        obtain ⟨hc, dx, vs, hv, rv⟩ := M.ob n _ en
        exact .ins hc (nw n _ _ en trivial hv) (flds _ _ _ rv e1)
      · rename_i xs en
        rw [Option.map_eq_some_iff] at e
        obtain ⟨ys, e1, rfl⟩ := e
        obtain ⟨vs, hv, rv⟩ := M.ob n _ en
        exact .dct (nw n _ _ en trivial hv) (kvs _ _ _ rv e1)
      · cases e

/-! ### worlds around a def that is run by itself -/
/-- where a memory's live things stand -/
def LA (w : Wd) (m : Mm) (a : Addr) : Prop := ∃ k o, m[k]? = some o ∧ O.live o ∧ w.ρ k = a
open Classical in
noncomputable def ovl (F : Hp) (w : Wd) (H : Hp) (m : Mm) : Hp := fun a => if LA w m a then H a else F a
open Classical in
noncomputable def cut (F : Hp) (w : Wd) (m : Mm) : Hp := fun a => if LA w m a then none else F a
theorem ovl_la {F : Hp} {a : Addr} (h : LA w m a) : ovl F w H m a = H a := if_pos h
theorem ovl_off {F : Hp} {a : Addr} (h : ¬ LA w m a) : ovl F w H m a = F a := if_neg h
theorem cut_la {F : Hp} {a : Addr} (h : LA w m a) : cut F w m a = none := if_pos h
theorem cut_off {F : Hp} {a : Addr} (h : ¬ LA w m a) : cut F w m a = F a := if_neg h
theorem Mem.notF (M : Mem g w H m) {a : Addr} {o : HO} (h : w.F a = some o) : ¬ LA w m a := fun ⟨k, u, e, l, z⟩ => by
  have q := M.nf k u e l
  rw [z, h] at q; cases q
theorem Mem.notG (M : Mem g w H m) {a : Addr} {o : HO} (h : w.G a = some o) : ¬ LA w m a := fun ⟨k, u, e, l, z⟩ => by
  have q := M.ng k u e l
  rw [z, h] at q; cases q
theorem Mem.some_of (M : Mem g w H m) {a : Addr} (h : LA w m a) : ∃ u, H a = some u ∧ w.F a = none ∧ w.G a = none := by
  obtain ⟨k, o, e, l, rfl⟩ := h
  obtain ⟨u, hu⟩ := M.at e l
  exact ⟨u, hu, M.nf k o e l, M.ng k o e l⟩
theorem Mem.kept (M : Mem g w H m) {w3 : Wd} {H3 : Hp} (hr : w3.ρ = w.ρ) (hl : w3.len = w.len) (hF : ∀ a o, w.F a = some o → w3.F a = some o) (k : ∀ a, LA w m a → H3 a = H a) {n : Nat} {o : O} (e : m[n]? = some o) : ObR g w3 H3 n o := by
  cases o with
  | dead => trivial
  | _ => exact (M.ob n _ e).keep (⟨hF, by rw [hl]; exact Nat.le_refl _, fun n _ => by rw [hr]⟩ : w.lf w3) (M.lt e) (fun u h => by rw [k _ ⟨n, _, e, trivial, rfl⟩]; exact h)
/-- no id is handed over -/
noncomputable def w0b (w : Wd) (H : Hp) (m : Mm) : Wd := ⟨w.F, w.ρ, 0, ovl w.G w H m⟩
noncomputable def w3b (w w1 : Wd) (H1 : Hp) (m1 : Mm) : Wd := ⟨ovl w1.F w1 H1 m1, w.ρ, w.len, w.G⟩
theorem mem_0b (M : Mem g w H m) : Mem g (w0b w H m) H [] := by
  refine ⟨M.fr, rfl, fun n o e => by simp at e, fun n o e => by simp at e, fun n k o u e => by simp at e, fun a o e => ?_, fun n o e => by simp at e, fun a o e => ?_⟩
  · have e : ovl w.G w H m a = some o := e
    by_cases q : LA w m a
    · rw [ovl_la q] at e; exact e
    · rw [ovl_off q] at e; exact M.gr a o e
  · have e : ovl w.G w H m a = some o := e
    show w.F a = none
    by_cases q : LA w m a
    · exact (M.some_of q).choose_spec.2.1
    · rw [ovl_off q] at e; exact M.gf a o e
theorem mem_3b (M : Mem g w H m) (le : (w0b w H m).le w1) (M1 : Mem g w1 H1 m1) : w.le (w3b w w1 H1 m1) ∧ Mem g (w3b w w1 H1 m1) H1 m ∧ (∀ a o, w1.F a = some o → (w3b w w1 H1 m1).F a = some o) ∧ New w1 (w3b w w1 H1 m1) H1 m1 := by
  have fr : ∀ a o, w1.F a = some o → (w3b w w1 H1 m1).F a = some o := fun a o h => by
    show ovl w1.F w1 H1 m1 a = some o
    rw [ovl_off (M1.notF h)]; exact h
  have gG : ∀ a o, w.G a = some o → w1.G a = some o := fun a o h => le.gr a o (by
    show ovl w.G w H m a = some o
    rw [ovl_off (M.notG h)]; exact h)
  have gL : ∀ a, LA w m a → w1.G a = H a ∧ H1 a = H a ∧ ∃ u, w1.G a = some u := fun a h => by
    obtain ⟨u, hu, _⟩ := M.some_of h
    have q : w1.G a = some u := le.gr a u (by
      show ovl w.G w H m a = some u
      rw [ovl_la h]; exact hu)
    exact ⟨by rw [q, hu], by rw [M1.gr a u q, hu], u, q⟩
  have no3 : ∀ a u, w1.G a = some u → (w3b w w1 H1 m1).F a = none := fun a u h => by
    show ovl w1.F w1 H1 m1 a = none
    rw [ovl_off (M1.notG h)]; exact M1.gf a u h
  have hF : ∀ a o, w.F a = some o → (w3b w w1 H1 m1).F a = some o := fun a o h => fr a o (le.fr a o h)
  refine ⟨⟨⟨hF, Nat.le_refl _, fun _ _ => rfl⟩, fun _ _ h => h⟩, ⟨fun a o h => ?_, M.len, fun n o e => M.kept (w3 := w3b w w1 H1 m1) rfl rfl hF (fun a h => (gL a h).2.1) e, fun n o e l => ?_, M.inj, fun a o h => M1.gr a o (gG a o h), M.ng, fun a o h => no3 a o (gG a o h)⟩, fr, fun k o u e l h => ?_⟩
  · have h : ovl w1.F w1 H1 m1 a = some o := h
    by_cases q : LA w1 m1 a
    · rw [ovl_la q] at h; exact h
    · rw [ovl_off q] at h; exact M1.fr a o h
  · obtain ⟨_, _, u, q⟩ := gL _ ⟨n, o, e, l, rfl⟩
    exact no3 _ u q
  · show ovl w1.F w1 H1 m1 (w1.ρ k) = some u
    rw [ovl_la ⟨k, o, e, l, rfl⟩]; exact h
/-- ids are handed over, as frozen things -/
noncomputable def w0c (w : Wd) (H : Hp) (m : Mm) : Wd := ⟨ovl w.F w H m, w.ρ, 0, w.G⟩
noncomputable def w3c (w w1 : Wd) (m : Mm) (H1 : Hp) (m1 : Mm) : Wd := ⟨cut (ovl w1.F w1 H1 m1) w m, w.ρ, w.len, w.G⟩
theorem fr_0c (M : Mem g w H m) : ∀ a o, w.F a = some o → (w0c w H m).F a = some o := fun a o h => by
  show ovl w.F w H m a = some o
  rw [ovl_off (M.notF h)]; exact h
theorem new_0c : New w (w0c w H m) H m := fun k o u e l h => by
  show ovl w.F w H m (w.ρ k) = some u
  rw [ovl_la ⟨k, o, e, l, rfl⟩]; exact h
theorem mem_0c (M : Mem g w H m) : Mem g (w0c w H m) H [] := by
  refine ⟨fun a o e => ?_, rfl, fun n o e => by simp at e, fun n o e => by simp at e, fun n k o u e => by simp at e, M.gr, fun n o e => by simp at e, fun a o e => ?_⟩
  · have e : ovl w.F w H m a = some o := e
    by_cases q : LA w m a
    · rw [ovl_la q] at e; exact e
    · rw [ovl_off q] at e; exact M.fr a o e
  · show ovl w.F w H m a = none
    rw [ovl_off (M.notG e)]; exact M.gf a o e
theorem mem_3c (M : Mem g w H m) (le : (w0c w H m).le w1) (M1 : Mem g w1 H1 m1) : w.le (w3c w w1 m H1 m1) ∧ Mem g (w3c w w1 m H1 m1) H1 m ∧ (∀ a xs, SqT g.K w1.F a xs → SqT g.K (w3c w w1 m H1 m1).F a xs) ∧ New w1 (w3c w w1 m H1 m1) H1 m1 := by
  have fL : ∀ a, LA w m a → ∃ u, H a = some u ∧ w1.F a = some u ∧ H1 a = some u := fun a h => by
    obtain ⟨u, hu, _⟩ := M.some_of h
    have q : w1.F a = some u := le.fr a u (by
      show ovl w.F w H m a = some u
      rw [ovl_la h]; exact hu)
    exact ⟨u, hu, q, M1.fr a u q⟩
  have fr : ∀ a o, w1.F a = some o → ¬ LA w m a → (w3c w w1 m H1 m1).F a = some o := fun a o h n => by
    show cut (ovl w1.F w1 H1 m1) w m a = some o
    rw [cut_off n, ovl_off (M1.notF h)]; exact h
  have hF : ∀ a o, w.F a = some o → (w3c w w1 m H1 m1).F a = some o := fun a o h => fr a o (le.fr a o (fr_0c M a o h)) (M.notF h)
  refine ⟨⟨⟨hF, Nat.le_refl _, fun _ _ => rfl⟩, fun _ _ h => h⟩, ⟨fun a o h => ?_, M.len, fun n o e => M.kept (w3 := w3c w w1 m H1 m1) rfl rfl hF (fun a h => ?_) e, fun n o e l => ?_, M.inj, fun a o h => M1.gr a o (le.gr a o h), M.ng, fun a o h => ?_⟩, fun a xs h => ?_, fun k o u e l h => ?_⟩
  · have h : cut (ovl w1.F w1 H1 m1) w m a = some o := h
    by_cases n : LA w m a
    · rw [cut_la n] at h; cases h
    rw [cut_off n] at h
    by_cases q : LA w1 m1 a
    · rw [ovl_la q] at h; exact h
    · rw [ovl_off q] at h; exact M1.fr a o h
  · obtain ⟨u, h1, _, h2⟩ := fL a h
    rw [h1, h2]
  · show cut (ovl w1.F w1 H1 m1) w m (w.ρ n) = none
    exact cut_la ⟨n, o, e, l, rfl⟩
  · show cut (ovl w1.F w1 H1 m1) w m a = none
    have h1 := le.gr a o h
    rw [cut_off (M.notG h), ovl_off (M1.notG h1)]; exact M1.gf a o h1
  · have kd : ∀ u, LA w m a → H a = some u → (∀ xs, u ≠ .tup xs) ∧ ∀ o x, u ≠ .frz o x := fun u ⟨k, o, e, l, z⟩ hu => by
      have q := M.ob k o e
      rw [← z] at hu
      cases o with
      | lst xs =>
        obtain ⟨vs, q, _⟩ := q
        rw [q] at hu
        cases hu
        exact ⟨fun _ z => (nomatch z), fun _ _ z => (nomatch z)⟩
      | dct xs =>
        obtain ⟨vs, q, _⟩ := q
        rw [q] at hu
        cases hu
        exact ⟨fun _ z => (nomatch z), fun _ _ z => (nomatch z)⟩
      | ins C fs =>
        obtain ⟨_, _, vs, q, _⟩ := q
        rw [q] at hu
        cases hu
        exact ⟨fun _ z => (nomatch z), fun _ _ z => (nomatch z)⟩
      | dead => exact l.elim
    rcases h with (h | ⟨o, h⟩) | h
    · refine .inl (.inl (fr a _ h fun n => ?_))
      obtain ⟨u, h1, h2, _⟩ := fL a n
      rw [h] at h2
      cases h2
      exact (kd _ n h1).1 _ rfl
    · refine .inl (.inr ⟨o, fr a _ h fun n => ?_⟩)
      obtain ⟨u, h1, h2, _⟩ := fL a n
      rw [h] at h2
      cases h2
      exact (kd _ n h1).2 _ _ rfl
    · exact .inr h
  · have n : ¬ LA w m (w1.ρ k) := fun n => by
      obtain ⟨v, _, h2, _⟩ := fL _ n
      rw [M1.nf k o e l] at h2; cases h2
    show cut (ovl w1.F w1 H1 m1) w m (w1.ρ k) = some u
    rw [cut_off n, ovl_la ⟨k, o, e, l, rfl⟩]; exact h
end

/-! ### a def -/
theorem fin_ok {g : Gm} {w : Wd} {m : Mm} {Q : VK} {xk : XK} {r : Res Sx Fl} (h : Post (Rv g) g w xk Q (fin r)) :
    PostS g w (fun cls d _ H => xk cls d H) { nx := fun _ H' => Q .non H', rt := Q } r := by
  cases r with
  | ok f s =>
    cases f with
    | nx => exact fun w' σ' H' le M' S => h w' .non H' le M' .non
    | bk => exact absurd h id
    | ct => exact absurd h id
    | rt d => exact fun w' v H' le M' rv => h w' v H' le M' rv
  | exn C p s => exact fun w' σ' cls dx H' le M' S x => h w' cls dx H' le M' x
  | bad => exact absurd h id
theorem finb_ok {g : Gm} {w : Wd} {H : Hp} {m : Mm} {Q : VK} {xk : XK} {r : Res Sx Fl} (M : Mem g w H m) (h : Post (Rv g) g w xk Q (finP true m r)) :
    PostS g (w0b w H m) (fun cls d _ H => xk cls d H) { nx := fun _ H' => Q .non H', rt := Q } r := by
  have done : ∀ (d d' : D) (s : Sx), rsv s.hp 9 d = some d' → Post (Rv g) g w xk Q (.ok d' m) → ∀ w' v H', (w0b w H m).le w' → Mem g w' H' s.hp → Rv g w' d v → Q v H' := by
    intro d d' s e h w' v H' le M' rv
    obtain ⟨le3, M3, fr, nw⟩ := mem_3b M le M'
    exact h _ v H' le3 M3 (rsv_rel M' fr nw 9 d v d' rv e)
  cases r with
  | ok f s =>
    cases f with
    | nx => exact fun w' σ' H' le M' S => done .non .non s (by simp [rsv, R.nr]) (by simpa [finP, rtD, rsv, R.nr] using h) w' .non H' le M' .non
    | bk => exact absurd h id
    | ct => exact absurd h id
    | rt d =>
      intro w' v H' le M' rv
      have h : Post (Rv g) g w xk Q (match rsv s.hp 9 d with | some d => .ok d m | none => .bad) := h
      cases e : rsv s.hp 9 d with
      | none => rw [e] at h; exact absurd h id
      | some d' => rw [e] at h; exact done d d' s e h w' v H' le M' rv
  | exn C p s =>
    intro w' σ' cls dx H' le M' S x
    obtain ⟨le3, M3, fr, nw⟩ := mem_3b M le M'
    exact h _ cls dx H' le3 M3 x
  | bad => exact absurd h id
theorem finc_ok {g : Gm} {w : Wd} {H : Hp} {m : Mm} {Q : VK} {xk : XK} {r : Res Sx Fl} (M : Mem g w H m) (h : Post (Rv g) g w xk Q (finP false m r)) :
    PostS g (w0c w H m) (fun cls d _ H => xk cls d H) { nx := fun _ H' => Q .non H', rt := Q } r := by
  have done : ∀ (d d' : D) (s : Sx), own s.hp 9 d = some d' → Post (Rv g) g w xk Q (.ok d' m) → ∀ w' v H', (w0c w H m).le w' → Mem g w' H' s.hp → Rv g w' d v → Q v H' := by
    intro d d' s e h w' v H' le M' rv
    obtain ⟨le3, M3, fr, nw⟩ := mem_3c M le M'
    exact h _ v H' le3 M3 (own_rel M' fr nw 9 d v d' rv e)
  cases r with
  | ok f s =>
    cases f with
    | nx => exact fun w' σ' H' le M' S => done .non .non s (by simp [own]) (by simpa [finP, rtD, own] using h) w' .non H' le M' .non
    | bk => exact absurd h id
    | ct => exact absurd h id
    | rt d =>
      intro w' v H' le M' rv
      have h : Post (Rv g) g w xk Q (match own s.hp 9 d with | some d => .ok d m | none => .bad) := h
      cases e : own s.hp 9 d with
      | none => rw [e] at h; exact absurd h id
      | some d' => rw [e] at h; exact done d d' s e h w' v H' le M' rv
  | exn C p s =>
    intro w' σ' cls dx H' le M' S x
    obtain ⟨le3, M3, fr, nw⟩ := mem_3c M le M'
    exact h _ cls dx H' le3 M3 x
  | bad => exact absurd h id
theorem Slr.start {g : Gm} {w : Wd} {as : List D} {vs : List V} (r : Rvs g w as vs) (N : List Str) : Slr g w (as.map some ++ List.replicate (N.length - as.length) none) (L2.start N vs) := by
  unfold L2.start
  refine ⟨by simp [r.length], fun i d h => ?_⟩
  by_cases q : i < as.length
  · rw [List.getElem?_append_left (by simpa using q)] at h
    rw [List.getElem?_map] at h
    cases e : as[i]? with
    | none => rw [e] at h; cases h
    | some x =>
      rw [e] at h
      cases h
      obtain ⟨v, hv, rv⟩ := r.get e
      refine ⟨v, ?_, rv⟩
      rw [List.getElem?_append_left (by rw [List.length_map, ← r.length]; exact q), List.getElem?_map, hv]
      rfl
  · rw [List.getElem?_append_right (by simpa using Nat.le_of_not_lt q)] at h
    rw [List.getElem?_replicate] at h
    split at h <;> cases h
/-- what stands in a row for a def of R -/
structure DefX (p : Pg) (cf : Cf) (K : PySem.W.Frag) (f : Nat) (fa : Addr) (dt : FuncData) (ps : List Str) : Prop where
  ex : ∃ (fd : FD) (x qual : Str) (st : Stmt) (N : List Str), p.fns[f]? = some fd ∧ Fun K x qual st fa dt ∧ FnScope N ps (defScope st) ∧ N.length = fd.nl ∧ ps.length = fd.np ∧
    mSs p cf N (defScope st) (fun _ => true) fd.body (defBody st) = true
  bd : Binds K dt ps []
def DefR (p : Pg) (cf : Cf) (K : PySem.W.Frag) (f : Nat) (fa : Addr) : Prop := ∃ dt ps, DefX p cf K f fa dt ps
def En.to (E : En) (n : Nat) : En := ⟨E.g, E.cf, E.p, callN E.p n, 2 * n, E.P, E.w, E.base⟩
/-- all that a row says, in R's words -/
structure Rok (E : En) : Prop where
  att : E.g.att = attOf E.cf.atl
  inj : ∀ a b, E.g.att a = E.g.att b → a = b
  blt : ∀ b : Bt, E.g.mg b.nm = none
  rng : E.g.mg "range" = none
  zip : E.g.mg "zip" = none
  enum : E.g.mg "enumerate" = none
  fn : ∀ f x, E.cf.fnm f = some x → ∃ fa, E.g.mg x = some (.ref fa) ∧ PySem.W.keepIn E.g.K (.ref fa) = true ∧ DefR E.p E.cf E.g.K f fa
  cls : ∀ C, C < E.g.ncls → Cls E.g.K (E.g.cad C) ∧ ∀ f, f < E.cf.natt → NoAttr E.g.K (E.g.cad C) (E.g.att f)
  ncl : ∀ C cd, E.p.cls[C]? = some cd → C < E.g.ncls
  mth : ∀ C cd k f, E.p.cls[C]? = some cd → cd.meths.lookup k = some f → ∃ fa, Meth E.g.K (E.g.cad C) (E.cf.mnm k) fa ∧ DefR E.p E.cf E.g.K f fa
  mat : ∀ a k, E.g.att a ≠ E.cf.mnm k
  mkc : ∀ C cd x, E.p.cls[C]? = some cd → E.cf.cnm C = some x → ∃ fa, E.g.mg x = some (.ref (E.g.cad C)) ∧ Mk E.g.K (E.g.cad C) fa ∧ DefR E.p E.cf E.g.K cd.init fa
theorem gok_of {E : En} (R : Rok E) (n : Nat) (h : ∀ f fa, DefR E.p E.cf E.g.K f fa → FnR (E.to n) f fa) : Gok (E.to n) where
  att := R.att
  inj := R.inj
  blt := R.blt
  rng := R.rng
  zip := R.zip
  enum := R.enum
  fn := fun f x e => let ⟨fa, h1, h2, h3⟩ := R.fn f x e; ⟨fa, h1, h2, h f fa h3⟩
  cls := R.cls
  ncl := R.ncl
  mth := fun C cd k f h1 h2 => let ⟨fa, h3, h4⟩ := R.mth C cd k f h1 h2; ⟨fa, h3, h f fa h4⟩
  mat := R.mat
  mkc := fun C cd x h1 h2 => let ⟨fa, h3, h4, h5⟩ := R.mkc C cd x h1 h2; ⟨fa, h3, h4, h _ fa h5⟩
theorem def_step {E : En} {n f : Nat} {fa : Addr} {dt : FuncData} {ps : List Str} (hg : Gok (E.to n)) (h : DefX E.p E.cf E.g.K f fa dt ps) : FnOk E.P E.w E.g.K E.g.mg E.base (L2.CX E.P E.w) (2 * (n + 1)) fa dt ps (spR (E.to (n + 1)) f) := by
  obtain ⟨fd, x, qual, st, N, hf, F, S, hN, hps, hm⟩ := h.ex
  have hL : ∀ {vs : List V} {H : Hp} {Q : VK} {xk : XK}, spR (E.to (n + 1)) f vs H Q xk → vs.length = ps.length := by
    rintro vs H Q xk ⟨w, m, as, M, r, h⟩
    have h : PostE E.g w xk Q (callN E.p (n + 1) f as m) := h
    simp only [callN, hf] at h
    by_cases q : as.length = fd.np
    · rw [← r.length, q, hps]
    · rw [if_neg q] at h; exact absurd h id
  refine F.okX (k := 2 * n + 1) S (fun vs H Q xk h => hL h) fun cdv A outer s H vs Q xk hr h => ?_
  have hl := hL h
  obtain ⟨w, m, as, M, r, h⟩ := h
  have h : PostE E.g w xk Q (callN E.p (n + 1) f as m) := h
  simp only [callN, hf] at h
  have q : as.length = fd.np := by rw [r.length, hl, hps]
  have e : ∀ as' : List D, as'.length = vs.length → N.length - as'.length = fd.nl - fd.np := fun as' e => by rw [hN, e, hl, hps]
  rw [if_pos q] at h
  refine ⟨_, mSs_ok (E := E.to n) hg fd.body (defBody st) hm _ (fun cls d _ H => xk cls d H) ⟨⟨rfl, rfl, rfl, rfl, rfl, rfl, rfl, S.nd, hr, rfl⟩, rfl, takes_of rfl rfl rfl rfl, passes_of rfl, S.kind⟩, ?_⟩
  by_cases hp : fd.pure_ = true
  · rw [if_pos hp] at h
    by_cases hn : nrs as = true
    · rw [if_pos hn] at h
      have r0 : Rvs E.g (w0b w H m) as vs := Rvs.nr (w1 := w) (w2 := w0b w H m) (fun _ _ h => h) hn r
      refine ⟨w0b w H m, _, [], mem_0b M, Slr.start r0 N, ?_⟩
      rw [e as r0.length]
      exact finb_ok M h
    · rw [if_neg hn] at h
      cases z : as.mapM (rsv m 9) with
      | none => rw [z] at h; exact absurd h id
      | some as' =>
        rw [z] at h
        have r0 : Rvs E.g (w0c w H m) as' vs := .ofPair (mapM_rel (fun x v y r e => rsv_rel M (fr_0c M) new_0c 9 x v y r e) r.pair z)
        refine ⟨w0c w H m, _, [], mem_0c M, Slr.start r0 N, ?_⟩
        rw [e as' r0.length]
        exact finc_ok M h
  · rw [if_neg hp] at h
    refine ⟨w, _, m, M, Slr.start r N, ?_⟩
    rw [e as r.length]
    exact fin_ok (m := m) h
theorem def_ok {E : En} (R : Rok E) : ∀ (n f : Nat) (fa : Addr) (dt : FuncData) (ps : List Str), DefX E.p E.cf E.g.K f fa dt ps → FnOk E.P E.w E.g.K E.g.mg E.base (L2.CX E.P E.w) (2 * n) fa dt ps (spR (E.to n) f)
  | 0, f, fa, dt, ps, h => by
    refine ⟨fun vs H Q xk h => ?_, fun A outer s H args us vs Q xk hr e0 hb r h => ?_⟩
    · obtain ⟨w, m, as, M, r, h⟩ := h
      exact absurd h id
    · obtain ⟨w, m, as, M, r, h⟩ := h
      exact absurd h id
  | n + 1, f, fa, dt, ps, h => def_step (gok_of R n fun f fa ⟨dt, ps, h⟩ => ⟨⟨dt, ps, h.bd, def_ok R n f fa dt ps h⟩⟩) h
end R

/-! RSndD: a row in R's words, and a law's end. -/
namespace R
open PySem PySem.Spec PyProof.Rows L2

/-! ### names -/
def okName (x : Str) : Bool := x.cps.all fun c => Nat.ble c 1999999
theorem okName_no {n : Nat} : okName ⟨#[n + 2000000]⟩ = false := by
  have h : Nat.ble (n + 2000000) 1999999 = false := by
    cases q : Nat.ble (n + 2000000) 1999999 with
    | false => rfl
    | true => have := Nat.le_of_ble_eq_true q; omega
  unfold okName
  simp [h]
theorem nodup_get : ∀ {l : List Str}, l.Nodup → ∀ {a b : Nat} {x : Str}, l[a]? = some x → l[b]? = some x → a = b
  | [], _, a, b, x, h, _ => by simp at h
  | y :: r, hd, 0, 0, x, _, _ => rfl
  | y :: r, hd, 0, b + 1, x, h1, h2 => by
    simp at h1 h2
    subst h1
    exact absurd (List.mem_of_getElem? h2) (List.nodup_cons.mp hd).1
  | y :: r, hd, a + 1, 0, x, h1, h2 => by
    simp at h1 h2
    subst h2
    exact absurd (List.mem_of_getElem? h1) (List.nodup_cons.mp hd).1
  | y :: r, hd, a + 1, b + 1, x, h1, h2 => by
    simp at h1 h2
    rw [nodup_get (List.nodup_cons.mp hd).2 h1 h2]
theorem attOf_inj {l : List Str} (hd : l.Nodup) (hk : l.all okName = true) (a b : Nat) (h : attOf l a = attOf l b) : a = b := by
  unfold attOf at h
  rw [List.getD_eq_getElem?_getD, List.getD_eq_getElem?_getD] at h
  rw [List.all_eq_true] at hk
  by_cases qa : a < l.length
  · by_cases qb : b < l.length
    · rw [List.getElem?_eq_getElem qa, List.getElem?_eq_getElem qb] at h
      have h : l[a] = l[b] := h
      exact nodup_get hd (List.getElem?_eq_getElem qa) (by rw [h]; exact List.getElem?_eq_getElem qb)
    · rw [List.getElem?_eq_getElem qa, List.getElem?_eq_none (Nat.le_of_not_lt qb)] at h
      have q := hk _ (List.getElem_mem qa)
      have h : l[a] = ⟨#[b + 2000000]⟩ := h
      rw [h, okName_no] at q; cases q
  · by_cases qb : b < l.length
    · rw [List.getElem?_eq_none (Nat.le_of_not_lt qa), List.getElem?_eq_getElem qb] at h
      have q := hk _ (List.getElem_mem qb)
      have h : ⟨#[a + 2000000]⟩ = l[b] := h
      rw [← h, okName_no] at q; cases q
    · rw [List.getElem?_eq_none (Nat.le_of_not_lt qa), List.getElem?_eq_none (Nat.le_of_not_lt qb)] at h
      have h : (⟨#[a + 2000000]⟩ : Str) = ⟨#[b + 2000000]⟩ := h
      injection h with h
      injection h with h
      injection h with h
      omega
theorem att_no {l ms : List Str} (h : l.all (fun x => !ms.contains x && !(x == "")) = true) (hm : ms.all okName = true) (a k : Nat) : attOf l a ≠ ms.getD k "" := by
  have hk : okName (ms.getD k "") = true := by
    rw [List.getD_eq_getElem?_getD]
    by_cases q : k < ms.length
    · rw [List.getElem?_eq_getElem q]
      exact List.all_eq_true.mp hm _ (List.getElem_mem q)
    · rw [List.getElem?_eq_none (Nat.le_of_not_lt q)]; decide +kernel
  intro z
  unfold attOf at z
  by_cases qa : a < l.length
  · rw [List.getD_eq_getElem?_getD, List.getElem?_eq_getElem qa] at z
    have q := List.all_eq_true.mp h _ (List.getElem_mem qa)
    rw [Bool.and_eq_true, Bool.not_eq_true', Bool.not_eq_true'] at q
    have z : l[a] = ms.getD k "" := z
    rw [z] at q
    rw [List.getD_eq_getElem?_getD] at q
    by_cases qk : k < ms.length
    · rw [List.getElem?_eq_getElem qk] at q
      have : ms.contains ms[k] = true := by simp
      rw [show ((some ms[k]).getD "" : Str) = ms[k] from rfl, this] at q
      cases q.1
    · rw [List.getElem?_eq_none (Nat.le_of_not_lt qk)] at q
      have := q.2
      simp at this
  · rw [List.getD_eq_getElem?_getD, List.getElem?_eq_none (Nat.le_of_not_lt qa)] at z
    have z : (⟨#[a + 2000000]⟩ : Str) = ms.getD k "" := z
    rw [← z, okName_no] at hk
    cases hk

/-! ### a row's facts, list by list -/
section
variable (K : PySem.W.Frag) (mg : Str → Option Value) (p : Pg) (cf : Cf)
def FnAll : Nat → List (Option Str) → Prop
  | _, [] => True
  | i, none :: r => FnAll (i + 1) r
  | i, some x :: r => (∃ fa, mg x = some (.ref fa) ∧ PySem.W.keepIn K (.ref fa) = true ∧ DefR p cf K i fa) ∧ FnAll (i + 1) r
def MtAll (C : Addr) : List (Nat × Nat) → Prop
  | [] => True
  | (k, f) :: r => (∃ fa, Meth K C (cf.mnm k) fa ∧ DefR p cf K f fa) ∧ MtAll C r
def AtAll (C : Addr) : List Str → Prop
  | [] => True
  | x :: r => NoAttr K C x ∧ AtAll C r
/-- one class: where it stands, its methods, its __init__ -/
def ClAt (i : Nat) (C : Addr) (cd : CD) : Prop :=
  Cls K C ∧ AtAll K C cf.atl ∧ MtAll K p cf C cd.meths ∧ ∃ fa x, cf.cnm i = some x ∧ mg x = some (.ref C) ∧ Mk K C fa ∧ DefR p cf K cd.init fa
def ClAll (cad : Nat → Addr) : Nat → List CD → Prop
  | _, [] => True
  | i, cd :: r => ClAt K mg p cf i (cad i) cd ∧ ClAll cad (i + 1) r
end
section
variable {K : PySem.W.Frag} {mg : Str → Option Value} {p : Pg} {cf : Cf} {cad : Nat → Addr}
theorem FnAll.at : ∀ {l : List (Option Str)} {i f : Nat} {x : Str}, FnAll K mg p cf i l → l[f]? = some (some x) → ∃ fa, mg x = some (.ref fa) ∧ PySem.W.keepIn K (.ref fa) = true ∧ DefR p cf K (i + f) fa
  | [], _, f, _, _, e => by simp at e
  | none :: r, i, 0, x, h, e => by simp at e
  | none :: r, i, f + 1, x, h, e => by
    rw [show i + (f + 1) = i + 1 + f by omega]
    exact FnAll.at (l := r) h (by simpa using e)
  | some y :: r, i, 0, x, h, e => by
    simp at e
    subst e
    exact h.1
  | some y :: r, i, f + 1, x, h, e => by
    rw [show i + (f + 1) = i + 1 + f by omega]
    exact FnAll.at (l := r) h.2 (by simpa using e)
theorem MtAll.at {C : Addr} : ∀ {l : List (Nat × Nat)} {k f : Nat}, MtAll K p cf C l → l.lookup k = some f → ∃ fa, Meth K C (cf.mnm k) fa ∧ DefR p cf K f fa
  | [], _, _, _, e => by simp at e
  | (k', f') :: r, k, f, h, e => by
    rw [List.lookup_cons] at e
    by_cases q : k = k'
    · subst q
      simp at e
      subst e
      exact h.1
    · rw [beq_eq_false_iff_ne.mpr q] at e
      exact MtAll.at (l := r) h.2 e
theorem AtAll.at {C : Addr} : ∀ {l : List Str} {x : Str}, AtAll K C l → x ∈ l → NoAttr K C x
  | [], _, _, e => by cases e
  | y :: r, x, h, e => by
    rcases List.mem_cons.mp e with e | e
    · rw [e]; exact h.1
    · exact AtAll.at h.2 e
theorem ClAll.at : ∀ {l : List CD} {i C : Nat} {cd : CD}, ClAll K mg p cf cad i l → l[C]? = some cd → ClAt K mg p cf (i + C) (cad (i + C)) cd
  | [], _, C, _, _, e => by simp at e
  | cd' :: r, i, 0, cd, h, e => by
    simp at e
    subst e
    exact h.1
  | cd' :: r, i, C + 1, cd, h, e => by
    rw [show i + (C + 1) = i + 1 + C by omega]
    exact ClAll.at (l := r) h.2 (by simpa using e)
def bltNames : List Str := ["len", "int", "abs", "min", "max", "sum", "list", "tuple", "str", "ord", "repr", "range", "zip", "enumerate"]
def GlAll (mg : Str → Option Value) : List Str → Prop
  | [] => True
  | x :: r => mg x = none ∧ GlAll mg r
theorem GlAll.at : ∀ {l : List Str} {x : Str}, GlAll mg l → x ∈ l → mg x = none
  | [], _, _, e => by cases e
  | y :: r, x, h, e => by
    rcases List.mem_cons.mp e with e | e
    · rw [e]; exact h.1
    · exact GlAll.at h.2 e
/-- a row's facts -/
structure RowOk (K : PySem.W.Frag) (mg : Str → Option Value) (p : Pg) (cf : Cf) (cad : Nat → Addr) : Prop where
  nd : cf.atl.Nodup
  ok1 : cf.atl.all okName = true
  ok2 : cf.mnl.all okName = true
  dis : cf.atl.all (fun x => !cf.mnl.contains x && !(x == "")) = true
  gl : GlAll mg bltNames
  fns : FnAll K mg p cf 0 cf.fnl
  cls : ClAll K mg p cf cad 0 p.cls
theorem rok_of {K : PySem.W.Frag} {mg : Str → Option Value} {p : Pg} {cf : Cf} {cad : Nat → Addr} {c : Calls} {P : Program} {w : World} {base : Heap} (R : RowOk K mg p cf cad) : Rok ⟨⟨K, mg, cad, attOf cf.atl, p.cls.length⟩, cf, p, c, 0, P, w, base⟩ where
  att := rfl
  inj := attOf_inj R.nd R.ok1
  blt := fun b => R.gl.at (by cases b <;> decide +kernel)
  rng := R.gl.at (by decide +kernel)
  zip := R.gl.at (by decide +kernel)
  enum := R.gl.at (by decide +kernel)
  fn := fun f x e => by
    have e : cf.fnl.getD f none = some x := e
    rw [List.getD_eq_getElem?_getD] at e
    cases q : cf.fnl[f]? with
    | none => rw [q] at e; cases e
    | some y =>
      rw [q] at e
      have e : y = some x := e
      subst e
      have := R.fns.at q
      rwa [Nat.zero_add] at this
  cls := fun C hC => by
    have hC : C < p.cls.length := hC
    have := R.cls.at (List.getElem?_eq_getElem hC)
    rw [Nat.zero_add] at this
    refine ⟨this.1, fun f hf => ?_⟩
    have hf : f < cf.atl.length := hf
    have hm : attOf cf.atl f ∈ cf.atl := by
      unfold attOf
      rw [List.getD_eq_getElem?_getD, List.getElem?_eq_getElem hf]
      exact List.getElem_mem hf
    exact this.2.1.at hm
  ncl := fun C cd e => (List.getElem?_eq_some_iff.mp e).1
  mth := fun C cd k f e1 e2 => by
    have := R.cls.at e1
    rw [Nat.zero_add] at this
    exact this.2.2.1.at e2
  mat := att_no R.dis R.ok2
  mkc := fun C cd x e1 e2 => by
    have := R.cls.at e1
    rw [Nat.zero_add] at this
    obtain ⟨_, _, _, fa, y, h1, h2, h3⟩ := this
    have e2 : cf.cnm C = some x := e2
    rw [h1] at e2
    cases e2
    exact ⟨fa, h2, h3⟩
end

/-! ### the law -/
def spLaw (K : PySem.W.Frag) (n : Nat) : Sp := fun vs H Q _ => ∃ (a : Addr) (ns : List Int), vs = [.ref a] ∧ ns.length ≤ n ∧ SqL K H a (ns.map V.int) ∧ ∀ H', Q (.bl true) H'
theorem rvs_ints {g : Gm} {w : Wd} : ∀ ns : List Int, Rvs g w (ns.map D.int) (ns.map V.int)
  | [] => .nil
  | i :: r => .cons (.int i) (rvs_ints r)
/-- what R says of the law -/
def LawR (p : Pg) (n f : Nat) : Prop := ∀ ns : List Int, ns.length ≤ 63 → ∃ m, callN p n f [.scr (ns.map .int)] [] = .ok (.bl true) m
theorem law_ok {K : PySem.W.Frag} {mg : Str → Option Value} {p : Pg} {cf : Cf} {cad : Nat → Addr} {P : Program} {w : World} {base : Heap} {n f : Nat} {fa : Addr} {dt : FuncData} {x : Str} (R : RowOk K mg p cf cad) (L : LawR p n f) (h : DefX p cf K f fa dt [x]) :
    FnOk P w K mg base (L2.CX P w) (2 * n) fa dt [x] (spLaw K 63) := by
  refine FnOk.imp (def_ok (E := ⟨⟨K, mg, cad, attOf cf.atl, p.cls.length⟩, cf, p, fun _ _ _ => .bad, 0, P, w, base⟩) (rok_of R) n f fa dt [x] h) fun vs H Q xk h => ?_
  obtain ⟨a, ns, rfl, hl, hS, q⟩ := h
  obtain ⟨m, e⟩ := L ns hl
  refine ⟨⟨H, fun _ => 0, 0, fun _ => none⟩, [], [.scr (ns.map .int)], ⟨fun _ _ h => h, rfl, fun n o e => by simp at e, fun n o e => by simp at e, fun n k o u e => by simp at e, fun _ _ e => (by cases e), fun n o e => by simp at e, fun _ _ e => (by cases e)⟩, .cons (.scr hS (rvs_ints ns)) .nil, ?_⟩
  show Post _ _ _ _ Q (callN p n f [.scr (ns.map .int)] [])
  rw [e]
  intro w' v H' le M r
  cases r
  exact q H'
theorem law_walk {l : PySem.W.OpenLaw} {q : Program} {loose : List Str} {XP : (Str → Option Value) → Heap → Prop} {YP : World → Heap → Prop} {d : DefRec} {K : Params → PySem.W.Frag} {p : Pg} {cf : Cf} {n f : Nat} {x : Str} (hr : Room (2 * n) callerA) (L : LawR p n f) (hn : l.most = some 63) (hdf : d.params.defaults = [])
    (hY : ∀ (w : World) (h : Heap), YP w h → (K w.params).In h)
    (F : ∀ (w : World) (mg : Str → Option Value) (fa : Addr) (h : Heap), (K w.params).In h → h.Ns mainGlobals mg → mg d.name = some (.ref fa) →
      ∃ (fd : FuncData) (cad : Nat → Addr), (∀ (s : Shared) (u : Value), BindsTo s fd ⟨[u], []⟩ [(x, u)]) ∧ DefX p cf (K w.params) f fa fd [x] ∧ RowOk (K w.params) mg p cf cad) :
    PySem.W.WalkO q loose XP YP l.row.toRowW d [] (fun f vs => PySem.call f vs) :=
  L2.walk_of (n := 63) (k := 2 * n) (x := x) (CX := fun w => L2.CX l.prog w) (sp := fun w => spLaw (K w.params) 63) hn (by decide) hdf hr hY
    (fun w mg fa h h1 h2 h3 => let ⟨fd, cad, b, D, R⟩ := F w mg fa h h1 h2 h3
      ⟨fd, b, fun base _ _ => law_ok R L D⟩)
    (fun _ _ a ns hl _ hS => ⟨a, ns, rfl, hl, hS, fun _ => rfl⟩)
    fun _ _ _ _ _ z => by
      obtain ⟨_, _, _, _, _, _, _, _, _, _, _, _, z⟩ := z
      exact z
end R

/-! RLib: laws of R's operations on lists that are made by an index. -/
namespace R
open PySem
/-- a list by an index -/
def tab (c : Nat) (F : Nat → D) : D := .lst ((List.range c).map F)
abbrev vec (c : Nat) (f : Nat → Int) : D := tab c fun k => .int (f k)
theorem szOk_of {n : Nat} (h : n ≤ 16777216) : szOk n = true := Nat.ble_eq_true_of_le h
theorem atI_nat' {α : Type} (xs : List α) (k : Nat) : L2.atI xs (k : Int) = xs[k]? := by
  cases e : xs[k]? with
  | some v => exact L2.atI_nat e
  | none =>
    have hk := List.getElem?_eq_none_iff.mp e
    unfold L2.atI L2.ixN
    rw [if_pos (by omega), if_neg (by omega)]
    rfl
theorem atI_last {α : Type} (xs : List α) (x : α) : L2.atI (xs ++ [x]) (-1) = some x := by
  unfold L2.atI L2.ixN
  rw [if_neg (by omega), if_pos (by simp; omega)]
  show (xs ++ [x])[(((xs ++ [x]).length : Int) + -1).toNat]? = some x
  have : (((xs ++ [x]).length : Int) + -1).toNat = xs.length := by simp; omega
  rw [this]; simp
theorem get_tab {c k : Nat} {F : Nat → D} (h : k < c) : ((List.range c).map F)[k]? = some (F k) := by
  rw [List.getElem?_map, List.getElem?_range h]; rfl
theorem idx_tab {m : Mm} {c k : Nat} {F : Nat → D} (h : k < c) : idxD m (tab c F) (.int (k : Int)) = some (F k) := by
  simp only [idxD, tab, seqOf, lstOf, atI_nat', get_tab h]
theorem len_tab {m : Mm} {c : Nat} {F : Nat → D} {o : Bool} : bltD .len o [tab c F] m = .ok (.int c) m := by
  simp [bltD, tab, seqOf, lstOf]
theorem list_tab {m : Mm} {c : Nat} {F : Nat → D} (h : c ≤ 16777216) : bltD .list_ false [tab c F] m = .ok (tab c F) m := by
  simp [bltD, tab, seqOf, lstOf, mkL, szOk_of h]
theorem intsOf_map {α : Type} (f : α → Int) : ∀ xs : List α, intsOf (xs.map fun k => D.int (f k)) = some (xs.map f)
  | [] => rfl
  | x :: xs => by
    have ih := intsOf_map f xs
    unfold intsOf at ih ⊢
    rw [List.map_cons, List.mapM_cons, ih]
    rfl
/-! ### least ones -/
/-- the least of f 0 .. f (c - 1) -/
def mn (c : Nat) (f : Nat → Int) : Int := minI ((List.range c).map f)
theorem mn_le {c k : Nat} {f : Nat → Int} (h : k < c) : mn c f ≤ f k := minI_le (List.mem_map.mpr ⟨k, List.mem_range.mpr h, rfl⟩)
theorem mn_at {c : Nat} (f : Nat → Int) (h : 0 < c) : ∃ k, k < c ∧ f k = mn c f := by
  have q : minI ((List.range c).map f) ∈ (List.range c).map f := minI_mem (by simp; omega)
  obtain ⟨k, hk, e⟩ := List.mem_map.mp q
  exact ⟨k, List.mem_range.mp hk, e⟩
theorem mn_eq {c : Nat} {f : Nat → Int} {z : Int} (h1 : ∀ k, k < c → z ≤ f k) {k : Nat} (h2 : k < c) (h3 : f k = z) : mn c f = z := by
  obtain ⟨j, hj, e⟩ := mn_at f (Nat.lt_of_le_of_lt (Nat.zero_le _) h2)
  have a := mn_le (f := f) h2
  have b := h1 j hj
  omega
theorem mn_congr {c : Nat} {f g : Nat → Int} (h : ∀ k, k < c → f k = g k) : mn c f = mn c g := by
  unfold mn
  rw [List.map_congr_left fun k hk => h k (List.mem_range.mp hk)]
theorem min1_vec {m : Mm} {c : Nat} {f : Nat → Int} {o : Bool} (h : 0 < c) : bltD .min1 o [vec c f] m = .ok (.int (mn c f)) m := by
  have e := intsOf_map f (List.range c)
  simp only [bltD, tab, lstOf, e, List.length_map, List.length_range]
  rw [if_neg (by omega)]; rfl
theorem idxOf_mem : ∀ {xs : List Int} {x : Int}, x ∈ xs → ∃ k, xs.idxOf? x = some k ∧ xs[k]? = some x
  | [], _, h => by cases h
  | y :: r, x, h => by
    by_cases q : y = x
    · subst q
      exact ⟨0, by simp [List.idxOf?, List.findIdx?_cons], rfl⟩
    · have h : x ∈ r := by
        rcases List.mem_cons.mp h with h | h
        · exact absurd h.symm q
        · exact h
      obtain ⟨k, h1, h2⟩ := idxOf_mem h
      refine ⟨k + 1, ?_, by simpa using h2⟩
      simp only [List.idxOf?] at h1 ⊢
      rw [List.findIdx?_cons, h1]
      simp [q]
theorem am_ex (c : Nat) (f : Nat → Int) : ∃ k, 0 < c → k < c ∧ f k = mn c f ∧ ((List.range c).map f).idxOf? (mn c f) = some k := by
  by_cases h : 0 < c
  · have q : minI ((List.range c).map f) ∈ (List.range c).map f := minI_mem (by simp; omega)
    obtain ⟨k, h1, h2⟩ := idxOf_mem q
    refine ⟨k, fun _ => ?_⟩
    have hk := (List.getElem?_eq_some_iff.mp h2).1
    rw [List.length_map, List.length_range] at hk
    rw [List.getElem?_map, List.getElem?_range hk] at h2
    exact ⟨hk, Option.some.inj h2, h1⟩
  · exact ⟨0, fun z => absurd z h⟩
/-- where the least one stands first -/
noncomputable def am (c : Nat) (f : Nat → Int) : Nat := Classical.choose (am_ex c f)
theorem am_lt {c : Nat} {f : Nat → Int} (h : 0 < c) : am c f < c := (Classical.choose_spec (am_ex c f) h).1
theorem am_mn {c : Nat} {f : Nat → Int} (h : 0 < c) : f (am c f) = mn c f := (Classical.choose_spec (am_ex c f) h).2.1
theorem index_vec {m : Mm} {c : Nat} {f : Nat → Int} {o : Bool} (h : 0 < c) : bmD .index o (vec c f) [.int (mn c f)] m = .ok (.int (am c f)) m := by
  have e := intsOf_map f (List.range c)
  have q : ((List.range c).map f).idxOf? (mn c f) = some (am c f) := (Classical.choose_spec (am_ex c f) h).2.2
  simp only [bmD, tab, lstOf, e, q]
theorem bmTy_tab {m : Mm} {c : Nat} {F : Nat → D} {b : Bm} : bmTy b m (tab c F) = true := by cases b <;> rfl
/-! ### comprehensions and loops -/
theorem mapL_map {α : Type} {f : D → Mm → Res Mm (Option D)} {q : α → D} {g : α → D} {h : Mm} {xs : List α} (H : ∀ x ∈ xs, f (q x) h = .ok (some (g x)) h) : mapL f (xs.map q) h = .ok (xs.map g) h := by
  induction xs with
  | nil => rfl
  | cons x xs ih =>
    have e := H x List.mem_cons_self
    have ih := ih fun y hy => H y (List.mem_cons_of_mem _ hy)
    simp only [List.map_cons, mapL, e, ih, Res.bind_ok]
/-- a comprehension over range(c) -/
theorem mapL_rng {f : D → Mm → Res Mm (Option D)} {c : Nat} {h : Mm} (g : Nat → D) (H : ∀ k, k < c → f (.int (k : Int)) h = .ok (some (g k)) h) : mapL f ((List.range c).map fun (k : Nat) => .int (k : Int)) h = .ok ((List.range c).map g) h :=
  mapL_map fun k hk => H k (List.mem_range.mp hk)
theorem mapL_tab {f : D → Mm → Res Mm (Option D)} {c : Nat} {h : Mm} {F : Nat → D} (g : Nat → D) (H : ∀ k, k < c → f (F k) h = .ok (some (g k)) h) : mapL f ((List.range c).map F) h = .ok ((List.range c).map g) h :=
  mapL_map fun k hk => H k (List.mem_range.mp hk)
theorem forL_nx {f : D → Sx → Res Sx Fl} {c : Nat} {F : Nat → D} (S : Nat → Sx → Prop) {s : Sx} (h0 : S 0 s) (step : ∀ k s, k < c → S k s → ∃ s', f (F k) s = .ok .nx s' ∧ S (k + 1) s') : ∃ s', forL f ((List.range c).map F) s = .ok .nx s' ∧ S c s' := by
  have key : ∀ (n k : Nat) (s : Sx), k + n = c → S k s → ∃ s', forL f ((List.range' k n).map F) s = .ok .nx s' ∧ S c s' := by
    intro n
    induction n with
    | zero =>
      intro k s e h
      have : k = c := by omega
      subst this
      exact ⟨s, rfl, h⟩
    | succ n ih =>
      intro k s e h
      obtain ⟨s1, e1, h1⟩ := step k s (by omega) h
      obtain ⟨s2, e2, h2⟩ := ih (k + 1) s1 (by omega) h1
      refine ⟨s2, ?_, h2⟩
      rw [List.range'_succ, List.map_cons]
      simp only [forL, e1, Res.bind_ok, e2]
  rw [List.range_eq_range']
  exact key c 0 s (by omega) h0
/-- .. that may return -/
theorem forL_rt {f : D → Sx → Res Sx Fl} {c : Nat} {F : Nat → D} (S : Nat → Sx → Prop) {s : Sx} (h0 : S 0 s) (step : ∀ k s, k < c → S k s → ∃ s', (f (F k) s = .ok .nx s' ∨ f (F k) s = .ok .ct s') ∧ S (k + 1) s') : ∃ s', forL f ((List.range c).map F) s = .ok .nx s' ∧ S c s' := by
  have key : ∀ (n k : Nat) (s : Sx), k + n = c → S k s → ∃ s', forL f ((List.range' k n).map F) s = .ok .nx s' ∧ S c s' := by
    intro n
    induction n with
    | zero =>
      intro k s e h
      have : k = c := by omega
      subst this
      exact ⟨s, rfl, h⟩
    | succ n ih =>
      intro k s e h
      obtain ⟨s1, e1, h1⟩ := step k s (by omega) h
      obtain ⟨s2, e2, h2⟩ := ih (k + 1) s1 (by omega) h1
      refine ⟨s2, ?_, h2⟩
      rw [List.range'_succ, List.map_cons]
      rcases e1 with e1 | e1 <;> simp only [forL, e1, Res.bind_ok, e2]
  rw [List.range_eq_range']
  exact key c 0 s (by omega) h0
theorem small_of {n : Nat} (h : n ≤ 1000000) : small62 (n : Int) = true := by
  unfold small62
  exact Nat.ble_eq_true_of_le (by omega)
/-! ### without ids -/
theorem nrs_map {α : Type} {F : α → D} : ∀ {xs : List α}, (∀ x ∈ xs, nr (F x) = true) → nrs (xs.map F) = true
  | [], _ => rfl
  | x :: xs, h => by
    rw [List.map_cons]
    simp only [nrs, h x List.mem_cons_self, nrs_map fun y hy => h y (List.mem_cons_of_mem _ hy), Bool.and_self]
theorem nr_tab {c : Nat} {F : Nat → D} (h : ∀ k, nr (F k) = true) : nr (tab c F) = true := by
  unfold tab
  simp only [nr]
  exact nrs_map fun k _ => h k
theorem nr_vec {c : Nat} {f : Nat → Int} : nr (vec c f) = true := nr_tab fun _ => by simp only [nr]
theorem nr_mat {c d : Nat} {f : Nat → Nat → Int} : nr (tab d fun i => vec c (f i)) = true := nr_tab fun _ => nr_vec
theorem nr_scr {ns : List Int} : nr (.scr (ns.map .int)) = true := by
  simp only [nr]
  exact nrs_map fun _ _ => by simp only [nr]
theorem rsv_nr {h : Mm} {k : Nat} {d : D} (q : nr d = true) : rsv h (k + 1) d = some d := by
  unfold rsv
  rw [if_pos q]
theorem rsv9 {h : Mm} {d : D} (q : nr d = true) : rsv h 9 d = some d := rsv_nr q
theorem mapM_rsv {h : Mm} {k : Nat} : ∀ {xs : List D}, nrs xs = true → xs.mapM (rsv h (k + 1)) = some xs
  | [], _ => rfl
  | x :: xs, q => by
    simp only [nrs, Bool.and_eq_true] at q
    rw [List.mapM_cons, rsv_nr q.1, mapM_rsv q.2]
    rfl
theorem mapM_own {h : Mm} {k : Nat} {α : Type} {f : α → Int} : ∀ {xs : List α}, (xs.map fun x => D.int (f x)).mapM (own h (k + 1)) = some (xs.map fun x => D.int (f x))
  | [] => rfl
  | x :: xs => by
    rw [List.map_cons, List.mapM_cons, mapM_own (xs := xs)]
    simp [own]
theorem frz_nrs {k : Nat} {h : Mm} : ∀ {xs : List D}, nrs xs = true → thr (frzN (k + 1)) xs h = some (xs, h)
  | [], _ => rfl
  | x :: xs, q => by
    simp only [nrs, Bool.and_eq_true] at q
    have e : frzN (k + 1) x h = some (x, h) := by
      unfold frzN
      rw [if_pos q.1]
    simp only [thr, e, frz_nrs q.2, Option.bind_some]
/-- a list at an id is frozen -/
theorem frz_ref {h : Mm} {n : Nat} {xs : List D} (e : h[n]? = some (.lst xs)) (q : nrs xs = true) : frzD (.ref n) h = .ok (.lst xs) (h.set n .dead) := by
  unfold frzD frzN
  simp only [nr, e, frz_nrs q, Option.map_some]
  rfl
/-! ### a def that is run by itself, on values without ids -/
theorem call_pure {p : Pg} {n f : Nat} {fd : FD} {as : List D} {h : Mm} {d' : D} (hf : p.fns[f]? = some fd) (hl : as.length = fd.np) (hp : fd.pure_ = true) (hn : nrs as = true)
    (hb : ∃ d s, execSs p (callN p n) fd.body ⟨as.map some ++ List.replicate (fd.nl - fd.np) none, []⟩ = .ok (.rt d) s ∧ rsv s.hp 9 d = some d') : callN p (n + 1) f as h = .ok d' h := by
  obtain ⟨d, s, hb, hr⟩ := hb
  simp only [callN, hf]
  rw [if_pos hl, if_pos hp, if_pos hn, hb]
  simp only [finP, rtD, Option.bind_some, if_true, hr]
theorem call_own {p : Pg} {n f : Nat} {fd : FD} {as : List D} {h : Mm} {d' : D} (as' : List D) (hf : p.fns[f]? = some fd) (hl : as.length = fd.np) (hp : fd.pure_ = true) (hn : nrs as = false) (ha : as.mapM (rsv h 9) = some as')
    (hb : ∃ d s, execSs p (callN p n) fd.body ⟨as'.map some ++ List.replicate (fd.nl - fd.np) none, []⟩ = .ok (.rt d) s ∧ own s.hp 9 d = some d') : callN p (n + 1) f as h = .ok d' h := by
  obtain ⟨d, s, hb, hr⟩ := hb
  simp only [callN, hf]
  rw [if_pos hl, if_pos hp, if_neg (by rw [hn]; exact Bool.false_ne_true), ha]
  simp only [hb, finP, rtD, Option.bind_some, Bool.false_eq_true, if_false, hr]
theorem call_imp {p : Pg} {n f : Nat} {fd : FD} {as : List D} {h h' : Mm} {d : D} (hf : p.fns[f]? = some fd) (hl : as.length = fd.np) (hp : fd.pure_ = false)
    (hb : ∃ x s, execSs p (callN p n) fd.body ⟨as.map some ++ List.replicate (fd.nl - fd.np) none, h⟩ = .ok x s ∧ rtD x = some d ∧ s.hp = h') : callN p (n + 1) f as h = .ok d h' := by
  obtain ⟨x, s, hb, hx, hs⟩ := hb
  simp only [callN, hf]
  rw [if_pos hl, if_neg (by rw [hp]; exact Bool.false_ne_true), hb]
  simp only [fin, hx, hs]
end R

/-! RWp: statements of R, one after another. -/
namespace R
open PySem
def Wp (p : Pg) (c : Calls) (ms : List MS) (s : Sx) (Q : Fl → Sx → Prop) : Prop := ∃ f s', execSs p c ms s = .ok f s' ∧ Q f s'
/-- behind a statement that may return -/
def Nxt (p : Pg) (c : Calls) (ms : List MS) (Q : Fl → Sx → Prop) : Fl → Sx → Prop
  | .nx, s => Wp p c ms s Q
  | f, s => Q f s
variable {p : Pg} {c : Calls} {ms : List MS} {s : Sx} {Q : Fl → Sx → Prop} {sl : List (Option D)} {h h1 h2 h3 : Mm} {d x y : D} {i : Nat} {e o k : ME}
theorem wp_nil (q : Q .nx s) : Wp p c [] s Q := ⟨_, _, by simp only [execSs], q⟩
theorem wp_cons {m : MS} {s' : Sx} (a : execS p c m s = .ok .nx s') (q : Wp p c ms s' Q) : Wp p c (m :: ms) s Q := by
  obtain ⟨f, s2, e, q⟩ := q
  exact ⟨f, s2, by simp only [execSs, a, Res.bind_ok, e], q⟩
theorem wp_any {m : MS} {f : Fl} {s' : Sx} (a : execS p c m s = .ok f s') (q : Nxt p c ms Q f s') : Wp p c (m :: ms) s Q := by
  cases f with
  | nx => exact wp_cons a q
  | bk => exact ⟨_, _, by simp only [execSs, a, Res.bind_ok], q⟩
  | ct => exact ⟨_, _, by simp only [execSs, a, Res.bind_ok], q⟩
  | rt d => exact ⟨_, _, by simp only [execSs, a, Res.bind_ok], q⟩
theorem wp_set (a : evalE p c e sl h = .ok d h1) (q : Wp p c ms ⟨sl.set i (some d), h1⟩ Q) : Wp p c (.set i e :: ms) ⟨sl, h⟩ Q := wp_cons (by simp only [execS, a, up_ok]) q
theorem wp_ex (a : evalE p c e sl h = .ok d h1) (q : Wp p c ms ⟨sl, h1⟩ Q) : Wp p c (.ex e :: ms) ⟨sl, h⟩ Q := wp_cons (by simp only [execS, a, up_ok]) q
theorem wp_ret (a : evalE p c e sl h = .ok d h1) (q : Q (.rt d) ⟨sl, h1⟩) : Wp p c (.ret e :: ms) ⟨sl, h⟩ Q := wp_any (f := .rt d) (s' := ⟨sl, h1⟩) (by simp only [execS, a, up_ok]) q
theorem wp_unp {g : Tg} {sl' : List (Option D)} (a : evalE p c e sl h = .ok d h1) (b : bindT g d sl = some sl') (q : Wp p c ms ⟨sl', h1⟩ Q) : Wp p c (.unp g e :: ms) ⟨sl, h⟩ Q := wp_cons (by simp only [execS, a, up_ok, b]) q
theorem wp_setf {f : Nat} (a : evalE p c e sl h = .ok d h1) (b : evalE p c o sl h1 = .ok x h2) (z : setFD x f d h2 = some h3) (q : Wp p c ms ⟨sl, h3⟩ Q) : Wp p c (.setf o f e :: ms) ⟨sl, h⟩ Q := wp_cons (by simp only [execS, a, up_ok, b, z]) q
theorem wp_seti {k : ME} {h4 : Mm} (a : evalE p c e sl h = .ok d h1) (b : evalE p c o sl h1 = .ok x h2) (b2 : evalE p c k sl h2 = .ok y h3) (z : setID x y d h3 = some h4) (q : Wp p c ms ⟨sl, h4⟩ Q) : Wp p c (.seti o k e :: ms) ⟨sl, h⟩ Q := wp_cons (by simp only [execS, a, up_ok, b, b2, z]) q
theorem wp_augf {f : Nat} {op : Op} {v z : D} {h4 : Mm} (b : evalE p c o sl h = .ok x h1) (b1 : fldD h1 f x = some v) (a : evalE p c e sl h1 = .ok d h2) (b2 : augD op v d = some z) (b3 : clsD h2 x = clsD h1 x) (b4 : setFD x f z h2 = some h4) (q : Wp p c ms ⟨sl, h4⟩ Q) : Wp p c (.augf o f op e :: ms) ⟨sl, h⟩ Q :=
  wp_cons (by simp only [execS, b, up_ok, b1, a, b2, b3, b4, if_true]) q
theorem wp_aug {op : Op} {v z : D} (b : sl[i]? = some (some v)) (a : evalE p c e sl h = .ok d h1) (b2 : augD op v d = some z) (q : Wp p c ms ⟨sl.set i (some z), h1⟩ Q) : Wp p c (.aug i op e :: ms) ⟨sl, h⟩ Q :=
  wp_cons (by simp only [execS, b, up_ok, a, b2]) q
theorem wp_frzv {v z : D} (b : sl[i]? = some (some v)) (a : frzD v h = .ok z h1) (q : Wp p c ms ⟨sl.set i (some z), h1⟩ Q) : Wp p c (.frzv i :: ms) ⟨sl, h⟩ Q := wp_cons (by simp only [execS, b, up_ok, a]) q
theorem wp_ite {m1 m2 : List MS} {b : Bool} (a : evalE p c k sl h = .ok x h1) (t : truthD h1 x = some b) (q : Wp p c (if b = true then m1 else m2) ⟨sl, h1⟩ (Nxt p c ms Q)) : Wp p c (.ite k m1 m2 :: ms) ⟨sl, h⟩ Q := by
  obtain ⟨f, s', e, q⟩ := q
  refine wp_any (f := f) (s' := s') ?_ q
  cases b with
  | true => simp only [execS, a, up_ok, t]; simpa using e
  | false => simp only [execS, a, up_ok, t]; simpa using e
theorem wp_then {m1 m2 : List MS} (a : evalE p c k sl h = .ok x h1) (t : truthD h1 x = some true) (q : Wp p c m1 ⟨sl, h1⟩ (Nxt p c ms Q)) : Wp p c (.ite k m1 m2 :: ms) ⟨sl, h⟩ Q := wp_ite (b := true) a t (by simpa using q)
theorem wp_else {m1 m2 : List MS} (a : evalE p c k sl h = .ok x h1) (t : truthD h1 x = some false) (q : Wp p c m2 ⟨sl, h1⟩ (Nxt p c ms Q)) : Wp p c (.ite k m1 m2 :: ms) ⟨sl, h⟩ Q := wp_ite (b := false) a t (by simpa using q)
/-- a loop over things by an index: S, what stands before each turn -/
theorem wp_for {g : Tg} {it : It} {body : List MS} {n : Nat} {F : Nat → D} (S : Nat → Sx → Prop) (a : evalI p c it sl h = .ok ((List.range n).map F) h1) (h0 : S 0 ⟨sl, h1⟩)
    (step : ∀ k s, k < n → S k s → ∃ sl', bindT g (F k) s.sl = some sl' ∧ Wp p c body ⟨sl', s.hp⟩ fun f s' => (f = .nx ∨ f = .ct) ∧ S (k + 1) s') (q : ∀ s, S n s → Wp p c ms s Q) : Wp p c (.for_ g it body :: ms) ⟨sl, h⟩ Q := by
  obtain ⟨s', e, hs⟩ := forL_rt (f := fun x s => match bindT g x s.sl with
        | some sl => execSs p c body ⟨sl, s.hp⟩
        | none => .bad) S h0 fun k s hk hS => by
    obtain ⟨sl', b, f, s', e, z, q⟩ := step k s hk hS
    refine ⟨s', ?_, q⟩
    rw [b]
    rcases z with z | z
    · subst z; exact .inl e
    · subst z; exact .inr e
  exact wp_cons (s' := s') (by simp only [execS, a, up_ok]; exact e) (q s' hs)
/-- the condition and the value of a comprehension over things by an index -/
theorem lc_at {obj : Bool} {elt : ME} {g : Tg} {it : It} {own : List Nat} {n : Nat} {F G : Nat → D} (a : evalI p c it sl h = .ok ((List.range n).map F) h1) (hn : n ≤ 16777216)
    (step : ∀ k, k < n → ∃ sl', bindT g (F k) (wipe sl own) = some sl' ∧ evalE p c elt sl' h1 = .ok (G k) h1) : evalE p c (.lc obj elt g it none own) sl h = mkL obj ((List.range n).map G) h1 := by
  simp only [evalE, a, Res.bind_ok]
  rw [mapL_map (g := G) fun k hk => ?_]
  · rfl
  · obtain ⟨sl', b, e⟩ := step k (List.mem_range.mp hk)
    simp only [b, e, noExn, Res.bind_ok]
theorem lc_tab {elt : ME} {g : Tg} {it : It} {own : List Nat} {n : Nat} {F G : Nat → D} (a : evalI p c it sl h = .ok ((List.range n).map F) h1) (hn : n ≤ 16777216)
    (step : ∀ k, k < n → ∃ sl', bindT g (F k) (wipe sl own) = some sl' ∧ evalE p c elt sl' h1 = .ok (G k) h1) : evalE p c (.lc false elt g it none own) sl h = .ok (tab n G) h1 := by
  rw [lc_at a hn step]
  simp only [mkL, List.length_map, List.length_range, szOk_of hn, if_true, Bool.false_eq_true, if_false]
  rfl
theorem lc_obj {elt : ME} {g : Tg} {it : It} {own : List Nat} {n : Nat} {F G : Nat → D} (a : evalI p c it sl h = .ok ((List.range n).map F) h1) (hn : n ≤ 16777216)
    (step : ∀ k, k < n → ∃ sl', bindT g (F k) (wipe sl own) = some sl' ∧ evalE p c elt sl' h1 = .ok (G k) h1) : evalE p c (.lc true elt g it none own) sl h = .ok (.ref h1.length) (h1 ++ [.lst ((List.range n).map G)]) := by
  rw [lc_at a hn step]
  simp only [mkL, List.length_map, List.length_range, szOk_of hn, if_true]
theorem it_rng {a : ME} {n : Nat} (e : evalE p c a sl h = .ok (.int (n : Int)) h1) (hn : n ≤ 1000000) : evalI p c (.rng1 a) sl h = .ok ((List.range n).map fun (k : Nat) => .int (k : Int)) h1 := by
  simp only [evalI, e, Res.bind_ok, small_of hn, if_true, Int.toNat_natCast]
theorem it_tab {a : ME} {n : Nat} {F : Nat → D} (e : evalE p c a sl h = .ok (tab n F) h1) : evalI p c (.seq a) sl h = .ok ((List.range n).map F) h1 := by
  simp only [evalI, e, Res.bind_ok, tab]
theorem it_zip {a b : ME} {n : Nat} {F G : Nat → D} (e : evalE p c a sl h = .ok (tab n F) h1) (e2 : evalE p c b sl h1 = .ok (tab n G) h2) : evalI p c (.zip a b) sl h = .ok ((List.range n).map fun k => .tup [F k, G k]) h2 := by
  simp only [evalI, e, e2, Res.bind_ok, tab]
  rw [List.zip_map']
  simp only [List.map_map]
  rfl
theorem set_last {α : Type} (xs : List α) (x y : α) : (xs ++ [x]).set xs.length y = xs ++ [y] := by
  rw [List.set_append_right _ _ (Nat.le_refl _), Nat.sub_self]; rfl
theorem get_last {α : Type} (xs : List α) (x : α) : (xs ++ [x])[xs.length]? = some x := by simp
theorem map_rng_succ {α : Type} (F : Nat → α) (j : Nat) : (List.range (j + 1)).map F = (List.range j).map F ++ [F j] := by rw [List.range_succ, List.map_append]; rfl
/-- x.append(e) where x stands at n -/
theorem ev_app {o e : ME} {obj : Bool} {n m : Nat} {F : Nat → D} (a : evalE p c o sl h = .ok (.ref n) h1) (l : h1[n]? = some (.lst ((List.range m).map F))) (b : evalE p c e sl h1 = .ok (F m) h2) (l2 : h2[n]? = some (.lst ((List.range m).map F))) (hm : m < 16777216) :
    evalE p c (.bm .append obj o [e]) sl h = .ok .non (h2.set n (.lst ((List.range (m + 1)).map F))) := by
  simp only [evalE, evalEs, a, b, Res.bind_ok, bmTy, lstOf, l, l2, Option.isSome_some, if_true, bmD, List.length_map, List.length_range, szOk_of (show m + 1 ≤ 16777216 by omega), map_rng_succ]
theorem call_run {n f : Nat} {fd : FD} {as : List D} {d' : D} (hf : p.fns[f]? = some fd) (hl : as.length = fd.np) (hp : fd.pure_ = true) (hn : nrs as = true)
    (hb : Wp p (callN p n) fd.body ⟨as.map some ++ List.replicate (fd.nl - fd.np) none, []⟩ fun f s => ∃ d, f = .rt d ∧ rsv s.hp 9 d = some d') : callN p (n + 1) f as h = .ok d' h := by
  obtain ⟨f', s, e, d, rfl, r⟩ := hb
  exact call_pure hf hl hp hn ⟨d, s, e, r⟩
theorem call_runO {n f : Nat} {fd : FD} {as as' : List D} {d' : D} (hf : p.fns[f]? = some fd) (hl : as.length = fd.np) (hp : fd.pure_ = true) (hn : nrs as = false) (ha : as.mapM (rsv h 9) = some as')
    (hb : Wp p (callN p n) fd.body ⟨as'.map some ++ List.replicate (fd.nl - fd.np) none, []⟩ fun f s => ∃ d, f = .rt d ∧ own s.hp 9 d = some d') : callN p (n + 1) f as h = .ok d' h := by
  obtain ⟨f', s, e, d, rfl, r⟩ := hb
  exact call_own as' hf hl hp hn ha ⟨d, s, e, r⟩
theorem call_runI {n f : Nat} {fd : FD} {as : List D} {d : D} (hf : p.fns[f]? = some fd) (hl : as.length = fd.np) (hp : fd.pure_ = false)
    (hb : Wp p (callN p n) fd.body ⟨as.map some ++ List.replicate (fd.nl - fd.np) none, h⟩ fun f s => rtD f = some d ∧ s.hp = h1) : callN p (n + 1) f as h = .ok d h1 := by
  obtain ⟨f', s, e, r, z⟩ := hb
  exact call_imp hf hl hp ⟨f', s, e, r, z⟩
end R

namespace K45
open PySem R
/-- next_works (works, task, ways, count, served, x, s) -/
def d_next_works : FD := ⟨3, 7, [.set 3 (.blt .len false [(.var 0)]), .set 4 (.lc false (.bin .add false (.idx (.var 0) (.var 5)) (.bin .mul false (.lit (.int 2)) (.idx (.var 1) (.var 5)))) (.nm 5) (.rng1 (.var 3)) none [5]), .ret (.lc false (.blt .min1 false [(.lc false (.bin .add false (.idx (.var 4) (.var 5)) (.idx (.idx (.var 2) (.var 5)) (.var 6))) (.nm 5) (.rng1 (.var 3)) none [5])]) (.nm 6) (.rng1 (.var 3)) none [6])], true, []⟩
/-- first_least (sums) -/
def d_first_least : FD := ⟨1, 1, [.ret (.bm .index false (.var 0) [(.blt .min1 false [(.var 0)])])], true, []⟩
/-- Policy.__init__ (self, start, stands, ways, row) -/
def d_Policy___init__ : FD := ⟨4, 5, [.setf (.var 0) 0 (.var 1), .setf (.var 0) 1 (.blt .list_ false [(.var 2)]), .setf (.var 0) 2 (.lc false (.blt .list_ false [(.var 4)]) (.nm 4) (.seq (.var 3)) none [4]), .setf (.var 0) 3 (.var 1), .setf (.var 0) 4 (.lit (.int 0)), .setf (.var 0) 5 (.lst true []), .setf (.var 0) 6 (.lst true [(.blt .list_ false [(.idx (.fld (.var 0) 2) (.var 1))])])], false, []⟩
/-- Policy.going (self, first, second) -/
def d_Policy_going : FD := ⟨3, 3, [.ret (.bin .fdiv false (.bin .sub false (.bin .add false (.idx (.idx (.fld (.var 0) 2) (.var 1)) (.var 2)) (.idx (.fld (.var 0) 1) (.var 2))) (.idx (.fld (.var 0) 1) (.var 1))) (.lit (.int 2)))], true, []⟩
/-- Policy.serve (self, task, works, count, sums, goal, x) -/
def d_Policy_serve : FD := ⟨2, 7, [.set 1 (.blt .list_ false [(.var 1)]), .set 2 (.idx (.fld (.var 0) 6) (.neg (.lit (.int 1)))), .set 3 (.blt .len false [(.var 2)]), .set 4 (.lc false (.bin .add false (.bin .add false (.idx (.var 2) (.var 6)) (.bin .mul false (.lit (.int 2)) (.idx (.var 1) (.var 6)))) (.idx (.idx (.fld (.var 0) 2) (.var 6)) (.fld (.var 0) 3))) (.nm 6) (.rng1 (.var 3)) none [6]), .set 5 (.fld (.var 0) 3), .ite (.cmp .lt (.blt .min1 false [(.var 4)]) (.idx (.var 4) (.fld (.var 0) 3))) [.set 5 (.call 1 [(.var 4)])] [], .augf (.var 0) 4 .add (.bin .add false (.meth (.var 0) 0 [(.fld (.var 0) 3), (.var 5)]) (.idx (.var 1) (.var 5))), .setf (.var 0) 3 (.var 5), .ex (.bm .append false (.fld (.var 0) 5) [(.var 1)]), .ex (.bm .append false (.fld (.var 0) 6) [(.call 0 [(.var 2), (.var 1), (.fld (.var 0) 2)])]), .ret (.var 5)], false, []⟩
/-- _law_draw (_law_script, _law_k, _law_cell, _law_turn, _law_step) -/
def d__law_draw : FD := ⟨2, 5, [.ite (.not_ (.var 0)) [.ret (.bin .mod false (.bin .mul false (.var 1) (.lit (.int 5))) (.lit (.int 7)))] [], .set 2 (.blt .int_ false [(.idx (.var 0) (.bin .mod false (.var 1) (.blt .len false [(.var 0)])))]), .set 3 (.bin .fdiv false (.var 1) (.blt .len false [(.var 0)])), .ite (.cmp .ge (.var 2) (.lit (.int 1000000000000000000))) [.for_ (.nm 4) (.rng1 (.blt .min2 false [(.var 3), (.lit (.int 60))])) [.set 2 (.bin .fdiv false (.var 2) (.lit (.int 100003)))], .ret (.bin .mod false (.var 2) (.lit (.int 100003)))] [], .ret (.bin .mod false (.bin .mul false (.bin .mod false (.bin .add false (.bin .add false (.bin .mul false (.var 2) (.lit (.int 48271))) (.bin .mul false (.var 1) (.lit (.int 69621)))) (.lit (.int 13))) (.lit (.int 2147483647))) (.lit (.int 16807))) (.lit (.int 2147483629)))], true, []⟩
/-- _law_costs (_law_script, _law_count, _law_sizes, _law_layouts, _law_k, _law_stands, _law_ways, _law_first, _law_number, _law_row, _law_second, _law_layout, _law_size, _law_bit) -/
def d__law_costs : FD := ⟨1, 14, [.set 1 (.bin .add false (.lit (.int 1)) (.bin .mod false (.call 5 [(.var 0), (.lit (.int 0))]) (.lit (.int 5)))), .set 2 (.lc false (.bin .add false (.lit (.int 1)) (.bin .mod false (.call 5 [(.var 0), (.bin .add false (.lit (.int 1)) (.var 4))]) (.lit (.int 30)))) (.nm 4) (.rng1 (.lit (.int 4))) none [4]), .set 3 (.lst true []), .for_ (.nm 4) (.rng1 (.var 1)) [.set 8 (.call 5 [(.var 0), (.bin .add false (.lit (.int 6)) (.var 4))]), .ex (.bm .append false (.var 3) [(.lst false [(.bin .mod false (.var 8) (.lit (.int 2))), (.bin .mod false (.bin .fdiv false (.var 8) (.lit (.int 2))) (.lit (.int 2))), (.bin .mod false (.bin .fdiv false (.var 8) (.lit (.int 4))) (.lit (.int 2))), (.bin .mod false (.bin .fdiv false (.var 8) (.lit (.int 8))) (.lit (.int 2)))])])], .frzv 3, .set 5 (.lc false (.blt .sum_ false [(.lc false (.bin .mul false (.var 12) (.var 13)) (.tp [(.nm 12), (.nm 13)]) (.zip (.var 2) (.var 11)) none [12, 13])]) (.nm 11) (.seq (.var 3)) none [11]), .set 6 (.lst true []), .for_ (.nm 7) (.seq (.var 3)) [.set 9 (.lst true []), .for_ (.nm 10) (.seq (.var 3)) [.ex (.bm .append false (.var 9) [(.blt .sum_ false [(.lc false (.bin .mul false (.idx (.var 2) (.var 4)) (.blt .abs_ false [(.bin .sub false (.idx (.var 7) (.var 4)) (.idx (.var 10) (.var 4)))])) (.nm 4) (.rng1 (.lit (.int 4))) none [4])])])], .frzv 9, .ex (.bm .append false (.var 6) [(.var 9)])], .frzv 6, .ret (.tup [(.bin .mod false (.call 5 [(.var 0), (.lit (.int 12))]) (.var 1)), (.var 5), (.var 6)])], true, []⟩
/-- _law_task (_law_number, _law_count, _law_k) -/
def d__law_task : FD := ⟨2, 3, [.ret (.lc false (.bin .mod false (.bin .fdiv false (.var 0) (.bin .add false (.lit (.int 1)) (.bin .mul false (.bin .mul false (.lit (.int 7)) (.var 2)) (.var 2)))) (.idx (.lst false [(.lit (.int 4)), (.lit (.int 40))]) (.bin .mod false (.var 0) (.lit (.int 2))))) (.nm 2) (.rng1 (.var 1)) none [2])], true, []⟩
/-- _law_going (_law_costs_here, _law_first, _law_second) -/
def d__law_going : FD := ⟨3, 3, [.ret (.bin .fdiv false (.bin .sub false (.bin .add false (.idx (.idx (.idx (.var 0) (.lit (.int 2))) (.var 1)) (.var 2)) (.idx (.idx (.var 0) (.lit (.int 1))) (.var 2))) (.idx (.idx (.var 0) (.lit (.int 1))) (.var 1))) (.lit (.int 2)))], true, []⟩
/-- _law_least (_law_costs_here, _law_tasks, _law_count, _law_spent, _law_task_here, _law_after, _law_goal, _law_k, _law_ways, _law_one, _law_x) -/
def d__law_least : FD := ⟨2, 11, [.set 2 (.blt .len false [(.idx (.var 0) (.lit (.int 1)))]), .set 3 (.lc true (.lit .non) (.nm 7) (.rng1 (.var 2)) none [7]), .seti (.var 3) (.idx (.var 0) (.lit (.int 0))) (.lit (.int 0)), .frzv 3, .for_ (.nm 4) (.seq (.var 1)) [.set 5 (.lst true []), .for_ (.nm 6) (.rng1 (.var 2)) [.set 8 (.lc false (.bin .add false (.idx (.var 3) (.var 10)) (.call 8 [(.var 0), (.var 10), (.var 6)])) (.nm 10) (.rng1 (.var 2)) (some (.isn true (.idx (.var 3) (.var 10)))) [10]), .ex (.bm .append false (.var 5) [(.bin .add false (.blt .min1 false [(.var 8)]) (.idx (.var 4) (.var 6)))])], .frzv 5, .set 3 (.var 5)], .ret (.blt .min1 false [(.lc false (.var 9) (.nm 9) (.seq (.var 3)) (some (.isn true (.var 9))) [9])])], true, []⟩
/-- law (_law_script, _law_costs_here, _law_count, _law_policy, _law_constant, _law_tasks, _law_task_here, _law_k, _law_number, _law_place, _law_row) -/
def d_law : FD := ⟨1, 11, [.set 1 (.call 6 [(.var 0)]), .set 2 (.blt .len false [(.idx (.var 1) (.lit (.int 1)))]), .set 3 (.make 0 [(.idx (.var 1) (.lit (.int 0))), (.idx (.var 1) (.lit (.int 1))), (.idx (.var 1) (.lit (.int 2)))]), .set 4 (.bin .add false (.bin .mul false (.var 2) (.blt .max1 false [(.idx (.var 1) (.lit (.int 1)))])) (.bin .mul false (.bin .sub false (.var 2) (.lit (.int 1))) (.blt .max1 false [(.lc false (.blt .max1 false [(.var 10)]) (.nm 10) (.seq (.idx (.var 1) (.lit (.int 2)))) none [10])]))), .set 5 (.lst true []), .set 6 (.lc true (.lit (.int 0)) (.nm 7) (.rng1 (.var 2)) none [7]), .for_ (.nm 7) (.rng1 (.blt .min2 false [(.lit (.int 60)), (.blt .len false [(.var 0)])])) [.set 8 (.call 5 [(.var 0), (.bin .add false (.lit (.int 20)) (.var 7))]), .ite (.cmp .eq (.bin .mod false (.var 8) (.lit (.int 5))) (.lit (.int 0))) [.set 6 (.lc true (.lit (.int 0)) (.nm 9) (.rng1 (.var 2)) none [9]), .seti (.var 6) (.fld (.var 3) 3) (.bin .add false (.lit (.int 1)) (.bin .mod false (.bin .fdiv false (.var 8) (.lit (.int 5))) (.lit (.int 60))))] [.ite (.cmp .lt (.bin .mod false (.var 8) (.lit (.int 5))) (.lit (.int 3))) [.set 6 (.call 7 [(.bin .fdiv false (.var 8) (.lit (.int 5))), (.var 2)])] []], .ex (.bm .append false (.var 5) [(.blt .list_ false [(.var 6)])]), .ex (.meth (.var 3) 1 [(.blt .list_ false [(.var 6)])]), .ite (.cmp .gt (.fld (.var 3) 4) (.bin .add false (.bin .mul false (.bin .sub false (.bin .mul false (.lit (.int 2)) (.var 2)) (.lit (.int 1))) (.call 9 [(.var 1), (.var 5)])) (.var 4))) [.ret (.lit (.bl false))] []], .ret (.lit (.bl true))], true, []⟩
def pg : Pg := ⟨[d_next_works, d_first_least, d_Policy___init__, d_Policy_going, d_Policy_serve, d__law_draw, d__law_costs, d__law_task, d__law_going, d__law_least, d_law], [⟨2, [(0, 3), (1, 4)]⟩]⟩
end K45
namespace K45
open PySem R
theorem first_least_ok {n c : Nat} {f : Nat → Int} {h : Mm} (hc : 0 < c) : callN pg (n + 1) 1 [vec c f] h = .ok (.int (am c f)) h := by
  refine call_pure (fd := d_first_least) rfl rfl rfl (by simp only [nrs, nr_vec, Bool.and_self]) ?_
  simp only [d_first_least, execSs, execS, evalE, evalEs, evalB, evalO, evalI, up_ok, Res.bind_ok, List.getElem?_cons_zero, List.getElem?_cons_succ, List.set_cons_zero, List.set_cons_succ, List.map_cons, List.map_nil, List.cons_append, List.nil_append, List.replicate_succ, List.replicate_zero, Nat.add_one_sub_one, Cn.d, if_true, wipe, bindT, bindTs, binD, addD, mulD, arD, mkL, mkT, Bool.false_eq_true, if_false, Nat.reduceSub, List.replicate, Option.bind_some, bmTy_tab, min1_vec hc, index_vec hc]
  exact ⟨_, _, rfl, rsv9 rfl⟩
theorem mulOk_r {i : Int} {j : Int} (h : j.natAbs ≤ 18446744073709551615) : mulOk i j = true := by
  unfold mulOk
  rw [Nat.ble_eq_true_of_le h, Bool.or_true, Bool.true_or]
theorem mulOk_l {i : Int} {j : Int} (h : i.natAbs ≤ 18446744073709551615) : mulOk i j = true := by
  unfold mulOk
  rw [Nat.ble_eq_true_of_le h, Bool.true_or, Bool.true_or]
theorem mulOk_two {j : Int} : mulOk 2 j = true := mulOk_l (by decide)
/-- the next works -/
noncomputable def nw (c : Nat) (W : Nat → Nat → Int) (w t : Nat → Int) : Nat → Int := fun s => mn c fun x => w x + 2 * t x + W x s
theorem next_works_ok {n c : Nat} {w t : Nat → Int} {W : Nat → Nat → Int} {h : Mm} (hc : 0 < c) (hb : c ≤ 5) : callN pg (n + 1) 0 [vec c w, vec c t, tab c fun i => vec c (W i)] h = .ok (vec c (nw c W w t)) h := by
  refine call_pure (fd := d_next_works) rfl rfl rfl (by simp only [nrs, nr_vec, nr_mat, Bool.and_self]) ?_
  have sm : small62 (c : Int) = true := small_of (by omega)
  have sz : szOk c = true := szOk_of (by omega)
  simp only [d_next_works, execSs, execS, evalE, evalEs, evalB, evalO, evalI, up_ok, Res.bind_ok, List.getElem?_cons_zero, List.getElem?_cons_succ, List.set_cons_zero, List.set_cons_succ, List.map_cons, List.map_nil, List.cons_append, List.nil_append, List.replicate_succ, List.replicate_zero, Nat.add_one_sub_one, Cn.d, if_true, wipe, bindT, bindTs, binD, addD, mulD, arD, mkL, mkT, Bool.false_eq_true, if_false, Nat.reduceSub, List.replicate, Option.bind_some, sm, sz, Int.toNat_natCast, List.length_map, List.length_range, len_tab]
  rw [mapL_rng (c := c) (fun k => .int (w k + 2 * t k)) fun k hk => by
    simp only [execSs, execS, evalE, evalEs, evalB, evalO, evalI, up_ok, Res.bind_ok, List.getElem?_cons_zero, List.getElem?_cons_succ, List.set_cons_zero, List.set_cons_succ, List.map_cons, List.map_nil, List.cons_append, List.nil_append, List.replicate_succ, List.replicate_zero, Nat.add_one_sub_one, Cn.d, if_true, wipe, bindT, bindTs, binD, addD, mulD, arD, mkL, mkT, Bool.false_eq_true, if_false, Nat.reduceSub, List.replicate, Option.bind_some, sm, sz, Int.toNat_natCast, List.length_map, List.length_range, idx_tab hk, noExn, mulOk_two]]
  simp only [execSs, execS, evalE, evalEs, evalB, evalO, evalI, up_ok, Res.bind_ok, List.getElem?_cons_zero, List.getElem?_cons_succ, List.set_cons_zero, List.set_cons_succ, List.map_cons, List.map_nil, List.cons_append, List.nil_append, List.replicate_succ, List.replicate_zero, Nat.add_one_sub_one, Cn.d, if_true, wipe, bindT, bindTs, binD, addD, mulD, arD, mkL, mkT, Bool.false_eq_true, if_false, Nat.reduceSub, List.replicate, Option.bind_some, sm, sz, Int.toNat_natCast, List.length_map, List.length_range]
  rw [mapL_rng (c := c) (fun k => .int (nw c W w t k)) fun k hk => by
    try simp only [execSs, execS, evalE, evalEs, evalB, evalO, evalI, up_ok, Res.bind_ok, List.getElem?_cons_zero, List.getElem?_cons_succ, List.set_cons_zero, List.set_cons_succ, List.map_cons, List.map_nil, List.cons_append, List.nil_append, List.replicate_succ, List.replicate_zero, Nat.add_one_sub_one, Cn.d, if_true, wipe, bindT, bindTs, binD, addD, mulD, arD, mkL, mkT, Bool.false_eq_true, if_false, Nat.reduceSub, List.replicate, Option.bind_some, sm, sz, Int.toNat_natCast, List.length_map, List.length_range]
    rw [mapL_rng (c := c) (fun x => .int (w x + 2 * t x + W x k)) fun x hx => by
      have e := idx_tab (m := []) (F := fun x => .int (w x + 2 * t x)) hx
      unfold tab at e
      simp only [execSs, execS, evalE, evalEs, evalB, evalO, evalI, up_ok, Res.bind_ok, List.getElem?_cons_zero, List.getElem?_cons_succ, List.set_cons_zero, List.set_cons_succ, List.map_cons, List.map_nil, List.cons_append, List.nil_append, List.replicate_succ, List.replicate_zero, Nat.add_one_sub_one, Cn.d, if_true, wipe, bindT, bindTs, binD, addD, mulD, arD, mkL, mkT, Bool.false_eq_true, if_false, Nat.reduceSub, List.replicate, Option.bind_some, sm, sz, Int.toNat_natCast, List.length_map, List.length_range, idx_tab hx, idx_tab hk, e, noExn]]
    have e := min1_vec (m := []) (f := fun x => w x + 2 * t x + W x k) (o := false) hc
    unfold vec tab at e
    simp only [execSs, execS, evalE, evalEs, evalB, evalO, evalI, up_ok, Res.bind_ok, List.getElem?_cons_zero, List.getElem?_cons_succ, List.set_cons_zero, List.set_cons_succ, List.map_cons, List.map_nil, List.cons_append, List.nil_append, List.replicate_succ, List.replicate_zero, Nat.add_one_sub_one, Cn.d, if_true, wipe, bindT, bindTs, binD, addD, mulD, arD, mkL, mkT, Bool.false_eq_true, if_false, Nat.reduceSub, List.replicate, Option.bind_some, sm, sz, Int.toNat_natCast, List.length_map, List.length_range, e, noExn, nw]]
  simp only [execSs, execS, evalE, evalEs, evalB, evalO, evalI, up_ok, Res.bind_ok, List.getElem?_cons_zero, List.getElem?_cons_succ, List.set_cons_zero, List.set_cons_succ, List.map_cons, List.map_nil, List.cons_append, List.nil_append, List.replicate_succ, List.replicate_zero, Nat.add_one_sub_one, Cn.d, if_true, wipe, bindT, bindTs, binD, addD, mulD, arD, mkL, mkT, Bool.false_eq_true, if_false, Nat.reduceSub, List.replicate, Option.bind_some, sm, sz, Int.toNat_natCast, List.length_map, List.length_range]
  exact ⟨_, _, rfl, rsv9 nr_vec⟩
end K45
namespace K45
open PySem R
/-! ### the script's numbers -/
def at0 (ns : List Int) (j : Nat) : Int := match ns[j]? with | some x => x | none => 0
theorem idx_scr {m : Mm} {ns : List Int} {j : Nat} (h : j < ns.length) : idxD m (.scr (ns.map .int)) (.int (j : Int)) = some (.int (at0 ns j)) := by
  simp only [idxD, seqOf, lstOf, atI_nat', List.getElem?_map, at0, List.getElem?_eq_getElem h, Option.map_some]
def itn : Nat → Int → Int
  | 0, z => z
  | n + 1, z => itn n z / 100003
def drawZ (ns : List Int) (k : Nat) : Int :=
  if ns.length = 0 then (k : Int) * 5 % 7
  else if 1000000000000000000 ≤ at0 ns (k % ns.length) then itn (if 60 < k / ns.length then 60 else k / ns.length) (at0 ns (k % ns.length)) % 100003
  else (at0 ns (k % ns.length) * 48271 + (k : Int) * 69621 + 13) % 2147483647 * 16807 % 2147483629
theorem mulOk_5 {i : Int} : mulOk i 5 = true := mulOk_r (by decide)
theorem nrs_ints {ns : List Int} : nrs (ns.map D.int) = true := nrs_map fun _ _ => by simp only [nr]
theorem draw_ok {ns : List Int} (hl : ns.length ≤ 63) (k n : Nat) (h : Mm) : callN pg (n + 1) 5 [.scr (ns.map .int), .int (k : Int)] h = .ok (.int (drawZ ns k)) h := by
  refine call_pure (fd := d__law_draw) rfl rfl rfl (by simp only [nrs, nr, nrs_ints, Bool.and_self]) ?_
  by_cases h0 : ns.length = 0
  · have e0 : ns = [] := List.eq_nil_of_length_eq_zero h0
    subst e0
    simp only [d__law_draw, execSs, execS, evalE, evalEs, evalB, evalO, evalI, up_ok, Res.bind_ok, List.getElem?_cons_zero, List.getElem?_cons_succ, List.set_cons_zero, List.set_cons_succ, List.map_cons, List.map_nil, List.cons_append, List.nil_append, List.replicate_succ, List.replicate_zero, Nat.add_one_sub_one, Cn.d, if_true, wipe, bindT, bindTs, binD, addD, mulD, arD, mkL, mkT, Bool.false_eq_true, if_false, Nat.reduceSub, List.replicate, Option.bind_some, truthD, lstOf, Option.map_some, List.isEmpty_nil, Bool.not_true, Bool.not_false, mulOk_5, decide_true, show decide ((0:Int) < 7) = true from rfl]
    exact ⟨_, _, rfl, rsv9 rfl⟩
  · have hp : 0 < ns.length := Nat.pos_of_ne_zero h0
    have hne : (ns.map D.int).isEmpty = false := by
      cases ns with
      | nil => exact absurd rfl h0
      | cons _ _ => rfl
    have e1 : decide ((0 : Int) < ((ns.length : Nat) : Int)) = true := decide_eq_true (by omega)
    have e2 : divOk ((ns.length : Nat) : Int) = true := by
      unfold divOk
      rw [e1, Bool.true_and]
      exact Nat.ble_eq_true_of_le (by omega)
    have e3 : ((k : Nat) : Int) % ((ns.length : Nat) : Int) = ((k % ns.length : Nat) : Int) := (Int.natCast_emod _ _).symm
    have e4 : ((k : Nat) : Int) / ((ns.length : Nat) : Int) = ((k / ns.length : Nat) : Int) := (Int.natCast_ediv _ _).symm
    have e5 := idx_scr (m := []) (ns := ns) (Nat.mod_lt k hp)
    have e6 : (if (60 : Int) < ((k / ns.length : Nat) : Int) then (60 : Int) else ((k / ns.length : Nat) : Int)) = (((if 60 < k / ns.length then 60 else k / ns.length : Nat)) : Int) := by
      split <;> split <;> omega
    have e7 : small62 (((if 60 < k / ns.length then 60 else k / ns.length : Nat)) : Int) = true := small_of (by split <;> omega)
    have e8 : ∀ i : Int, mulOk i 48271 = true := fun i => mulOk_r (by decide)
    have e9 : ∀ i : Int, mulOk i 69621 = true := fun i => mulOk_r (by decide)
    have e10 : ∀ i : Int, mulOk i 16807 = true := fun i => mulOk_r (by decide)
    simp only [d__law_draw, execSs, execS, evalE, evalEs, evalB, evalO, evalI, up_ok, Res.bind_ok, List.getElem?_cons_zero, List.getElem?_cons_succ, List.set_cons_zero, List.set_cons_succ, List.map_cons, List.map_nil, List.cons_append, List.nil_append, List.replicate_succ, List.replicate_zero, Nat.add_one_sub_one, Cn.d, if_true, wipe, bindT, bindTs, binD, addD, mulD, arD, mkL, mkT, Bool.false_eq_true, if_false, Nat.reduceSub, List.replicate, Option.bind_some, truthD, lstOf, Option.map_some, hne, Bool.not_true, Bool.not_false, bltD, seqOf, List.length_map, e1, e2, e3, e4, e5, cmpD, e8, e9, e10, show decide ((0:Int) < 2147483647) = true from rfl, show decide ((0:Int) < 2147483629) = true from rfl, show decide ((0:Int) < 100003) = true from rfl, show divOk 100003 = true from rfl]
    by_cases hb : (1000000000000000000 : Int) ≤ at0 ns (k % ns.length)
    · simp only [decide_eq_true hb, execSs, execS, evalE, evalEs, evalB, evalO, evalI, up_ok, Res.bind_ok, List.getElem?_cons_zero, List.getElem?_cons_succ, List.set_cons_zero, List.set_cons_succ, List.map_cons, List.map_nil, List.cons_append, List.nil_append, List.replicate_succ, List.replicate_zero, Nat.add_one_sub_one, Cn.d, if_true, wipe, bindT, bindTs, binD, addD, mulD, arD, mkL, mkT, Bool.false_eq_true, if_false, Nat.reduceSub, List.replicate, Option.bind_some, e6, e7, Int.toNat_natCast, bltD]
      obtain ⟨s', es, x, hs⟩ := forL_nx (c := (if 60 < k / ns.length then 60 else k / ns.length)) (F := fun k => .int (k : Int)) (f := fun x s => match bindT (.nm 4) x s.sl with | some sl => execSs pg (callN pg n) [MS.set 2 (.bin .fdiv false (.var 2) (.lit (.int 100003)))] ⟨sl, s.hp⟩ | none => .bad)
        (fun j s => ∃ x, s = ⟨[some (.scr (ns.map .int)), some (.int (k : Int)), some (.int (itn j (at0 ns (k % ns.length)))), some (.int ((k / ns.length : Nat) : Int)), x], []⟩) (s := ⟨[some (.scr (ns.map .int)), some (.int (k : Int)), some (.int (at0 ns (k % ns.length))), some (.int ((k / ns.length : Nat) : Int)), none], []⟩) ⟨none, rfl⟩ (by
          rintro j s hj ⟨x, rfl⟩
          simp only [execSs, execS, evalE, evalEs, evalB, evalO, evalI, up_ok, Res.bind_ok, List.getElem?_cons_zero, List.getElem?_cons_succ, List.set_cons_zero, List.set_cons_succ, List.map_cons, List.map_nil, List.cons_append, List.nil_append, List.replicate_succ, List.replicate_zero, Nat.add_one_sub_one, Cn.d, if_true, wipe, bindT, bindTs, binD, addD, mulD, arD, mkL, mkT, Bool.false_eq_true, if_false, Nat.reduceSub, List.replicate, Option.bind_some, show divOk 100003 = true from rfl]
          exact ⟨_, rfl, _, rfl⟩)
      subst hs
      simp only [bindT, execSs, execS, evalE, evalEs, evalB, evalO, evalI, up_ok, Res.bind_ok, List.getElem?_cons_zero, List.getElem?_cons_succ, List.set_cons_zero, List.set_cons_succ, List.map_cons, List.map_nil, List.cons_append, List.nil_append, List.replicate_succ, List.replicate_zero, Nat.add_one_sub_one, Cn.d, if_true, wipe, bindT, bindTs, binD, addD, mulD, arD, mkL, mkT, Bool.false_eq_true, if_false, Nat.reduceSub, List.replicate, Option.bind_some] at es
      simp only [es, execSs, execS, evalE, evalEs, evalB, evalO, evalI, up_ok, Res.bind_ok, List.getElem?_cons_zero, List.getElem?_cons_succ, List.set_cons_zero, List.set_cons_succ, List.map_cons, List.map_nil, List.cons_append, List.nil_append, List.replicate_succ, List.replicate_zero, Nat.add_one_sub_one, Cn.d, if_true, wipe, bindT, bindTs, binD, addD, mulD, arD, mkL, mkT, Bool.false_eq_true, if_false, Nat.reduceSub, List.replicate, Option.bind_some, show divOk 100003 = true from rfl, show decide ((0:Int) < 100003) = true from rfl]
      refine ⟨_, _, rfl, ?_⟩
      rw [rsv9 rfl]
      unfold drawZ
      rw [if_neg h0, if_pos hb]
    · simp only [decide_eq_false hb, execSs, execS, evalE, evalEs, evalB, evalO, evalI, up_ok, Res.bind_ok, List.getElem?_cons_zero, List.getElem?_cons_succ, List.set_cons_zero, List.set_cons_succ, List.map_cons, List.map_nil, List.cons_append, List.nil_append, List.replicate_succ, List.replicate_zero, Nat.add_one_sub_one, Cn.d, if_true, wipe, bindT, bindTs, binD, addD, mulD, arD, mkL, mkT, Bool.false_eq_true, if_false, Nat.reduceSub, List.replicate, Option.bind_some, e8, e9, e10, show decide ((0:Int) < 2147483647) = true from rfl, show decide ((0:Int) < 2147483629) = true from rfl]
      refine ⟨_, _, rfl, ?_⟩
      rw [rsv9 rfl]
      unfold drawZ
      rw [if_neg h0, if_neg hb]
end K45
namespace K45
open PySem R
/-! ### what layouts cost -/
theorem mulOk_sz {i j : Int} (h : i.natAbs ≤ 18446744073709551615) : mulOk i j = true := mulOk_l h
theorem rng4 : List.range 4 = [0, 1, 2, 3] := rfl
def bitZ (z : Int) (j : Nat) : Int := if j = 0 then z % 2 else if j = 1 then z / 2 % 2 else if j = 2 then z / 4 % 2 else z / 8 % 2
theorem bit_01 (z : Int) (j : Nat) : bitZ z j = 0 ∨ bitZ z j = 1 := by
  unfold bitZ
  split
  · omega
  · split
    · omega
    · split <;> omega
def szZ (ns : List Int) (k : Nat) : Int := 1 + drawZ ns (1 + k) % 30
def bt (ns : List Int) (i k : Nat) : Int := bitZ (drawZ ns (6 + i)) k
def cnt (ns : List Int) : Nat := (1 + drawZ ns 0 % 5).toNat
def stZ (ns : List Int) (i : Nat) : Int := szZ ns 0 * bt ns i 0 + (szZ ns 1 * bt ns i 1 + (szZ ns 2 * bt ns i 2 + (szZ ns 3 * bt ns i 3 + 0)))
def absI (x : Int) : Int := if x < 0 then -x else x
def wyZ (ns : List Int) (i j : Nat) : Int := szZ ns 0 * absI (bt ns i 0 - bt ns j 0) + (szZ ns 1 * absI (bt ns i 1 - bt ns j 1) + (szZ ns 2 * absI (bt ns i 2 - bt ns j 2) + (szZ ns 3 * absI (bt ns i 3 - bt ns j 3) + 0)))
def laying (ns : List Int) (i : Nat) : D := .lst [.int (bt ns i 0), .int (bt ns i 1), .int (bt ns i 2), .int (bt ns i 3)]
theorem cnt_eq (ns : List Int) : ((cnt ns : Nat) : Int) = 1 + drawZ ns 0 % 5 := by
  unfold cnt
  have := Int.emod_nonneg (drawZ ns 0) (by decide : (5 : Int) ≠ 0)
  omega
theorem cnt_pos (ns : List Int) : 0 < cnt ns := by
  have := cnt_eq ns
  have := Int.emod_nonneg (drawZ ns 0) (by decide : (5 : Int) ≠ 0)
  omega
theorem cnt_le (ns : List Int) : cnt ns ≤ 5 := by
  have := cnt_eq ns
  have := Int.emod_lt_of_pos (drawZ ns 0) (by decide : (0 : Int) < 5)
  omega
def stt (ns : List Int) : Nat := (drawZ ns 12 % (cnt ns : Int)).toNat
theorem stt_eq (ns : List Int) : ((stt ns : Nat) : Int) = drawZ ns 12 % (cnt ns : Int) := by
  unfold stt
  have := cnt_pos ns
  have := Int.emod_nonneg (drawZ ns 12) (show (cnt ns : Int) ≠ 0 by omega)
  omega
theorem stt_lt (ns : List Int) : stt ns < cnt ns := by
  have := stt_eq ns
  have := cnt_pos ns
  have := Int.emod_lt_of_pos (drawZ ns 12) (show (0 : Int) < (cnt ns : Int) by omega)
  omega
theorem sz_small (ns : List Int) (k : Nat) : (szZ ns k).natAbs ≤ 18446744073709551615 := by
  unfold szZ
  have := Int.emod_nonneg (drawZ ns (1 + k)) (by decide : (30 : Int) ≠ 0)
  have := Int.emod_lt_of_pos (drawZ ns (1 + k)) (by decide : (0 : Int) < 30)
  omega
def costD (ns : List Int) : D := .tup [.int (stt ns), vec (cnt ns) (stZ ns), tab (cnt ns) fun i => vec (cnt ns) (wyZ ns i)]
theorem ev_blt1 {p : Pg} {c : Calls} {b : Bt} {o : Bool} {e : ME} {sl : List (Option D)} {h h1 h2 : Mm} {d x : D} (a : evalE p c e sl h = .ok d h1) (q : bltD b o [d] h1 = .ok x h2) : evalE p c (.blt b o [e]) sl h = .ok x h2 := by simp only [evalE, evalEs, a, Res.bind_ok, q]
theorem ev_call1 {p : Pg} {c : Calls} {f : Nat} {e : ME} {sl : List (Option D)} {h h1 h2 : Mm} {d x : D} (a : evalE p c e sl h = .ok d h1) (q : c f [d] h1 = .ok x h2) : evalE p c (.call f [e]) sl h = .ok x h2 := by simp only [evalE, evalEs, a, Res.bind_ok, q]
theorem ev_add {p : Pg} {c : Calls} {o : Bool} {a b : ME} {sl : List (Option D)} {h h1 h2 : Mm} {x y : Int} (ea : evalE p c a sl h = .ok (.int x) h1) (eb : evalE p c b sl h1 = .ok (.int y) h2) : evalE p c (.bin .add o a b) sl h = .ok (.int (x + y)) h2 := by
  simp only [evalE, ea, eb, Res.bind_ok, binD, addD]
theorem ev_mul {p : Pg} {c : Calls} {o : Bool} {a b : ME} {sl : List (Option D)} {h h1 h2 : Mm} {x y : Int} (ea : evalE p c a sl h = .ok (.int x) h1) (eb : evalE p c b sl h1 = .ok (.int y) h2) (q : mulOk x y = true) : evalE p c (.bin .mul o a b) sl h = .ok (.int (x * y)) h2 := by
  simp only [evalE, ea, eb, Res.bind_ok, binD, mulD, q, if_true]
theorem ints4 (a b c d : Int) : intsOf [.int a, .int b, .int c, .int d] = some [a, b, c, d] := rfl
theorem sum4 {m : Mm} {o : Bool} {f : Nat → Int} : bltD .sum_ o [vec 4 f] m = .ok (.int (f 0 + (f 1 + (f 2 + (f 3 + 0))))) m := rfl
theorem lay_tab (ns : List Int) (i : Nat) : laying ns i = vec 4 (bt ns i) := rfl
theorem nr_cost (ns : List Int) : nr (costD ns) = true := by
  unfold costD
  simp only [nr, nrs, nr_vec, nr_mat, Bool.and_self]
theorem costs_ok {ns : List Int} (hl : ns.length ≤ 63) (n : Nat) (h : Mm) : callN pg (n + 2) 6 [.scr (ns.map .int)] h = .ok (costD ns) h := by
  refine call_run (fd := d__law_costs) rfl rfl rfl (by simp only [nrs, nr, nrs_ints, Bool.and_self]) ?_
  have hc := cnt_pos ns
  have h5 := cnt_le ns
  have d0 : ∀ h, callN pg (n + 1) 5 [.scr (ns.map .int), .int 0] h = .ok (.int (drawZ ns 0)) h := fun h => draw_ok hl 0 n h
  have d12 : ∀ h, callN pg (n + 1) 5 [.scr (ns.map .int), .int 12] h = .ok (.int (drawZ ns 12)) h := fun h => draw_ok hl 12 n h
  have d1 : ∀ (k : Nat) h, callN pg (n + 1) 5 [.scr (ns.map .int), .int (1 + (k : Int))] h = .ok (.int (drawZ ns (1 + k))) h := fun k h => by
    have := draw_ok hl (1 + k) n h
    rwa [Int.natCast_add] at this
  have d6 : ∀ (k : Nat) h, callN pg (n + 1) 5 [.scr (ns.map .int), .int (6 + (k : Int))] h = .ok (.int (drawZ ns (6 + k))) h := fun k h => by
    have := draw_ok hl (6 + k) n h
    rwa [Int.natCast_add] at this
  have q0 : decide ((0:Int) < 5) = true := rfl
  have q1 : decide ((0:Int) < 30) = true := rfl
  have q2 : decide ((0:Int) < 2) = true := rfl
  have p2 : divOk 2 = true := rfl
  have p4 : divOk 4 = true := rfl
  have p8 : divOk 8 = true := rfl
  have z4 : szOk 4 = true := rfl
  have z0 : szOk 0 = true := rfl
  have qc : decide ((0:Int) < (cnt ns : Int)) = true := decide_eq_true (by omega)
  have F0 : ∀ k, nr (laying ns k) = true := fun k => by rw [lay_tab]; exact nr_vec
  have r4 : ∀ (c : Calls) sl h, evalI pg c (.rng1 (.lit (.int 4))) sl h = .ok ((List.range 4).map fun (k : Nat) => .int (k : Int)) h := fun c sl h => it_rng (n := 4) (by simp only [evalE, Cn.d]; rfl) (by decide)
  show Wp pg (callN pg (n + 1)) _ ⟨[some (.scr (ns.map .int)), none, none, none, none, none, none, none, none, none, none, none, none, none], []⟩ _
  refine wp_set (d := .int (cnt ns)) (h1 := []) (by simp only [execSs, execS, evalE, evalEs, evalB, evalO, evalI, up_ok, Res.bind_ok, List.getElem?_cons_zero, List.getElem?_cons_succ, List.set_cons_zero, List.set_cons_succ, List.map_cons, List.map_nil, List.cons_append, List.nil_append, List.replicate_succ, List.replicate_zero, Nat.add_one_sub_one, Cn.d, if_true, wipe, bindT, bindTs, binD, addD, mulD, arD, mkL, mkT, Bool.false_eq_true, if_false, Nat.reduceSub, List.replicate, Option.bind_some, d0, q0, ← cnt_eq]) ?_
  refine wp_set (d := vec 4 (szZ ns)) (h1 := []) (lc_tab (r4 _ _ _) (by decide) fun k hk => ⟨_, rfl, by simp only [execSs, execS, evalE, evalEs, evalB, evalO, evalI, up_ok, Res.bind_ok, List.getElem?_cons_zero, List.getElem?_cons_succ, List.set_cons_zero, List.set_cons_succ, List.map_cons, List.map_nil, List.cons_append, List.nil_append, List.replicate_succ, List.replicate_zero, Nat.add_one_sub_one, Cn.d, if_true, wipe, bindT, bindTs, binD, addD, mulD, arD, mkL, mkT, Bool.false_eq_true, if_false, Nat.reduceSub, List.replicate, Option.bind_some, d1, q1, szZ]⟩) ?_
  refine wp_set (d := .ref 0) (h1 := [.lst []]) (by simp only [execSs, execS, evalE, evalEs, evalB, evalO, evalI, up_ok, Res.bind_ok, List.getElem?_cons_zero, List.getElem?_cons_succ, List.set_cons_zero, List.set_cons_succ, List.map_cons, List.map_nil, List.cons_append, List.nil_append, List.replicate_succ, List.replicate_zero, Nat.add_one_sub_one, Cn.d, if_true, wipe, bindT, bindTs, binD, addD, mulD, arD, mkL, mkT, Bool.false_eq_true, if_false, Nat.reduceSub, List.replicate, Option.bind_some, z0, List.length_nil]) ?_
  simp only [execSs, execS, evalE, evalEs, evalB, evalO, evalI, up_ok, Res.bind_ok, List.getElem?_cons_zero, List.getElem?_cons_succ, List.set_cons_zero, List.set_cons_succ, List.map_cons, List.map_nil, List.cons_append, List.nil_append, List.replicate_succ, List.replicate_zero, Nat.add_one_sub_one, Cn.d, if_true, wipe, bindT, bindTs, binD, addD, mulD, arD, mkL, mkT, Bool.false_eq_true, if_false, Nat.reduceSub, List.replicate, Option.bind_some]
  refine wp_for (n := cnt ns) (F := fun k => .int (k : Int)) (h1 := [.lst []]) (fun j s => ∃ x4 x8, s = ⟨[some (.scr (ns.map .int)), some (.int (cnt ns : Int)), some (vec 4 (szZ ns)), some (.ref 0), x4, none, none, none, x8, none, none, none, none, none], [.lst ((List.range j).map (laying ns))]⟩)
    (it_rng (by simp only [execSs, execS, evalE, evalEs, evalB, evalO, evalI, up_ok, Res.bind_ok, List.getElem?_cons_zero, List.getElem?_cons_succ, List.set_cons_zero, List.set_cons_succ, List.map_cons, List.map_nil, List.cons_append, List.nil_append, List.replicate_succ, List.replicate_zero, Nat.add_one_sub_one, Cn.d, if_true, wipe, bindT, bindTs, binD, addD, mulD, arD, mkL, mkT, Bool.false_eq_true, if_false, Nat.reduceSub, List.replicate, Option.bind_some] <;> rfl) (by omega)) ⟨none, none, rfl⟩ ?_ ?_
  · rintro j s hj ⟨x4, x8, rfl⟩
    refine ⟨_, rfl, ?_⟩
    refine wp_set (d := .int (drawZ ns (6 + j))) (h1 := [.lst ((List.range j).map (laying ns))]) (by simp only [execSs, execS, evalE, evalEs, evalB, evalO, evalI, up_ok, Res.bind_ok, List.getElem?_cons_zero, List.getElem?_cons_succ, List.set_cons_zero, List.set_cons_succ, List.map_cons, List.map_nil, List.cons_append, List.nil_append, List.replicate_succ, List.replicate_zero, Nat.add_one_sub_one, Cn.d, if_true, wipe, bindT, bindTs, binD, addD, mulD, arD, mkL, mkT, Bool.false_eq_true, if_false, Nat.reduceSub, List.replicate, Option.bind_some, d6]) ?_
    refine wp_ex (ev_app (n := 0) (m := j) (F := laying ns) (h1 := [.lst ((List.range j).map (laying ns))]) (h2 := [.lst ((List.range j).map (laying ns))]) (by simp only [execSs, execS, evalE, evalEs, evalB, evalO, evalI, up_ok, Res.bind_ok, List.getElem?_cons_zero, List.getElem?_cons_succ, List.set_cons_zero, List.set_cons_succ, List.map_cons, List.map_nil, List.cons_append, List.nil_append, List.replicate_succ, List.replicate_zero, Nat.add_one_sub_one, Cn.d, if_true, wipe, bindT, bindTs, binD, addD, mulD, arD, mkL, mkT, Bool.false_eq_true, if_false, Nat.reduceSub, List.replicate, Option.bind_some] <;> rfl) rfl (by simp only [execSs, execS, evalE, evalEs, evalB, evalO, evalI, up_ok, Res.bind_ok, List.getElem?_cons_zero, List.getElem?_cons_succ, List.set_cons_zero, List.set_cons_succ, List.map_cons, List.map_nil, List.cons_append, List.nil_append, List.replicate_succ, List.replicate_zero, Nat.add_one_sub_one, Cn.d, if_true, wipe, bindT, bindTs, binD, addD, mulD, arD, mkL, mkT, Bool.false_eq_true, if_false, Nat.reduceSub, List.replicate, Option.bind_some, q2, p2, p4, p8, List.length_cons, List.length_nil, show szOk (0 + 1 + 1 + 1 + 1) = true from rfl]; rfl) rfl (by omega)) ?_
    exact wp_nil ⟨.inl rfl, _, _, rfl⟩
  rintro s ⟨x4, x8, rfl⟩
  refine wp_frzv rfl (frz_ref rfl (nrs_map fun k _ => F0 k)) ?_
  simp only [execSs, execS, evalE, evalEs, evalB, evalO, evalI, up_ok, Res.bind_ok, List.getElem?_cons_zero, List.getElem?_cons_succ, List.set_cons_zero, List.set_cons_succ, List.map_cons, List.map_nil, List.cons_append, List.nil_append, List.replicate_succ, List.replicate_zero, Nat.add_one_sub_one, Cn.d, if_true, wipe, bindT, bindTs, binD, addD, mulD, arD, mkL, mkT, Bool.false_eq_true, if_false, Nat.reduceSub, List.replicate, Option.bind_some]
  have eS : ∀ (m : Mm) (i : Nat) (a0 a1 a3 a4 a5 a6 a7 a8 a9 a10 : Option D) (c : Calls), evalE pg c (.blt .sum_ false [(.lc false (.bin .mul false (.var 12) (.var 13)) (.tp [(.nm 12), (.nm 13)]) (.zip (.var 2) (.var 11)) none [12, 13])]) [a0, a1, some (vec 4 (szZ ns)), a3, a4, a5, a6, a7, a8, a9, a10, some (laying ns i), none, none] m = .ok (.int (stZ ns i)) m := by
    intro m i a0 a1 a3 a4 a5 a6 a7 a8 a9 a10 c
    refine ev_blt1 (d := vec 4 fun k => szZ ns k * bt ns i k) (lc_tab (n := 4) (it_zip (F := fun k => .int (szZ ns k)) (G := fun k => .int (bt ns i k)) (by simp only [execSs, execS, evalE, evalEs, evalB, evalO, evalI, up_ok, Res.bind_ok, List.getElem?_cons_zero, List.getElem?_cons_succ, List.set_cons_zero, List.set_cons_succ, List.map_cons, List.map_nil, List.cons_append, List.nil_append, List.replicate_succ, List.replicate_zero, Nat.add_one_sub_one, Cn.d, if_true, wipe, bindT, bindTs, binD, addD, mulD, arD, mkL, mkT, Bool.false_eq_true, if_false, Nat.reduceSub, List.replicate, Option.bind_some] <;> rfl) (by simp only [execSs, execS, evalE, evalEs, evalB, evalO, evalI, up_ok, Res.bind_ok, List.getElem?_cons_zero, List.getElem?_cons_succ, List.set_cons_zero, List.set_cons_succ, List.map_cons, List.map_nil, List.cons_append, List.nil_append, List.replicate_succ, List.replicate_zero, Nat.add_one_sub_one, Cn.d, if_true, wipe, bindT, bindTs, binD, addD, mulD, arD, mkL, mkT, Bool.false_eq_true, if_false, Nat.reduceSub, List.replicate, Option.bind_some, lay_tab] <;> rfl)) (by decide) fun k hk => ⟨_, rfl, by
      simp only [execSs, execS, evalE, evalEs, evalB, evalO, evalI, up_ok, Res.bind_ok, List.getElem?_cons_zero, List.getElem?_cons_succ, List.set_cons_zero, List.set_cons_succ, List.map_cons, List.map_nil, List.cons_append, List.nil_append, List.replicate_succ, List.replicate_zero, Nat.add_one_sub_one, Cn.d, if_true, wipe, bindT, bindTs, binD, addD, mulD, arD, mkL, mkT, Bool.false_eq_true, if_false, Nat.reduceSub, List.replicate, Option.bind_some, fun k j => mulOk_sz (j := j) (sz_small ns k)]⟩) sum4
  refine wp_set (d := vec (cnt ns) (stZ ns)) (h1 := [.dead]) (lc_tab (F := laying ns) (n := cnt ns) (h1 := [.dead]) (it_tab (by simp only [execSs, execS, evalE, evalEs, evalB, evalO, evalI, up_ok, Res.bind_ok, List.getElem?_cons_zero, List.getElem?_cons_succ, List.set_cons_zero, List.set_cons_succ, List.map_cons, List.map_nil, List.cons_append, List.nil_append, List.replicate_succ, List.replicate_zero, Nat.add_one_sub_one, Cn.d, if_true, wipe, bindT, bindTs, binD, addD, mulD, arD, mkL, mkT, Bool.false_eq_true, if_false, Nat.reduceSub, List.replicate, Option.bind_some] <;> rfl)) (by omega) fun i hi => ⟨_, rfl, eS _ i _ _ _ _ _ _ _ _ _ _ _⟩) ?_
  refine wp_set (d := .ref 1) (h1 := [.dead, .lst []]) (by simp only [execSs, execS, evalE, evalEs, evalB, evalO, evalI, up_ok, Res.bind_ok, List.getElem?_cons_zero, List.getElem?_cons_succ, List.set_cons_zero, List.set_cons_succ, List.map_cons, List.map_nil, List.cons_append, List.nil_append, List.replicate_succ, List.replicate_zero, Nat.add_one_sub_one, Cn.d, if_true, wipe, bindT, bindTs, binD, addD, mulD, arD, mkL, mkT, Bool.false_eq_true, if_false, Nat.reduceSub, List.replicate, Option.bind_some, z0, List.length_nil, List.length_cons]) ?_
  simp only [execSs, execS, evalE, evalEs, evalB, evalO, evalI, up_ok, Res.bind_ok, List.getElem?_cons_zero, List.getElem?_cons_succ, List.set_cons_zero, List.set_cons_succ, List.map_cons, List.map_nil, List.cons_append, List.nil_append, List.replicate_succ, List.replicate_zero, Nat.add_one_sub_one, Cn.d, if_true, wipe, bindT, bindTs, binD, addD, mulD, arD, mkL, mkT, Bool.false_eq_true, if_false, Nat.reduceSub, List.replicate, Option.bind_some]
  refine wp_for (n := cnt ns) (F := laying ns) (h1 := [.dead, .lst []]) (fun j s => ∃ x4 x7 x9 x10 tl, s = ⟨[some (.scr (ns.map .int)), some (.int (cnt ns : Int)), some (vec 4 (szZ ns)), some (tab (cnt ns) (laying ns)), x4, some (vec (cnt ns) (stZ ns)), some (.ref 1), x7, x8, x9, x10, none, none, none], .dead :: .lst ((List.range j).map fun i => vec (cnt ns) (wyZ ns i)) :: tl⟩)
    (it_tab (by simp only [execSs, execS, evalE, evalEs, evalB, evalO, evalI, up_ok, Res.bind_ok, List.getElem?_cons_zero, List.getElem?_cons_succ, List.set_cons_zero, List.set_cons_succ, List.map_cons, List.map_nil, List.cons_append, List.nil_append, List.replicate_succ, List.replicate_zero, Nat.add_one_sub_one, Cn.d, if_true, wipe, bindT, bindTs, binD, addD, mulD, arD, mkL, mkT, Bool.false_eq_true, if_false, Nat.reduceSub, List.replicate, Option.bind_some] <;> rfl)) ⟨x4, none, none, none, [], rfl⟩ ?_ ?_
  · rintro i s hi ⟨x4, x7, x9, x10, tl, rfl⟩
    refine ⟨_, rfl, ?_⟩
    refine wp_set (d := .ref (tl.length + 1 + 1)) (h1 := .dead :: .lst ((List.range i).map fun i => vec (cnt ns) (wyZ ns i)) :: (tl ++ [.lst []])) (by simp only [execSs, execS, evalE, evalEs, evalB, evalO, evalI, up_ok, Res.bind_ok, List.getElem?_cons_zero, List.getElem?_cons_succ, List.set_cons_zero, List.set_cons_succ, List.map_cons, List.map_nil, List.cons_append, List.nil_append, List.replicate_succ, List.replicate_zero, Nat.add_one_sub_one, Cn.d, if_true, wipe, bindT, bindTs, binD, addD, mulD, arD, mkL, mkT, Bool.false_eq_true, if_false, Nat.reduceSub, List.replicate, Option.bind_some, z0, List.length_nil, List.length_cons]) ?_
    simp only [execSs, execS, evalE, evalEs, evalB, evalO, evalI, up_ok, Res.bind_ok, List.getElem?_cons_zero, List.getElem?_cons_succ, List.set_cons_zero, List.set_cons_succ, List.map_cons, List.map_nil, List.cons_append, List.nil_append, List.replicate_succ, List.replicate_zero, Nat.add_one_sub_one, Cn.d, if_true, wipe, bindT, bindTs, binD, addD, mulD, arD, mkL, mkT, Bool.false_eq_true, if_false, Nat.reduceSub, List.replicate, Option.bind_some]
    refine wp_for (n := cnt ns) (F := laying ns) (h1 := .dead :: .lst ((List.range i).map fun i => vec (cnt ns) (wyZ ns i)) :: (tl ++ [.lst []])) (fun j s => ∃ x10, s = ⟨[some (.scr (ns.map .int)), some (.int (cnt ns : Int)), some (vec 4 (szZ ns)), some (tab (cnt ns) (laying ns)), x4, some (vec (cnt ns) (stZ ns)), some (.ref 1), some (laying ns i), x8, some (.ref (tl.length + 1 + 1)), x10, none, none, none], .dead :: .lst ((List.range i).map fun i => vec (cnt ns) (wyZ ns i)) :: (tl ++ [.lst ((List.range j).map fun k => .int (wyZ ns i k))])⟩)
      (it_tab (by simp only [execSs, execS, evalE, evalEs, evalB, evalO, evalI, up_ok, Res.bind_ok, List.getElem?_cons_zero, List.getElem?_cons_succ, List.set_cons_zero, List.set_cons_succ, List.map_cons, List.map_nil, List.cons_append, List.nil_append, List.replicate_succ, List.replicate_zero, Nat.add_one_sub_one, Cn.d, if_true, wipe, bindT, bindTs, binD, addD, mulD, arD, mkL, mkT, Bool.false_eq_true, if_false, Nat.reduceSub, List.replicate, Option.bind_some] <;> rfl)) ⟨x10, rfl⟩ ?_ ?_
    · rintro j s hj ⟨x10, rfl⟩
      refine ⟨_, rfl, ?_⟩
      have g0 : ∀ m, (O.dead :: O.lst ((List.range i).map fun i => vec (cnt ns) (wyZ ns i)) :: (tl ++ [m]))[tl.length + 1 + 1]? = some m := fun m => by simp only [List.getElem?_cons_succ, get_last]
      refine wp_ex (ev_app (n := tl.length + 1 + 1) (m := j) (F := fun k => .int (wyZ ns i k)) (by simp only [execSs, execS, evalE, evalEs, evalB, evalO, evalI, up_ok, Res.bind_ok, List.getElem?_cons_zero, List.getElem?_cons_succ, List.set_cons_zero, List.set_cons_succ, List.map_cons, List.map_nil, List.cons_append, List.nil_append, List.replicate_succ, List.replicate_zero, Nat.add_one_sub_one, Cn.d, if_true, wipe, bindT, bindTs, binD, addD, mulD, arD, mkL, mkT, Bool.false_eq_true, if_false, Nat.reduceSub, List.replicate, Option.bind_some] <;> rfl) (g0 _) (ev_blt1 (d := vec 4 fun k => szZ ns k * absI (bt ns i k - bt ns j k)) (lc_tab (r4 _ _ _) (by decide) fun k hk => ⟨_, rfl, by
        simp only [execSs, execS, evalE, evalEs, evalB, evalO, evalI, up_ok, Res.bind_ok, List.getElem?_cons_zero, List.getElem?_cons_succ, List.set_cons_zero, List.set_cons_succ, List.map_cons, List.map_nil, List.cons_append, List.nil_append, List.replicate_succ, List.replicate_zero, Nat.add_one_sub_one, Cn.d, if_true, wipe, bindT, bindTs, binD, addD, mulD, arD, mkL, mkT, Bool.false_eq_true, if_false, Nat.reduceSub, List.replicate, Option.bind_some, lay_tab, idx_tab hk, bltD, absI, fun k j => mulOk_sz (j := j) (sz_small ns k)]⟩) sum4) (g0 _) (by omega)) ?_
      simp only [List.set_cons_succ, set_last]
      exact wp_nil ⟨.inl rfl, _, rfl⟩
    rintro s ⟨x10, rfl⟩
    refine wp_frzv rfl (frz_ref (xs := (List.range (cnt ns)).map fun k => .int (wyZ ns i k)) (by simp only [List.getElem?_cons_succ, get_last]) (nrs_map fun k _ => by simp only [nr])) ?_
    simp only [execSs, execS, evalE, evalEs, evalB, evalO, evalI, up_ok, Res.bind_ok, List.getElem?_cons_zero, List.getElem?_cons_succ, List.set_cons_zero, List.set_cons_succ, List.map_cons, List.map_nil, List.cons_append, List.nil_append, List.replicate_succ, List.replicate_zero, Nat.add_one_sub_one, Cn.d, if_true, wipe, bindT, bindTs, binD, addD, mulD, arD, mkL, mkT, Bool.false_eq_true, if_false, Nat.reduceSub, List.replicate, Option.bind_some, set_last]
    refine wp_ex (ev_app (n := 1) (m := i) (F := fun i => vec (cnt ns) (wyZ ns i)) (by simp only [execSs, execS, evalE, evalEs, evalB, evalO, evalI, up_ok, Res.bind_ok, List.getElem?_cons_zero, List.getElem?_cons_succ, List.set_cons_zero, List.set_cons_succ, List.map_cons, List.map_nil, List.cons_append, List.nil_append, List.replicate_succ, List.replicate_zero, Nat.add_one_sub_one, Cn.d, if_true, wipe, bindT, bindTs, binD, addD, mulD, arD, mkL, mkT, Bool.false_eq_true, if_false, Nat.reduceSub, List.replicate, Option.bind_some] <;> rfl) rfl (by simp only [execSs, execS, evalE, evalEs, evalB, evalO, evalI, up_ok, Res.bind_ok, List.getElem?_cons_zero, List.getElem?_cons_succ, List.set_cons_zero, List.set_cons_succ, List.map_cons, List.map_nil, List.cons_append, List.nil_append, List.replicate_succ, List.replicate_zero, Nat.add_one_sub_one, Cn.d, if_true, wipe, bindT, bindTs, binD, addD, mulD, arD, mkL, mkT, Bool.false_eq_true, if_false, Nat.reduceSub, List.replicate, Option.bind_some] <;> rfl) rfl (by omega)) ?_
    exact wp_nil ⟨.inl rfl, _, _, _, _, _, rfl⟩
  rintro s ⟨x4, x7, x9, x10, tl, rfl⟩
  refine wp_frzv rfl (frz_ref (xs := (List.range (cnt ns)).map fun i => vec (cnt ns) (wyZ ns i)) rfl (nrs_map fun k _ => nr_vec)) ?_
  simp only [execSs, execS, evalE, evalEs, evalB, evalO, evalI, up_ok, Res.bind_ok, List.getElem?_cons_zero, List.getElem?_cons_succ, List.set_cons_zero, List.set_cons_succ, List.map_cons, List.map_nil, List.cons_append, List.nil_append, List.replicate_succ, List.replicate_zero, Nat.add_one_sub_one, Cn.d, if_true, wipe, bindT, bindTs, binD, addD, mulD, arD, mkL, mkT, Bool.false_eq_true, if_false, Nat.reduceSub, List.replicate, Option.bind_some]
  refine wp_ret (by simp only [execSs, execS, evalE, evalEs, evalB, evalO, evalI, up_ok, Res.bind_ok, List.getElem?_cons_zero, List.getElem?_cons_succ, List.set_cons_zero, List.set_cons_succ, List.map_cons, List.map_nil, List.cons_append, List.nil_append, List.replicate_succ, List.replicate_zero, Nat.add_one_sub_one, Cn.d, if_true, wipe, bindT, bindTs, binD, addD, mulD, arD, mkL, mkT, Bool.false_eq_true, if_false, Nat.reduceSub, List.replicate, Option.bind_some, d12, qc, ← stt_eq, List.length_cons, List.length_nil, show szOk (0 + 1 + 1 + 1) = true from rfl] <;> rfl) ⟨_, rfl, rsv9 (nr_cost ns)⟩
end K45
namespace K45
open PySem R
def tkZ (z : Int) (k : Nat) : Int := z / (1 + 7 * (k : Int) * (k : Int)) % (if z % 2 = 0 then 4 else 40)
theorem task_ok (z : Int) {c : Nat} (hc : c ≤ 5) (n : Nat) (h : Mm) : callN pg (n + 1) 7 [.int z, .int (c : Int)] h = .ok (vec c (tkZ z)) h := by
  refine call_run (fd := d__law_task) rfl rfl rfl (by simp only [nrs, nr, Bool.and_self]) ?_
  show Wp pg (callN pg n) _ ⟨[some (.int z), some (.int (c : Int)), none], []⟩ _
  refine wp_ret (lc_tab (G := fun k => .int (tkZ z k)) (it_rng (n := c) (by simp only [execSs, execS, evalE, evalEs, evalB, evalO, evalI, up_ok, Res.bind_ok, List.getElem?_cons_zero, List.getElem?_cons_succ, List.set_cons_zero, List.set_cons_succ, List.map_cons, List.map_nil, List.cons_append, List.nil_append, List.replicate_succ, List.replicate_zero, Nat.add_one_sub_one, Cn.d, if_true, wipe, bindT, bindTs, binD, addD, mulD, arD, mkL, mkT, Bool.false_eq_true, if_false, Nat.reduceSub, List.replicate, Option.bind_some] <;> rfl) (by omega)) (by omega) fun k hk => ⟨_, rfl, ?_⟩) ⟨_, rfl, rsv9 nr_vec⟩
  have k5 : k < 5 := by omega
  have m1 : mulOk 7 (k : Int) = true := mulOk_l (by decide)
  have m2 : mulOk (7 * (k : Int)) (k : Int) = true := mulOk_r (by omega)
  have dv : divOk (1 + 7 * (k : Int) * (k : Int)) = true := by
    have : k = 0 ∨ k = 1 ∨ k = 2 ∨ k = 3 ∨ k = 4 := by omega
    rcases this with rfl | rfl | rfl | rfl | rfl <;> rfl
  have q2 : decide ((0:Int) < 2) = true := rfl
  have z2 : z % 2 = 0 ∨ z % 2 = 1 := by omega
  have s2 : szOk (0 + 1 + 1) = true := rfl
  rcases z2 with z2 | z2
  · have e : idxD ([] : Mm) (.lst [.int 4, .int 40]) (.int 0) = some (.int 4) := rfl
    simp only [execSs, execS, evalE, evalEs, evalB, evalO, evalI, up_ok, Res.bind_ok, List.getElem?_cons_zero, List.getElem?_cons_succ, List.set_cons_zero, List.set_cons_succ, List.map_cons, List.map_nil, List.cons_append, List.nil_append, List.replicate_succ, List.replicate_zero, Nat.add_one_sub_one, Cn.d, if_true, wipe, bindT, bindTs, binD, addD, mulD, arD, mkL, mkT, Bool.false_eq_true, if_false, Nat.reduceSub, List.replicate, Option.bind_some, m1, m2, dv, q2, z2, e, s2, List.length_cons, List.length_nil, tkZ, show decide ((0:Int) < 4) = true from rfl]
  · have e : idxD ([] : Mm) (.lst [.int 4, .int 40]) (.int 1) = some (.int 40) := rfl
    simp only [execSs, execS, evalE, evalEs, evalB, evalO, evalI, up_ok, Res.bind_ok, List.getElem?_cons_zero, List.getElem?_cons_succ, List.set_cons_zero, List.set_cons_succ, List.map_cons, List.map_nil, List.cons_append, List.nil_append, List.replicate_succ, List.replicate_zero, Nat.add_one_sub_one, Cn.d, if_true, wipe, bindT, bindTs, binD, addD, mulD, arD, mkL, mkT, Bool.false_eq_true, if_false, Nat.reduceSub, List.replicate, Option.bind_some, m1, m2, dv, q2, z2, e, s2, List.length_cons, List.length_nil, tkZ, show decide ((0:Int) < 40) = true from rfl, show ¬ ((1 : Int) = 0) from by decide]
def goZ (ns : List Int) (x y : Nat) : Int := (wyZ ns x y + stZ ns y - stZ ns x) / 2
theorem ix2 {m : Mm} {ns : List Int} : idxD m (costD ns) (.int 2) = some (tab (cnt ns) fun i => vec (cnt ns) (wyZ ns i)) := rfl
theorem ix1 {m : Mm} {ns : List Int} : idxD m (costD ns) (.int 1) = some (vec (cnt ns) (stZ ns)) := rfl
theorem ix0 {m : Mm} {ns : List Int} : idxD m (costD ns) (.int 0) = some (.int (stt ns)) := rfl
theorem lgo_ok {ns : List Int} {x y : Nat} (hx : x < cnt ns) (hy : y < cnt ns) (n : Nat) (h : Mm) : callN pg (n + 1) 8 [costD ns, .int (x : Int), .int (y : Int)] h = .ok (.int (goZ ns x y)) h := by
  refine call_run (fd := d__law_going) rfl rfl rfl (by simp only [nrs, nr, nr_cost, Bool.and_self]) ?_
  show Wp pg (callN pg n) _ ⟨[some (costD ns), some (.int (x : Int)), some (.int (y : Int))], []⟩ _
  exact wp_ret (by simp only [execSs, execS, evalE, evalEs, evalB, evalO, evalI, up_ok, Res.bind_ok, List.getElem?_cons_zero, List.getElem?_cons_succ, List.set_cons_zero, List.set_cons_succ, List.map_cons, List.map_nil, List.cons_append, List.nil_append, List.replicate_succ, List.replicate_zero, Nat.add_one_sub_one, Cn.d, if_true, wipe, bindT, bindTs, binD, addD, mulD, arD, mkL, mkT, Bool.false_eq_true, if_false, Nat.reduceSub, List.replicate, Option.bind_some, ix2, ix1, idx_tab hx, idx_tab hy, show divOk 2 = true from rfl] <;> rfl) ⟨_, rfl, rsv9 rfl⟩
/-! ### the policy -/
def polO (ns : List Int) (now spent : Int) : O := .ins 0 [(0, .int (stt ns)), (1, vec (cnt ns) (stZ ns)), (2, tab (cnt ns) fun i => vec (cnt ns) (wyZ ns i)), (3, .int now), (4, .int spent), (5, .ref 1), (6, .ref 2)]
def polD (ns : List Int) (now spent : Int) (Ts Ws : List D) : D := .ins 0 [(0, .int (stt ns)), (1, vec (cnt ns) (stZ ns)), (2, tab (cnt ns) fun i => vec (cnt ns) (wyZ ns i)), (3, .int now), (4, .int spent), (5, .lst Ts), (6, .lst Ws)]
abbrev pmem (ns : List Int) (now spent : Int) (Ts Ws : List D) (tl : Mm) : Mm := polO ns now spent :: .lst Ts :: .lst Ws :: tl
theorem rsv_ref {h : Mm} {n k : Nat} {xs : List D} (e : h[n]? = some (.lst xs)) (q : nrs xs = true) : rsv h (k + 2) (.ref n) = some (.lst xs) := by
  unfold rsv
  simp only [nr, Bool.false_eq_true, if_false, e, mapM_rsv q, Option.map_some]
theorem rsv_pol {ns : List Int} {now spent : Int} {Ts Ws : List D} {tl : Mm} (h1 : nrs Ts = true) (h2 : nrs Ws = true) : rsv (pmem ns now spent Ts Ws tl) 9 (.ref 0) = some (polD ns now spent Ts Ws) := by
  unfold rsv
  have e1 : rsv (pmem ns now spent Ts Ws tl) 8 (.ref 1) = some (.lst Ts) := rsv_ref rfl h1
  have e2 : rsv (pmem ns now spent Ts Ws tl) 8 (.ref 2) = some (.lst Ws) := rsv_ref rfl h2
  have e3 : ∀ z : Int, rsv (pmem ns now spent Ts Ws tl) 8 (.int z) = some (.int z) := fun z => rsv_nr (by simp only [nr])
  have e4 : rsv (pmem ns now spent Ts Ws tl) 8 (vec (cnt ns) (stZ ns)) = some (vec (cnt ns) (stZ ns)) := rsv_nr nr_vec
  have e5 : rsv (pmem ns now spent Ts Ws tl) 8 (tab (cnt ns) fun i => vec (cnt ns) (wyZ ns i)) = some (tab (cnt ns) fun i => vec (cnt ns) (wyZ ns i)) := rsv_nr nr_mat
  have e0 : (pmem ns now spent Ts Ws tl)[0]? = some (polO ns now spent) := rfl
  simp only [nr, Bool.false_eq_true, if_false, e0, polO, List.mapM_cons, List.mapM_nil, e1, e2, e3, e4, e5, Option.map_some, Option.pure_def, Option.bind_eq_bind, Option.bind_some]
  rfl
theorem goi_ok {ns : List Int} {now spent : Int} {Ts Ws : List D} {tl : Mm} (h1 : nrs Ts = true) (h2 : nrs Ws = true) {x y : Nat} (hx : x < cnt ns) (hy : y < cnt ns) (n : Nat) :
    callN pg (n + 1) 3 [.ref 0, .int (x : Int), .int (y : Int)] (pmem ns now spent Ts Ws tl) = .ok (.int (goZ ns x y)) (pmem ns now spent Ts Ws tl) := by
  refine call_runO (fd := d_Policy_going) (as' := [polD ns now spent Ts Ws, .int (x : Int), .int (y : Int)]) rfl rfl rfl (by simp only [nrs, nr, Bool.false_and]) (by
    simp only [List.mapM_cons, List.mapM_nil, rsv_pol h1 h2, rsv9 (show nr (.int (x : Int)) = true by simp only [nr]), rsv9 (show nr (.int (y : Int)) = true by simp only [nr]), Option.pure_def, Option.bind_eq_bind, Option.bind_some]) ?_
  show Wp pg (callN pg n) _ ⟨[some (polD ns now spent Ts Ws), some (.int (x : Int)), some (.int (y : Int))], []⟩ _
  have f1 : fldD ([] : Mm) 1 (polD ns now spent Ts Ws) = some (vec (cnt ns) (stZ ns)) := rfl
  have f2 : fldD ([] : Mm) 2 (polD ns now spent Ts Ws) = some (tab (cnt ns) fun i => vec (cnt ns) (wyZ ns i)) := rfl
  exact wp_ret (by simp only [execSs, execS, evalE, evalEs, evalB, evalO, evalI, up_ok, Res.bind_ok, List.getElem?_cons_zero, List.getElem?_cons_succ, List.set_cons_zero, List.set_cons_succ, List.map_cons, List.map_nil, List.cons_append, List.nil_append, List.replicate_succ, List.replicate_zero, Nat.add_one_sub_one, Cn.d, if_true, wipe, bindT, bindTs, binD, addD, mulD, arD, mkL, mkT, Bool.false_eq_true, if_false, Nat.reduceSub, List.replicate, Option.bind_some, f1, f2, idx_tab hx, idx_tab hy, show divOk 2 = true from rfl] <;> rfl) ⟨_, rfl, by simp only [own]; rfl⟩
theorem init_ok {ns : List Int} (n : Nat) : callN pg (n + 1) 2 [.ref 0, .int (stt ns), vec (cnt ns) (stZ ns), tab (cnt ns) fun i => vec (cnt ns) (wyZ ns i)] [.ins 0 []] = .ok .non (pmem ns (stt ns) 0 [] [vec (cnt ns) (wyZ ns (stt ns))] []) := by
  refine call_runI (fd := d_Policy___init__) rfl rfl rfl ?_
  show Wp pg (callN pg n) _ ⟨[some (.ref 0), some (.int (stt ns)), some (vec (cnt ns) (stZ ns)), some (tab (cnt ns) fun i => vec (cnt ns) (wyZ ns i)), none], [.ins 0 []]⟩ _
  have hc := cnt_pos ns
  have h5 := cnt_le ns
  have l1 : ∀ (m : Mm) (F : Nat → D), bltD .list_ false [tab (cnt ns) F] m = .ok (tab (cnt ns) F) m := fun m F => list_tab (by omega)
  refine wp_setf (h1 := _) (h2 := _) (d := .int (stt ns)) (x := .ref 0) (by simp only [execSs, execS, evalE, evalEs, evalB, evalO, evalI, up_ok, Res.bind_ok, List.getElem?_cons_zero, List.getElem?_cons_succ, List.set_cons_zero, List.set_cons_succ, List.map_cons, List.map_nil, List.cons_append, List.nil_append, List.replicate_succ, List.replicate_zero, Nat.add_one_sub_one, Cn.d, if_true, wipe, bindT, bindTs, binD, addD, mulD, arD, mkL, mkT, Bool.false_eq_true, if_false, Nat.reduceSub, List.replicate, Option.bind_some] <;> rfl) (by simp only [execSs, execS, evalE, evalEs, evalB, evalO, evalI, up_ok, Res.bind_ok, List.getElem?_cons_zero, List.getElem?_cons_succ, List.set_cons_zero, List.set_cons_succ, List.map_cons, List.map_nil, List.cons_append, List.nil_append, List.replicate_succ, List.replicate_zero, Nat.add_one_sub_one, Cn.d, if_true, wipe, bindT, bindTs, binD, addD, mulD, arD, mkL, mkT, Bool.false_eq_true, if_false, Nat.reduceSub, List.replicate, Option.bind_some] <;> rfl) rfl ?_
  refine wp_setf (d := vec (cnt ns) (stZ ns)) (x := .ref 0) (by simp only [execSs, execS, evalE, evalEs, evalB, evalO, evalI, up_ok, Res.bind_ok, List.getElem?_cons_zero, List.getElem?_cons_succ, List.set_cons_zero, List.set_cons_succ, List.map_cons, List.map_nil, List.cons_append, List.nil_append, List.replicate_succ, List.replicate_zero, Nat.add_one_sub_one, Cn.d, if_true, wipe, bindT, bindTs, binD, addD, mulD, arD, mkL, mkT, Bool.false_eq_true, if_false, Nat.reduceSub, List.replicate, Option.bind_some, l1] <;> rfl) (by simp only [execSs, execS, evalE, evalEs, evalB, evalO, evalI, up_ok, Res.bind_ok, List.getElem?_cons_zero, List.getElem?_cons_succ, List.set_cons_zero, List.set_cons_succ, List.map_cons, List.map_nil, List.cons_append, List.nil_append, List.replicate_succ, List.replicate_zero, Nat.add_one_sub_one, Cn.d, if_true, wipe, bindT, bindTs, binD, addD, mulD, arD, mkL, mkT, Bool.false_eq_true, if_false, Nat.reduceSub, List.replicate, Option.bind_some] <;> rfl) rfl ?_
  refine wp_setf (d := tab (cnt ns) fun i => vec (cnt ns) (wyZ ns i)) (x := .ref 0) (lc_tab (it_tab (by simp only [execSs, execS, evalE, evalEs, evalB, evalO, evalI, up_ok, Res.bind_ok, List.getElem?_cons_zero, List.getElem?_cons_succ, List.set_cons_zero, List.set_cons_succ, List.map_cons, List.map_nil, List.cons_append, List.nil_append, List.replicate_succ, List.replicate_zero, Nat.add_one_sub_one, Cn.d, if_true, wipe, bindT, bindTs, binD, addD, mulD, arD, mkL, mkT, Bool.false_eq_true, if_false, Nat.reduceSub, List.replicate, Option.bind_some] <;> rfl)) (by omega) fun k hk => ⟨_, rfl, by simp only [execSs, execS, evalE, evalEs, evalB, evalO, evalI, up_ok, Res.bind_ok, List.getElem?_cons_zero, List.getElem?_cons_succ, List.set_cons_zero, List.set_cons_succ, List.map_cons, List.map_nil, List.cons_append, List.nil_append, List.replicate_succ, List.replicate_zero, Nat.add_one_sub_one, Cn.d, if_true, wipe, bindT, bindTs, binD, addD, mulD, arD, mkL, mkT, Bool.false_eq_true, if_false, Nat.reduceSub, List.replicate, Option.bind_some, l1] <;> rfl⟩) (by simp only [execSs, execS, evalE, evalEs, evalB, evalO, evalI, up_ok, Res.bind_ok, List.getElem?_cons_zero, List.getElem?_cons_succ, List.set_cons_zero, List.set_cons_succ, List.map_cons, List.map_nil, List.cons_append, List.nil_append, List.replicate_succ, List.replicate_zero, Nat.add_one_sub_one, Cn.d, if_true, wipe, bindT, bindTs, binD, addD, mulD, arD, mkL, mkT, Bool.false_eq_true, if_false, Nat.reduceSub, List.replicate, Option.bind_some] <;> rfl) rfl ?_
  refine wp_setf (d := .int (stt ns)) (x := .ref 0) (by simp only [execSs, execS, evalE, evalEs, evalB, evalO, evalI, up_ok, Res.bind_ok, List.getElem?_cons_zero, List.getElem?_cons_succ, List.set_cons_zero, List.set_cons_succ, List.map_cons, List.map_nil, List.cons_append, List.nil_append, List.replicate_succ, List.replicate_zero, Nat.add_one_sub_one, Cn.d, if_true, wipe, bindT, bindTs, binD, addD, mulD, arD, mkL, mkT, Bool.false_eq_true, if_false, Nat.reduceSub, List.replicate, Option.bind_some] <;> rfl) (by simp only [execSs, execS, evalE, evalEs, evalB, evalO, evalI, up_ok, Res.bind_ok, List.getElem?_cons_zero, List.getElem?_cons_succ, List.set_cons_zero, List.set_cons_succ, List.map_cons, List.map_nil, List.cons_append, List.nil_append, List.replicate_succ, List.replicate_zero, Nat.add_one_sub_one, Cn.d, if_true, wipe, bindT, bindTs, binD, addD, mulD, arD, mkL, mkT, Bool.false_eq_true, if_false, Nat.reduceSub, List.replicate, Option.bind_some] <;> rfl) rfl ?_
  refine wp_setf (d := .int 0) (x := .ref 0) (by simp only [execSs, execS, evalE, evalEs, evalB, evalO, evalI, up_ok, Res.bind_ok, List.getElem?_cons_zero, List.getElem?_cons_succ, List.set_cons_zero, List.set_cons_succ, List.map_cons, List.map_nil, List.cons_append, List.nil_append, List.replicate_succ, List.replicate_zero, Nat.add_one_sub_one, Cn.d, if_true, wipe, bindT, bindTs, binD, addD, mulD, arD, mkL, mkT, Bool.false_eq_true, if_false, Nat.reduceSub, List.replicate, Option.bind_some] <;> rfl) (by simp only [execSs, execS, evalE, evalEs, evalB, evalO, evalI, up_ok, Res.bind_ok, List.getElem?_cons_zero, List.getElem?_cons_succ, List.set_cons_zero, List.set_cons_succ, List.map_cons, List.map_nil, List.cons_append, List.nil_append, List.replicate_succ, List.replicate_zero, Nat.add_one_sub_one, Cn.d, if_true, wipe, bindT, bindTs, binD, addD, mulD, arD, mkL, mkT, Bool.false_eq_true, if_false, Nat.reduceSub, List.replicate, Option.bind_some] <;> rfl) rfl ?_
  refine wp_setf (d := .ref 1) (x := .ref 0) (by simp only [execSs, execS, evalE, evalEs, evalB, evalO, evalI, up_ok, Res.bind_ok, List.getElem?_cons_zero, List.getElem?_cons_succ, List.set_cons_zero, List.set_cons_succ, List.map_cons, List.map_nil, List.cons_append, List.nil_append, List.replicate_succ, List.replicate_zero, Nat.add_one_sub_one, Cn.d, if_true, wipe, bindT, bindTs, binD, addD, mulD, arD, mkL, mkT, Bool.false_eq_true, if_false, Nat.reduceSub, List.replicate, Option.bind_some, show szOk 0 = true from rfl, List.length_nil] <;> rfl) (by simp only [execSs, execS, evalE, evalEs, evalB, evalO, evalI, up_ok, Res.bind_ok, List.getElem?_cons_zero, List.getElem?_cons_succ, List.set_cons_zero, List.set_cons_succ, List.map_cons, List.map_nil, List.cons_append, List.nil_append, List.replicate_succ, List.replicate_zero, Nat.add_one_sub_one, Cn.d, if_true, wipe, bindT, bindTs, binD, addD, mulD, arD, mkL, mkT, Bool.false_eq_true, if_false, Nat.reduceSub, List.replicate, Option.bind_some] <;> rfl) rfl ?_
  show Wp pg (callN pg n) _ ⟨[some (.ref 0), some (.int (stt ns)), some (vec (cnt ns) (stZ ns)), some (tab (cnt ns) fun i => vec (cnt ns) (wyZ ns i)), none], O.ins 0 [(0, D.int (stt ns)), (1, vec (cnt ns) (stZ ns)), (2, tab (cnt ns) fun i => vec (cnt ns) (wyZ ns i)), (3, D.int (stt ns)), (4, D.int 0), (5, D.ref 1)] :: [.lst []]⟩ _
  have f2 : ∀ (m : Mm), fldD (O.ins 0 [(0, D.int (stt ns)), (1, vec (cnt ns) (stZ ns)), (2, tab (cnt ns) fun i => vec (cnt ns) (wyZ ns i)), (3, D.int (stt ns)), (4, D.int 0), (5, D.ref 1)] :: m) 2 (.ref 0) = some (tab (cnt ns) fun i => vec (cnt ns) (wyZ ns i)) := fun m => rfl
  refine wp_setf (d := .ref 2) (x := .ref 0) (by
    simp only [execSs, execS, evalE, evalEs, evalB, evalO, evalI, up_ok, Res.bind_ok, List.getElem?_cons_zero, List.getElem?_cons_succ, List.set_cons_zero, List.set_cons_succ, List.map_cons, List.map_nil, List.cons_append, List.nil_append, List.replicate_succ, List.replicate_zero, Nat.add_one_sub_one, Cn.d, if_true, wipe, bindT, bindTs, binD, addD, mulD, arD, mkL, mkT, Bool.false_eq_true, if_false, Nat.reduceSub, List.replicate, Option.bind_some, f2, idx_tab (stt_lt ns), l1, show szOk (0 + 1) = true from rfl, List.length_cons, List.length_nil] <;> rfl) (by simp only [execSs, execS, evalE, evalEs, evalB, evalO, evalI, up_ok, Res.bind_ok, List.getElem?_cons_zero, List.getElem?_cons_succ, List.set_cons_zero, List.set_cons_succ, List.map_cons, List.map_nil, List.cons_append, List.nil_append, List.replicate_succ, List.replicate_zero, Nat.add_one_sub_one, Cn.d, if_true, wipe, bindT, bindTs, binD, addD, mulD, arD, mkL, mkT, Bool.false_eq_true, if_false, Nat.reduceSub, List.replicate, Option.bind_some] <;> rfl) rfl ?_
  exact wp_nil ⟨rfl, rfl⟩
end K45
namespace K45
open PySem R
/-! ### works -/
noncomputable def Wf (ns : List Int) (Tf : Nat → Nat → Int) : Nat → Nat → Int
  | 0 => wyZ ns (stt ns)
  | i + 1 => nw (cnt ns) (wyZ ns) (Wf ns Tf i) (Tf i)
abbrev Tsk (ns : List Int) (Tf : Nat → Nat → Int) (k : Nat) : List D := (List.range k).map fun i => vec (cnt ns) (Tf i)
noncomputable abbrev Wsk (ns : List Int) (Tf : Nat → Nat → Int) (k : Nat) : List D := (List.range (k + 1)).map fun i => vec (cnt ns) (Wf ns Tf i)
theorem nrs_vecs {c k : Nat} {f : Nat → Nat → Int} : nrs ((List.range k).map fun i => vec c (f i)) = true := nrs_map fun _ _ => nr_vec
theorem pc0 : pg.cls[0]? = some ⟨2, [(0, 3), (1, 4)]⟩ := rfl
theorem lk0 : List.lookup 0 [((0 : Nat), (3 : Nat)), (1, 4)] = some 3 := rfl
theorem lk1 : List.lookup 1 [((0 : Nat), (3 : Nat)), (1, 4)] = some 4 := rfl
section
variable {ns : List Int} {now spent : Int} {Ts Ws : List D} {tl : Mm}
theorem pf1 : fldD (pmem ns now spent Ts Ws tl) 1 (.ref 0) = some (vec (cnt ns) (stZ ns)) := rfl
theorem pf2 : fldD (pmem ns now spent Ts Ws tl) 2 (.ref 0) = some (tab (cnt ns) fun i => vec (cnt ns) (wyZ ns i)) := rfl
theorem pf3 : fldD (pmem ns now spent Ts Ws tl) 3 (.ref 0) = some (.int now) := rfl
theorem pf4 : fldD (pmem ns now spent Ts Ws tl) 4 (.ref 0) = some (.int spent) := rfl
theorem pf5 : fldD (pmem ns now spent Ts Ws tl) 5 (.ref 0) = some (.ref 1) := rfl
theorem pf6 : fldD (pmem ns now spent Ts Ws tl) 6 (.ref 0) = some (.ref 2) := rfl
theorem pcl : clsD (pmem ns now spent Ts Ws tl) (.ref 0) = some 0 := rfl
end
theorem serve_ok {ns : List Int} {Tf : Nat → Nat → Int} {k now : Nat} (hk : k ≤ 1000) (hnow : now < cnt ns) (spent : Int) (tl : Mm) (n : Nat) : ∃ g : Nat, g < cnt ns ∧ Wf ns Tf k g + 2 * Tf k g + wyZ ns g now = Wf ns Tf (k + 1) now ∧
    callN pg (n + 2) 4 [.ref 0, vec (cnt ns) (Tf k)] (pmem ns now spent (Tsk ns Tf k) (Wsk ns Tf k) tl) = .ok (.int (g : Int)) (pmem ns g (spent + (goZ ns now g + Tf k g)) (Tsk ns Tf (k + 1)) (Wsk ns Tf (k + 1)) tl) := by
  have hc := cnt_pos ns
  have h5 := cnt_le ns
  have l1 : ∀ (m : Mm) (F : Nat → D), bltD .list_ false [tab (cnt ns) F] m = .ok (tab (cnt ns) F) m := fun m F => list_tab (by omega)
  let f : Nat → Int := fun x => Wf ns Tf k x + 2 * Tf k x + wyZ ns x now
  let g : Nat := if mn (cnt ns) f < f now then am (cnt ns) f else now
  have hg : g < cnt ns := by
    show (if mn (cnt ns) f < f now then am (cnt ns) f else now) < cnt ns
    split
    · exact am_lt hc
    · exact hnow
  have gm : f g = mn (cnt ns) f := by
    show f (if mn (cnt ns) f < f now then am (cnt ns) f else now) = _
    split
    · exact am_mn hc
    · have := mn_le (f := f) hnow
      omega
  refine ⟨g, hg, gm, ?_⟩
  refine call_runI (fd := d_Policy_serve) rfl rfl rfl ?_
  show Wp pg (callN pg (n + 1)) _ ⟨[some (.ref 0), some (vec (cnt ns) (Tf k)), none, none, none, none, none], pmem ns now spent (Tsk ns Tf k) (Wsk ns Tf k) tl⟩ _
  refine wp_set (d := vec (cnt ns) (Tf k)) (by simp only [execSs, execS, evalE, evalEs, evalB, evalO, evalI, up_ok, Res.bind_ok, List.getElem?_cons_zero, List.getElem?_cons_succ, List.set_cons_zero, List.set_cons_succ, List.map_cons, List.map_nil, List.cons_append, List.nil_append, List.replicate_succ, List.replicate_zero, Nat.add_one_sub_one, Cn.d, if_true, wipe, bindT, bindTs, binD, addD, mulD, arD, mkL, mkT, Bool.false_eq_true, if_false, Nat.reduceSub, List.replicate, Option.bind_some, l1] <;> rfl) ?_
  have il : idxD (pmem ns now spent (Tsk ns Tf k) (Wsk ns Tf k) tl) (.ref 2) (.int (-1)) = some (vec (cnt ns) (Wf ns Tf k)) := by
    show L2.atI (Wsk ns Tf k) (-1) = _
    rw [show Wsk ns Tf k = ((List.range k).map fun i => vec (cnt ns) (Wf ns Tf i)) ++ [vec (cnt ns) (Wf ns Tf k)] from map_rng_succ _ _]
    exact atI_last _ _
  refine wp_set (d := vec (cnt ns) (Wf ns Tf k)) (by simp only [execSs, execS, evalE, evalEs, evalB, evalO, evalI, up_ok, Res.bind_ok, List.getElem?_cons_zero, List.getElem?_cons_succ, List.set_cons_zero, List.set_cons_succ, List.map_cons, List.map_nil, List.cons_append, List.nil_append, List.replicate_succ, List.replicate_zero, Nat.add_one_sub_one, Cn.d, if_true, wipe, bindT, bindTs, binD, addD, mulD, arD, mkL, mkT, Bool.false_eq_true, if_false, Nat.reduceSub, List.replicate, Option.bind_some, pf6, il] <;> rfl) ?_
  refine wp_set (d := .int (cnt ns)) (by simp only [execSs, execS, evalE, evalEs, evalB, evalO, evalI, up_ok, Res.bind_ok, List.getElem?_cons_zero, List.getElem?_cons_succ, List.set_cons_zero, List.set_cons_succ, List.map_cons, List.map_nil, List.cons_append, List.nil_append, List.replicate_succ, List.replicate_zero, Nat.add_one_sub_one, Cn.d, if_true, wipe, bindT, bindTs, binD, addD, mulD, arD, mkL, mkT, Bool.false_eq_true, if_false, Nat.reduceSub, List.replicate, Option.bind_some, len_tab] <;> rfl) ?_
  refine wp_set (d := vec (cnt ns) f) (lc_tab (it_rng (n := cnt ns) (by simp only [execSs, execS, evalE, evalEs, evalB, evalO, evalI, up_ok, Res.bind_ok, List.getElem?_cons_zero, List.getElem?_cons_succ, List.set_cons_zero, List.set_cons_succ, List.map_cons, List.map_nil, List.cons_append, List.nil_append, List.replicate_succ, List.replicate_zero, Nat.add_one_sub_one, Cn.d, if_true, wipe, bindT, bindTs, binD, addD, mulD, arD, mkL, mkT, Bool.false_eq_true, if_false, Nat.reduceSub, List.replicate, Option.bind_some] <;> rfl) (by omega)) (by omega) fun x hx => ⟨_, rfl, by simp only [execSs, execS, evalE, evalEs, evalB, evalO, evalI, up_ok, Res.bind_ok, List.getElem?_cons_zero, List.getElem?_cons_succ, List.set_cons_zero, List.set_cons_succ, List.map_cons, List.map_nil, List.cons_append, List.nil_append, List.replicate_succ, List.replicate_zero, Nat.add_one_sub_one, Cn.d, if_true, wipe, bindT, bindTs, binD, addD, mulD, arD, mkL, mkT, Bool.false_eq_true, if_false, Nat.reduceSub, List.replicate, Option.bind_some, pf2, pf3, idx_tab hx, idx_tab hnow, mulOk_two] <;> rfl⟩) ?_
  refine wp_set (d := .int now) (by simp only [execSs, execS, evalE, evalEs, evalB, evalO, evalI, up_ok, Res.bind_ok, List.getElem?_cons_zero, List.getElem?_cons_succ, List.set_cons_zero, List.set_cons_succ, List.map_cons, List.map_nil, List.cons_append, List.nil_append, List.replicate_succ, List.replicate_zero, Nat.add_one_sub_one, Cn.d, if_true, wipe, bindT, bindTs, binD, addD, mulD, arD, mkL, mkT, Bool.false_eq_true, if_false, Nat.reduceSub, List.replicate, Option.bind_some, pf3] <;> rfl) ?_
  simp only [execSs, execS, evalE, evalEs, evalB, evalO, evalI, up_ok, Res.bind_ok, List.getElem?_cons_zero, List.getElem?_cons_succ, List.set_cons_zero, List.set_cons_succ, List.map_cons, List.map_nil, List.cons_append, List.nil_append, List.replicate_succ, List.replicate_zero, Nat.add_one_sub_one, Cn.d, if_true, wipe, bindT, bindTs, binD, addD, mulD, arD, mkL, mkT, Bool.false_eq_true, if_false, Nat.reduceSub, List.replicate, Option.bind_some]
  have cont : Wp pg (callN pg (n + 1)) [.augf (.var 0) 4 .add (.bin .add false (.meth (.var 0) 0 [(.fld (.var 0) 3), (.var 5)]) (.idx (.var 1) (.var 5))), .setf (.var 0) 3 (.var 5), .ex (.bm .append false (.fld (.var 0) 5) [(.var 1)]), .ex (.bm .append false (.fld (.var 0) 6) [(.call 0 [(.var 2), (.var 1), (.fld (.var 0) 2)])]), .ret (.var 5)]
      ⟨[some (.ref 0), some (vec (cnt ns) (Tf k)), some (vec (cnt ns) (Wf ns Tf k)), some (.int (cnt ns)), some (vec (cnt ns) f), some (.int (g : Int)), none], pmem ns now spent (Tsk ns Tf k) (Wsk ns Tf k) tl⟩
      (fun fl s => rtD fl = some (.int (g : Int)) ∧ s.hp = pmem ns g (spent + (goZ ns now g + Tf k g)) (Tsk ns Tf (k + 1)) (Wsk ns Tf (k + 1)) tl) := by
    refine wp_augf (x := .ref 0) (v := .int spent) (d := .int (goZ ns now g + Tf k g)) (by simp only [execSs, execS, evalE, evalEs, evalB, evalO, evalI, up_ok, Res.bind_ok, List.getElem?_cons_zero, List.getElem?_cons_succ, List.set_cons_zero, List.set_cons_succ, List.map_cons, List.map_nil, List.cons_append, List.nil_append, List.replicate_succ, List.replicate_zero, Nat.add_one_sub_one, Cn.d, if_true, wipe, bindT, bindTs, binD, addD, mulD, arD, mkL, mkT, Bool.false_eq_true, if_false, Nat.reduceSub, List.replicate, Option.bind_some] <;> rfl) rfl (by
      simp only [execSs, execS, evalE, evalEs, evalB, evalO, evalI, up_ok, Res.bind_ok, List.getElem?_cons_zero, List.getElem?_cons_succ, List.set_cons_zero, List.set_cons_succ, List.map_cons, List.map_nil, List.cons_append, List.nil_append, List.replicate_succ, List.replicate_zero, Nat.add_one_sub_one, Cn.d, if_true, wipe, bindT, bindTs, binD, addD, mulD, arD, mkL, mkT, Bool.false_eq_true, if_false, Nat.reduceSub, List.replicate, Option.bind_some, pcl, pc0, lk0, pf3, goi_ok (nrs_vecs) (nrs_vecs) hnow hg n, idx_tab hg] <;> rfl) rfl rfl rfl ?_
    refine wp_setf (x := .ref 0) (d := .int (g : Int)) (by simp only [execSs, execS, evalE, evalEs, evalB, evalO, evalI, up_ok, Res.bind_ok, List.getElem?_cons_zero, List.getElem?_cons_succ, List.set_cons_zero, List.set_cons_succ, List.map_cons, List.map_nil, List.cons_append, List.nil_append, List.replicate_succ, List.replicate_zero, Nat.add_one_sub_one, Cn.d, if_true, wipe, bindT, bindTs, binD, addD, mulD, arD, mkL, mkT, Bool.false_eq_true, if_false, Nat.reduceSub, List.replicate, Option.bind_some] <;> rfl) (by simp only [execSs, execS, evalE, evalEs, evalB, evalO, evalI, up_ok, Res.bind_ok, List.getElem?_cons_zero, List.getElem?_cons_succ, List.set_cons_zero, List.set_cons_succ, List.map_cons, List.map_nil, List.cons_append, List.nil_append, List.replicate_succ, List.replicate_zero, Nat.add_one_sub_one, Cn.d, if_true, wipe, bindT, bindTs, binD, addD, mulD, arD, mkL, mkT, Bool.false_eq_true, if_false, Nat.reduceSub, List.replicate, Option.bind_some] <;> rfl) rfl ?_
    show Wp pg (callN pg (n + 1)) _ ⟨_, pmem ns g (spent + (goZ ns now g + Tf k g)) (Tsk ns Tf k) (Wsk ns Tf k) tl⟩ _
    refine wp_ex (ev_app (n := 1) (m := k) (F := fun i => vec (cnt ns) (Tf i)) (by simp only [execSs, execS, evalE, evalEs, evalB, evalO, evalI, up_ok, Res.bind_ok, List.getElem?_cons_zero, List.getElem?_cons_succ, List.set_cons_zero, List.set_cons_succ, List.map_cons, List.map_nil, List.cons_append, List.nil_append, List.replicate_succ, List.replicate_zero, Nat.add_one_sub_one, Cn.d, if_true, wipe, bindT, bindTs, binD, addD, mulD, arD, mkL, mkT, Bool.false_eq_true, if_false, Nat.reduceSub, List.replicate, Option.bind_some, pf5] <;> rfl) rfl (by simp only [execSs, execS, evalE, evalEs, evalB, evalO, evalI, up_ok, Res.bind_ok, List.getElem?_cons_zero, List.getElem?_cons_succ, List.set_cons_zero, List.set_cons_succ, List.map_cons, List.map_nil, List.cons_append, List.nil_append, List.replicate_succ, List.replicate_zero, Nat.add_one_sub_one, Cn.d, if_true, wipe, bindT, bindTs, binD, addD, mulD, arD, mkL, mkT, Bool.false_eq_true, if_false, Nat.reduceSub, List.replicate, Option.bind_some] <;> rfl) rfl (by omega)) ?_
    show Wp pg (callN pg (n + 1)) _ ⟨_, pmem ns g (spent + (goZ ns now g + Tf k g)) (Tsk ns Tf (k + 1)) (Wsk ns Tf k) tl⟩ _
    refine wp_ex (ev_app (n := 2) (m := k + 1) (F := fun i => vec (cnt ns) (Wf ns Tf i)) (by simp only [execSs, execS, evalE, evalEs, evalB, evalO, evalI, up_ok, Res.bind_ok, List.getElem?_cons_zero, List.getElem?_cons_succ, List.set_cons_zero, List.set_cons_succ, List.map_cons, List.map_nil, List.cons_append, List.nil_append, List.replicate_succ, List.replicate_zero, Nat.add_one_sub_one, Cn.d, if_true, wipe, bindT, bindTs, binD, addD, mulD, arD, mkL, mkT, Bool.false_eq_true, if_false, Nat.reduceSub, List.replicate, Option.bind_some, pf6] <;> rfl) rfl (by simp only [execSs, execS, evalE, evalEs, evalB, evalO, evalI, up_ok, Res.bind_ok, List.getElem?_cons_zero, List.getElem?_cons_succ, List.set_cons_zero, List.set_cons_succ, List.map_cons, List.map_nil, List.cons_append, List.nil_append, List.replicate_succ, List.replicate_zero, Nat.add_one_sub_one, Cn.d, if_true, wipe, bindT, bindTs, binD, addD, mulD, arD, mkL, mkT, Bool.false_eq_true, if_false, Nat.reduceSub, List.replicate, Option.bind_some, pf2, next_works_ok hc h5] <;> rfl) rfl (by omega)) ?_
    exact wp_ret (by simp only [execSs, execS, evalE, evalEs, evalB, evalO, evalI, up_ok, Res.bind_ok, List.getElem?_cons_zero, List.getElem?_cons_succ, List.set_cons_zero, List.set_cons_succ, List.map_cons, List.map_nil, List.cons_append, List.nil_append, List.replicate_succ, List.replicate_zero, Nat.add_one_sub_one, Cn.d, if_true, wipe, bindT, bindTs, binD, addD, mulD, arD, mkL, mkT, Bool.false_eq_true, if_false, Nat.reduceSub, List.replicate, Option.bind_some] <;> rfl) ⟨rfl, rfl⟩
  have fl := fun h => first_least_ok (n := n) (c := cnt ns) (f := f) (h := h) hc
  by_cases hb : mn (cnt ns) f < f now
  · refine wp_then (x := .bl true) (by simp only [execSs, execS, evalE, evalEs, evalB, evalO, evalI, up_ok, Res.bind_ok, List.getElem?_cons_zero, List.getElem?_cons_succ, List.set_cons_zero, List.set_cons_succ, List.map_cons, List.map_nil, List.cons_append, List.nil_append, List.replicate_succ, List.replicate_zero, Nat.add_one_sub_one, Cn.d, if_true, wipe, bindT, bindTs, binD, addD, mulD, arD, mkL, mkT, Bool.false_eq_true, if_false, Nat.reduceSub, List.replicate, Option.bind_some, min1_vec hc, pf3, idx_tab hnow, cmpD, decide_eq_true hb] <;> rfl) rfl ?_
    have eg : g = am (cnt ns) f := if_pos hb
    refine wp_set (d := .int (g : Int)) (by simp only [execSs, execS, evalE, evalEs, evalB, evalO, evalI, up_ok, Res.bind_ok, List.getElem?_cons_zero, List.getElem?_cons_succ, List.set_cons_zero, List.set_cons_succ, List.map_cons, List.map_nil, List.cons_append, List.nil_append, List.replicate_succ, List.replicate_zero, Nat.add_one_sub_one, Cn.d, if_true, wipe, bindT, bindTs, binD, addD, mulD, arD, mkL, mkT, Bool.false_eq_true, if_false, Nat.reduceSub, List.replicate, Option.bind_some, fl, eg] <;> rfl) ?_
    exact wp_nil cont
  · refine wp_else (x := .bl false) (by simp only [execSs, execS, evalE, evalEs, evalB, evalO, evalI, up_ok, Res.bind_ok, List.getElem?_cons_zero, List.getElem?_cons_succ, List.set_cons_zero, List.set_cons_succ, List.map_cons, List.map_nil, List.cons_append, List.nil_append, List.replicate_succ, List.replicate_zero, Nat.add_one_sub_one, Cn.d, if_true, wipe, bindT, bindTs, binD, addD, mulD, arD, mkL, mkT, Bool.false_eq_true, if_false, Nat.reduceSub, List.replicate, Option.bind_some, min1_vec hc, pf3, idx_tab hnow, cmpD, decide_eq_false hb] <;> rfl) rfl ?_
    have eg : g = now := if_neg hb
    rw [eg] at cont
    rw [eg]
    exact wp_nil cont
end K45
namespace K45
open PySem R
/-! ### comprehensions with a condition -/
theorem mapL_flt {f : D → Mm → Res Mm (Option D)} {F : Nat → D} {G : Nat → Option D} {h : Mm} : ∀ {xs : List Nat}, (∀ k ∈ xs, f (F k) h = .ok (G k) h) → mapL f (xs.map F) h = .ok (xs.filterMap G) h
  | [], _ => rfl
  | k :: xs, H => by
    have e := H k List.mem_cons_self
    have ih := mapL_flt (xs := xs) fun y hy => H y (List.mem_cons_of_mem _ hy)
    cases q : G k with
    | none => simp only [List.map_cons, mapL, e, q, ih, Res.bind_ok, List.filterMap_cons]
    | some d => simp only [List.map_cons, mapL, e, q, ih, Res.bind_ok, List.filterMap_cons]
theorem lc_flt {p : Pg} {c : Calls} {sl : List (Option D)} {h h1 : Mm} {elt k : ME} {g : Tg} {it : It} {own : List Nat} {n : Nat} {F : Nat → D} {G : Nat → Option D} (a : evalI p c it sl h = .ok ((List.range n).map F) h1) (hn : n ≤ 16777216)
    (step : ∀ i, i < n → ∃ sl', bindT g (F i) (wipe sl own) = some sl' ∧ ∃ x, evalE p c k sl' h1 = .ok x h1 ∧ ((truthD h1 x = some true ∧ ∃ d, evalE p c elt sl' h1 = .ok d h1 ∧ G i = some d) ∨ (truthD h1 x = some false ∧ G i = none))) :
    evalE p c (.lc false elt g it (some k) own) sl h = .ok (.lst ((List.range n).filterMap G)) h1 := by
  simp only [evalE, a, Res.bind_ok]
  rw [mapL_flt (G := G) fun i hi => ?_]
  · have : ((List.range n).filterMap G).length ≤ 16777216 := Nat.le_trans (List.length_filterMap_le _ _) (by rw [List.length_range]; exact hn)
    simp only [Res.bind_ok, mkL, szOk_of this, if_true, Bool.false_eq_true, if_false]
  · obtain ⟨sl', b, x, e, q⟩ := step i (List.mem_range.mp hi)
    rcases q with ⟨t, d, e2, gd⟩ | ⟨t, gd⟩
    · simp only [b, e, noExn, Res.bind_ok, t, e2, gd]
    · simp only [b, e, noExn, Res.bind_ok, t, gd]
theorem flt_all {n : Nat} {G : Nat → D} : (List.range n).filterMap (fun i => some (G i)) = (List.range n).map G := by
  rw [← List.filterMap_eq_map]; rfl
theorem flt_one {G : Nat → D} {s : Nat} : ∀ {n : Nat}, s < n → (List.range n).filterMap (fun i => if i = s then some (G i) else none) = [G s]
  | 0, h => absurd h (Nat.not_lt_zero _)
  | n + 1, h => by
    rw [List.range_succ, List.filterMap_append]
    by_cases q : s = n
    · subst q
      have e : (List.range s).filterMap (fun i => if i = s then some (G i) else none) = [] := by
        rw [List.filterMap_eq_nil_iff]
        intro a ha
        have := List.mem_range.mp ha
        rw [if_neg (by omega)]
      rw [e]
      simp
    · rw [flt_one (n := n) (by omega)]
      have : ¬ n = s := fun z => q z.symm
      simp [this]
theorem set_rng {c s : Nat} (h : s < c) (d e : D) : ((List.range c).map fun _ => d).set s e = (List.range c).map fun k => if k = s then e else d := by
  apply List.ext_getElem?
  intro i
  by_cases q : i = s
  · subst q
    rw [List.getElem?_set_self (by simpa using h), get_tab (F := fun k => if k = i then e else d) h, if_pos rfl]
  · rw [List.getElem?_set_ne (fun z => q z.symm)]
    by_cases hi : i < c
    · rw [get_tab (F := fun _ => d) hi, get_tab (F := fun k => if k = s then e else d) hi, if_neg q]
    · rw [List.getElem?_eq_none (by simpa using Nat.le_of_not_lt hi), List.getElem?_eq_none (by simpa using Nat.le_of_not_lt hi)]
/-! ### the least that any plan spends -/
noncomputable def Sq (ns : List Int) (Tf : Nat → Nat → Int) : Nat → Nat → Int
  | 0 => fun g => 0 + goZ ns (stt ns) g + Tf 0 g
  | i + 1 => fun g => mn (cnt ns) (fun x => Sq ns Tf i x + goZ ns x g) + Tf (i + 1) g
noncomputable def spD (ns : List Int) (Tf : Nat → Nat → Int) : Nat → D
  | 0 => tab (cnt ns) fun k => if k = stt ns then .int 0 else .non
  | i + 1 => vec (cnt ns) (Sq ns Tf i)
theorem least_ok {ns : List Int} {Tf : Nat → Nat → Int} {m : Nat} (hm : m ≤ 1000) {h : Mm} {r : Nat} (hr : h[r]? = some (.lst (Tsk ns Tf (m + 1)))) (n : Nat) :
    callN pg (n + 2) 9 [costD ns, .ref r] h = .ok (.int (mn (cnt ns) (Sq ns Tf m))) h := by
  refine call_runO (fd := d__law_least) (as' := [costD ns, tab (m + 1) fun i => vec (cnt ns) (Tf i)]) rfl rfl rfl (by simp only [nrs, nr, nr_cost, Bool.true_and, Bool.false_and]) (by
    simp only [List.mapM_cons, List.mapM_nil, rsv9 (nr_cost ns), rsv_ref (k := 7) hr nrs_vecs, Option.pure_def, Option.bind_eq_bind, Option.bind_some] <;> rfl) ?_
  have hc := cnt_pos ns
  have h5 := cnt_le ns
  have hs := stt_lt ns
  show Wp pg (callN pg (n + 1)) _ ⟨[some (costD ns), some (tab (m + 1) fun i => vec (cnt ns) (Tf i)), none, none, none, none, none, none, none, none, none], []⟩ _
  refine wp_set (d := .int (cnt ns)) (by simp only [execSs, execS, evalE, evalEs, evalB, evalO, evalI, up_ok, Res.bind_ok, List.getElem?_cons_zero, List.getElem?_cons_succ, List.set_cons_zero, List.set_cons_succ, List.map_cons, List.map_nil, List.cons_append, List.nil_append, List.replicate_succ, List.replicate_zero, Nat.add_one_sub_one, Cn.d, if_true, wipe, bindT, bindTs, binD, addD, mulD, arD, mkL, mkT, Bool.false_eq_true, if_false, Nat.reduceSub, List.replicate, Option.bind_some, ix1, len_tab] <;> rfl) ?_
  refine wp_set (d := .ref 0) (h1 := [.lst ((List.range (cnt ns)).map fun _ => .non)]) (lc_obj (h1 := []) (it_rng (n := cnt ns) (by simp only [execSs, execS, evalE, evalEs, evalB, evalO, evalI, up_ok, Res.bind_ok, List.getElem?_cons_zero, List.getElem?_cons_succ, List.set_cons_zero, List.set_cons_succ, List.map_cons, List.map_nil, List.cons_append, List.nil_append, List.replicate_succ, List.replicate_zero, Nat.add_one_sub_one, Cn.d, if_true, wipe, bindT, bindTs, binD, addD, mulD, arD, mkL, mkT, Bool.false_eq_true, if_false, Nat.reduceSub, List.replicate, Option.bind_some] <;> rfl) (by omega)) (by omega) fun x hx => ⟨_, rfl, by simp only [execSs, execS, evalE, evalEs, evalB, evalO, evalI, up_ok, Res.bind_ok, List.getElem?_cons_zero, List.getElem?_cons_succ, List.set_cons_zero, List.set_cons_succ, List.map_cons, List.map_nil, List.cons_append, List.nil_append, List.replicate_succ, List.replicate_zero, Nat.add_one_sub_one, Cn.d, if_true, wipe, bindT, bindTs, binD, addD, mulD, arD, mkL, mkT, Bool.false_eq_true, if_false, Nat.reduceSub, List.replicate, Option.bind_some] <;> rfl⟩) ?_
  simp only [execSs, execS, evalE, evalEs, evalB, evalO, evalI, up_ok, Res.bind_ok, List.getElem?_cons_zero, List.getElem?_cons_succ, List.set_cons_zero, List.set_cons_succ, List.map_cons, List.map_nil, List.cons_append, List.nil_append, List.replicate_succ, List.replicate_zero, Nat.add_one_sub_one, Cn.d, if_true, wipe, bindT, bindTs, binD, addD, mulD, arD, mkL, mkT, Bool.false_eq_true, if_false, Nat.reduceSub, List.replicate, Option.bind_some]
  have ixN : L2.ixN ((List.range (cnt ns)).map fun _ => D.non).length (stt ns : Int) = some (stt ns) := by
    unfold L2.ixN
    rw [if_pos (by omega), Int.toNat_natCast, if_pos (by rw [List.length_map, List.length_range]; omega)]
  refine wp_seti (d := .int 0) (x := .ref 0) (y := .int (stt ns)) (h4 := [.lst ((List.range (cnt ns)).map fun k => if k = stt ns then .int 0 else .non)]) (by simp only [execSs, execS, evalE, evalEs, evalB, evalO, evalI, up_ok, Res.bind_ok, List.getElem?_cons_zero, List.getElem?_cons_succ, List.set_cons_zero, List.set_cons_succ, List.map_cons, List.map_nil, List.cons_append, List.nil_append, List.replicate_succ, List.replicate_zero, Nat.add_one_sub_one, Cn.d, if_true, wipe, bindT, bindTs, binD, addD, mulD, arD, mkL, mkT, Bool.false_eq_true, if_false, Nat.reduceSub, List.replicate, Option.bind_some] <;> rfl) (by simp only [execSs, execS, evalE, evalEs, evalB, evalO, evalI, up_ok, Res.bind_ok, List.getElem?_cons_zero, List.getElem?_cons_succ, List.set_cons_zero, List.set_cons_succ, List.map_cons, List.map_nil, List.cons_append, List.nil_append, List.replicate_succ, List.replicate_zero, Nat.add_one_sub_one, Cn.d, if_true, wipe, bindT, bindTs, binD, addD, mulD, arD, mkL, mkT, Bool.false_eq_true, if_false, Nat.reduceSub, List.replicate, Option.bind_some] <;> rfl) (by simp only [execSs, execS, evalE, evalEs, evalB, evalO, evalI, up_ok, Res.bind_ok, List.getElem?_cons_zero, List.getElem?_cons_succ, List.set_cons_zero, List.set_cons_succ, List.map_cons, List.map_nil, List.cons_append, List.nil_append, List.replicate_succ, List.replicate_zero, Nat.add_one_sub_one, Cn.d, if_true, wipe, bindT, bindTs, binD, addD, mulD, arD, mkL, mkT, Bool.false_eq_true, if_false, Nat.reduceSub, List.replicate, Option.bind_some, ix0] <;> rfl) (by
    show (match L2.ixN ((List.range (cnt ns)).map fun _ => D.non).length (stt ns : Int) with | some j => some [O.lst (((List.range (cnt ns)).map fun _ => D.non).set j (.int 0))] | none => none) = _
    rw [ixN]
    show some [O.lst (((List.range (cnt ns)).map fun _ => D.non).set (stt ns) (.int 0))] = _
    rw [set_rng hs]) ?_
  refine wp_frzv rfl (frz_ref rfl (nrs_map fun k _ => by split <;> simp only [nr])) ?_
  simp only [execSs, execS, evalE, evalEs, evalB, evalO, evalI, up_ok, Res.bind_ok, List.getElem?_cons_zero, List.getElem?_cons_succ, List.set_cons_zero, List.set_cons_succ, List.map_cons, List.map_nil, List.cons_append, List.nil_append, List.replicate_succ, List.replicate_zero, Nat.add_one_sub_one, Cn.d, if_true, wipe, bindT, bindTs, binD, addD, mulD, arD, mkL, mkT, Bool.false_eq_true, if_false, Nat.reduceSub, List.replicate, Option.bind_some]
  refine wp_for (n := m + 1) (F := fun i => vec (cnt ns) (Tf i)) (h1 := [.dead]) (fun i s => ∃ x4 x5 x6 x8 hp, s = ⟨[some (costD ns), some (tab (m + 1) fun i => vec (cnt ns) (Tf i)), some (.int (cnt ns)), some (spD ns Tf i), x4, x5, x6, none, x8, none, none], hp⟩)
    (it_tab (by simp only [execSs, execS, evalE, evalEs, evalB, evalO, evalI, up_ok, Res.bind_ok, List.getElem?_cons_zero, List.getElem?_cons_succ, List.set_cons_zero, List.set_cons_succ, List.map_cons, List.map_nil, List.cons_append, List.nil_append, List.replicate_succ, List.replicate_zero, Nat.add_one_sub_one, Cn.d, if_true, wipe, bindT, bindTs, binD, addD, mulD, arD, mkL, mkT, Bool.false_eq_true, if_false, Nat.reduceSub, List.replicate, Option.bind_some] <;> rfl)) ⟨none, none, none, none, _, rfl⟩ ?_ ?_
  · rintro i s hi ⟨x4, x5, x6, x8, hp, rfl⟩
    refine ⟨_, rfl, ?_⟩
    refine wp_set (d := .ref hp.length) (h1 := hp ++ [.lst []]) (by simp only [execSs, execS, evalE, evalEs, evalB, evalO, evalI, up_ok, Res.bind_ok, List.getElem?_cons_zero, List.getElem?_cons_succ, List.set_cons_zero, List.set_cons_succ, List.map_cons, List.map_nil, List.cons_append, List.nil_append, List.replicate_succ, List.replicate_zero, Nat.add_one_sub_one, Cn.d, if_true, wipe, bindT, bindTs, binD, addD, mulD, arD, mkL, mkT, Bool.false_eq_true, if_false, Nat.reduceSub, List.replicate, Option.bind_some, show szOk 0 = true from rfl, List.length_nil] <;> rfl) ?_
    simp only [execSs, execS, evalE, evalEs, evalB, evalO, evalI, up_ok, Res.bind_ok, List.getElem?_cons_zero, List.getElem?_cons_succ, List.set_cons_zero, List.set_cons_succ, List.map_cons, List.map_nil, List.cons_append, List.nil_append, List.replicate_succ, List.replicate_zero, Nat.add_one_sub_one, Cn.d, if_true, wipe, bindT, bindTs, binD, addD, mulD, arD, mkL, mkT, Bool.false_eq_true, if_false, Nat.reduceSub, List.replicate, Option.bind_some]
    refine wp_for (n := cnt ns) (F := fun k => .int (k : Int)) (h1 := hp ++ [.lst []]) (fun j s => ∃ x6 x8, s = ⟨[some (costD ns), some (tab (m + 1) fun i => vec (cnt ns) (Tf i)), some (.int (cnt ns)), some (spD ns Tf i), some (vec (cnt ns) (Tf i)), some (.ref hp.length), x6, none, x8, none, none], hp ++ [.lst ((List.range j).map fun g => .int (Sq ns Tf i g))]⟩)
      (it_rng (by simp only [execSs, execS, evalE, evalEs, evalB, evalO, evalI, up_ok, Res.bind_ok, List.getElem?_cons_zero, List.getElem?_cons_succ, List.set_cons_zero, List.set_cons_succ, List.map_cons, List.map_nil, List.cons_append, List.nil_append, List.replicate_succ, List.replicate_zero, Nat.add_one_sub_one, Cn.d, if_true, wipe, bindT, bindTs, binD, addD, mulD, arD, mkL, mkT, Bool.false_eq_true, if_false, Nat.reduceSub, List.replicate, Option.bind_some] <;> rfl) (by omega)) ⟨x6, x8, rfl⟩ ?_ ?_
    · rintro j s hj ⟨x6, x8, rfl⟩
      refine ⟨_, rfl, ?_⟩
      have ed : ∃ d, evalE pg (callN pg (n + 1)) (.lc false (.bin .add false (.idx (.var 3) (.var 10)) (.call 8 [(.var 0), (.var 10), (.var 6)])) (.nm 10) (.rng1 (.var 2)) (some (.isn true (.idx (.var 3) (.var 10)))) [10])
          [some (costD ns), some (tab (m + 1) fun i => vec (cnt ns) (Tf i)), some (.int (cnt ns)), some (spD ns Tf i), some (vec (cnt ns) (Tf i)), some (.ref hp.length), some (.int (j : Int)), none, x8, none, none] (hp ++ [.lst ((List.range j).map fun g => .int (Sq ns Tf i g))]) = .ok d (hp ++ [.lst ((List.range j).map fun g => .int (Sq ns Tf i g))]) ∧
          ∀ m : Mm, ∃ z, bltD .min1 false [d] m = .ok (.int z) m ∧ z + Tf i j = Sq ns Tf i j := by
        cases i with
        | zero =>
          refine ⟨_, lc_flt (G := fun x => if x = stt ns then some (.int (0 + goZ ns x j)) else none) (it_rng (n := cnt ns) (by simp only [execSs, execS, evalE, evalEs, evalB, evalO, evalI, up_ok, Res.bind_ok, List.getElem?_cons_zero, List.getElem?_cons_succ, List.set_cons_zero, List.set_cons_succ, List.map_cons, List.map_nil, List.cons_append, List.nil_append, List.replicate_succ, List.replicate_zero, Nat.add_one_sub_one, Cn.d, if_true, wipe, bindT, bindTs, binD, addD, mulD, arD, mkL, mkT, Bool.false_eq_true, if_false, Nat.reduceSub, List.replicate, Option.bind_some] <;> rfl) (by omega)) (by omega) fun x hx => ⟨_, rfl, ?_⟩, fun m => ?_⟩
          · by_cases q : x = stt ns
            · subst q
              have e0 : ∀ m : Mm, idxD m (tab (cnt ns) fun k => if k = stt ns then .int 0 else .non) (.int (stt ns : Int)) = some (.int 0) := fun m => by rw [idx_tab hs, if_pos rfl]
              exact ⟨.bl true, by simp only [execSs, execS, evalE, evalEs, evalB, evalO, evalI, up_ok, Res.bind_ok, List.getElem?_cons_zero, List.getElem?_cons_succ, List.set_cons_zero, List.set_cons_succ, List.map_cons, List.map_nil, List.cons_append, List.nil_append, List.replicate_succ, List.replicate_zero, Nat.add_one_sub_one, Cn.d, if_true, wipe, bindT, bindTs, binD, addD, mulD, arD, mkL, mkT, Bool.false_eq_true, if_false, Nat.reduceSub, List.replicate, Option.bind_some, spD, e0] <;> rfl, .inl ⟨rfl, .int (0 + goZ ns (stt ns) j), by simp only [execSs, execS, evalE, evalEs, evalB, evalO, evalI, up_ok, Res.bind_ok, List.getElem?_cons_zero, List.getElem?_cons_succ, List.set_cons_zero, List.set_cons_succ, List.map_cons, List.map_nil, List.cons_append, List.nil_append, List.replicate_succ, List.replicate_zero, Nat.add_one_sub_one, Cn.d, if_true, wipe, bindT, bindTs, binD, addD, mulD, arD, mkL, mkT, Bool.false_eq_true, if_false, Nat.reduceSub, List.replicate, Option.bind_some, spD, e0, lgo_ok hs hj n] <;> rfl, if_pos rfl⟩⟩
            · refine ⟨.bl false, by simp only [execSs, execS, evalE, evalEs, evalB, evalO, evalI, up_ok, Res.bind_ok, List.getElem?_cons_zero, List.getElem?_cons_succ, List.set_cons_zero, List.set_cons_succ, List.map_cons, List.map_nil, List.cons_append, List.nil_append, List.replicate_succ, List.replicate_zero, Nat.add_one_sub_one, Cn.d, if_true, wipe, bindT, bindTs, binD, addD, mulD, arD, mkL, mkT, Bool.false_eq_true, if_false, Nat.reduceSub, List.replicate, Option.bind_some, spD, idx_tab hx, if_neg q] <;> rfl, .inr ⟨rfl, if_neg q⟩⟩
          · rw [flt_one (G := fun x => .int (0 + goZ ns x j)) hs]
            exact ⟨_, rfl, rfl⟩
        | succ i =>
          refine ⟨_, lc_flt (G := fun x => some (.int (Sq ns Tf i x + goZ ns x j))) (it_rng (n := cnt ns) (by simp only [execSs, execS, evalE, evalEs, evalB, evalO, evalI, up_ok, Res.bind_ok, List.getElem?_cons_zero, List.getElem?_cons_succ, List.set_cons_zero, List.set_cons_succ, List.map_cons, List.map_nil, List.cons_append, List.nil_append, List.replicate_succ, List.replicate_zero, Nat.add_one_sub_one, Cn.d, if_true, wipe, bindT, bindTs, binD, addD, mulD, arD, mkL, mkT, Bool.false_eq_true, if_false, Nat.reduceSub, List.replicate, Option.bind_some] <;> rfl) (by omega)) (by omega) fun x hx => ⟨_, rfl, ?_⟩, fun m => ?_⟩
          · exact ⟨.bl true, by simp only [execSs, execS, evalE, evalEs, evalB, evalO, evalI, up_ok, Res.bind_ok, List.getElem?_cons_zero, List.getElem?_cons_succ, List.set_cons_zero, List.set_cons_succ, List.map_cons, List.map_nil, List.cons_append, List.nil_append, List.replicate_succ, List.replicate_zero, Nat.add_one_sub_one, Cn.d, if_true, wipe, bindT, bindTs, binD, addD, mulD, arD, mkL, mkT, Bool.false_eq_true, if_false, Nat.reduceSub, List.replicate, Option.bind_some, spD, idx_tab hx] <;> rfl, .inl ⟨rfl, _, by simp only [execSs, execS, evalE, evalEs, evalB, evalO, evalI, up_ok, Res.bind_ok, List.getElem?_cons_zero, List.getElem?_cons_succ, List.set_cons_zero, List.set_cons_succ, List.map_cons, List.map_nil, List.cons_append, List.nil_append, List.replicate_succ, List.replicate_zero, Nat.add_one_sub_one, Cn.d, if_true, wipe, bindT, bindTs, binD, addD, mulD, arD, mkL, mkT, Bool.false_eq_true, if_false, Nat.reduceSub, List.replicate, Option.bind_some, spD, idx_tab hx, lgo_ok hx hj n] <;> rfl, rfl⟩⟩
          · rw [flt_all]
            exact ⟨_, min1_vec hc, rfl⟩
      obtain ⟨d, ed, eq⟩ := ed
      obtain ⟨z, ez, e2⟩ := eq (hp ++ [.lst ((List.range j).map fun g => .int (Sq ns Tf i g))])
      refine wp_set ed ?_
      simp only [execSs, execS, evalE, evalEs, evalB, evalO, evalI, up_ok, Res.bind_ok, List.getElem?_cons_zero, List.getElem?_cons_succ, List.set_cons_zero, List.set_cons_succ, List.map_cons, List.map_nil, List.cons_append, List.nil_append, List.replicate_succ, List.replicate_zero, Nat.add_one_sub_one, Cn.d, if_true, wipe, bindT, bindTs, binD, addD, mulD, arD, mkL, mkT, Bool.false_eq_true, if_false, Nat.reduceSub, List.replicate, Option.bind_some]
      refine wp_ex (ev_app (n := hp.length) (m := j) (F := fun g => .int (Sq ns Tf i g)) (by simp only [execSs, execS, evalE, evalEs, evalB, evalO, evalI, up_ok, Res.bind_ok, List.getElem?_cons_zero, List.getElem?_cons_succ, List.set_cons_zero, List.set_cons_succ, List.map_cons, List.map_nil, List.cons_append, List.nil_append, List.replicate_succ, List.replicate_zero, Nat.add_one_sub_one, Cn.d, if_true, wipe, bindT, bindTs, binD, addD, mulD, arD, mkL, mkT, Bool.false_eq_true, if_false, Nat.reduceSub, List.replicate, Option.bind_some] <;> rfl) (get_last _ _) (by simp only [execSs, execS, evalE, evalEs, evalB, evalO, evalI, up_ok, Res.bind_ok, List.getElem?_cons_zero, List.getElem?_cons_succ, List.set_cons_zero, List.set_cons_succ, List.map_cons, List.map_nil, List.cons_append, List.nil_append, List.replicate_succ, List.replicate_zero, Nat.add_one_sub_one, Cn.d, if_true, wipe, bindT, bindTs, binD, addD, mulD, arD, mkL, mkT, Bool.false_eq_true, if_false, Nat.reduceSub, List.replicate, Option.bind_some, ez, idx_tab hj, e2] <;> rfl) (get_last _ _) (by omega)) ?_
      rw [set_last]
      exact wp_nil ⟨.inl rfl, _, _, rfl⟩
    rintro s ⟨x6, x8, rfl⟩
    refine wp_frzv rfl (frz_ref (get_last _ _) (nrs_map fun k _ => by simp only [nr])) ?_
    refine wp_set (d := vec (cnt ns) (Sq ns Tf i)) (by simp only [execSs, execS, evalE, evalEs, evalB, evalO, evalI, up_ok, Res.bind_ok, List.getElem?_cons_zero, List.getElem?_cons_succ, List.set_cons_zero, List.set_cons_succ, List.map_cons, List.map_nil, List.cons_append, List.nil_append, List.replicate_succ, List.replicate_zero, Nat.add_one_sub_one, Cn.d, if_true, wipe, bindT, bindTs, binD, addD, mulD, arD, mkL, mkT, Bool.false_eq_true, if_false, Nat.reduceSub, List.replicate, Option.bind_some] <;> rfl) ?_
    simp only [execSs, execS, evalE, evalEs, evalB, evalO, evalI, up_ok, Res.bind_ok, List.getElem?_cons_zero, List.getElem?_cons_succ, List.set_cons_zero, List.set_cons_succ, List.map_cons, List.map_nil, List.cons_append, List.nil_append, List.replicate_succ, List.replicate_zero, Nat.add_one_sub_one, Cn.d, if_true, wipe, bindT, bindTs, binD, addD, mulD, arD, mkL, mkT, Bool.false_eq_true, if_false, Nat.reduceSub, List.replicate, Option.bind_some]
    exact wp_nil ⟨.inl rfl, _, _, _, _, _, rfl⟩
  rintro s ⟨x4, x5, x6, x8, hp, rfl⟩
  refine wp_ret (ev_blt1 (d := vec (cnt ns) (Sq ns Tf m)) (h1 := hp) (by
    have e := lc_flt (p := pg) (c := callN pg (n + 1)) (elt := .var 9) (k := .isn true (.var 9)) (g := .nm 9) (own := [9]) (it := .seq (.var 3)) (sl := [some (costD ns), some (tab (m + 1) fun i => vec (cnt ns) (Tf i)), some (.int (cnt ns)), some (spD ns Tf (m + 1)), x4, x5, x6, none, x8, none, none]) (h := hp) (h1 := hp) (n := cnt ns) (F := fun x => .int (Sq ns Tf m x)) (G := fun x => some (.int (Sq ns Tf m x)))
      (it_tab (by simp only [execSs, execS, evalE, evalEs, evalB, evalO, evalI, up_ok, Res.bind_ok, List.getElem?_cons_zero, List.getElem?_cons_succ, List.set_cons_zero, List.set_cons_succ, List.map_cons, List.map_nil, List.cons_append, List.nil_append, List.replicate_succ, List.replicate_zero, Nat.add_one_sub_one, Cn.d, if_true, wipe, bindT, bindTs, binD, addD, mulD, arD, mkL, mkT, Bool.false_eq_true, if_false, Nat.reduceSub, List.replicate, Option.bind_some] <;> rfl)) (by omega) fun x hx => ⟨_, rfl, .bl true, by simp only [execSs, execS, evalE, evalEs, evalB, evalO, evalI, up_ok, Res.bind_ok, List.getElem?_cons_zero, List.getElem?_cons_succ, List.set_cons_zero, List.set_cons_succ, List.map_cons, List.map_nil, List.cons_append, List.nil_append, List.replicate_succ, List.replicate_zero, Nat.add_one_sub_one, Cn.d, if_true, wipe, bindT, bindTs, binD, addD, mulD, arD, mkL, mkT, Bool.false_eq_true, if_false, Nat.reduceSub, List.replicate, Option.bind_some] <;> rfl, .inl ⟨rfl, _, by simp only [execSs, execS, evalE, evalEs, evalB, evalO, evalI, up_ok, Res.bind_ok, List.getElem?_cons_zero, List.getElem?_cons_succ, List.set_cons_zero, List.set_cons_succ, List.map_cons, List.map_nil, List.cons_append, List.nil_append, List.replicate_succ, List.replicate_zero, Nat.add_one_sub_one, Cn.d, if_true, wipe, bindT, bindTs, binD, addD, mulD, arD, mkL, mkT, Bool.false_eq_true, if_false, Nat.reduceSub, List.replicate, Option.bind_some] <;> rfl, rfl⟩⟩
    rw [flt_all] at e
    exact e) (min1_vec hc)) ⟨_, rfl, rfl⟩
end K45
namespace K45
open PySem R
/-! ### the mathematics -/
theorem bit_term {s a b : Int} (hs : 0 ≤ s) (ha : a = 0 ∨ a = 1) (hb : b = 0 ∨ b = 1) : ∃ u, s * absI (a - b) + s * b - s * a = 2 * u ∧ 0 ≤ u := by
  rcases ha with rfl | rfl <;> rcases hb with rfl | rfl
  · exact ⟨0, by simp [absI], Int.le_refl _⟩
  · exact ⟨s, by simp [absI]; omega, hs⟩
  · exact ⟨0, by simp [absI], Int.le_refl _⟩
  · exact ⟨0, by simp [absI], Int.le_refl _⟩
theorem sz_nonneg (ns : List Int) (k : Nat) : 0 ≤ szZ ns k := by
  unfold szZ
  have := Int.emod_nonneg (drawZ ns (1 + k)) (by decide : (30 : Int) ≠ 0)
  omega
theorem go_two (ns : List Int) (x y : Nat) : 2 * goZ ns x y = wyZ ns x y + stZ ns y - stZ ns x ∧ 0 ≤ goZ ns x y := by
  obtain ⟨u0, e0, p0⟩ := bit_term (sz_nonneg ns 0) (bit_01 (drawZ ns (6 + x)) 0) (bit_01 (drawZ ns (6 + y)) 0)
  obtain ⟨u1, e1, p1⟩ := bit_term (sz_nonneg ns 1) (bit_01 (drawZ ns (6 + x)) 1) (bit_01 (drawZ ns (6 + y)) 1)
  obtain ⟨u2, e2, p2⟩ := bit_term (sz_nonneg ns 2) (bit_01 (drawZ ns (6 + x)) 2) (bit_01 (drawZ ns (6 + y)) 2)
  obtain ⟨u3, e3, p3⟩ := bit_term (sz_nonneg ns 3) (bit_01 (drawZ ns (6 + x)) 3) (bit_01 (drawZ ns (6 + y)) 3)
  have e : wyZ ns x y + stZ ns y - stZ ns x = 2 * (u0 + u1 + u2 + u3) := by
    unfold wyZ stZ bt
    omega
  have g : goZ ns x y = u0 + u1 + u2 + u3 := by
    unfold goZ
    rw [e]
    omega
  omega
theorem wy_self (ns : List Int) (x : Nat) : wyZ ns x x = 0 := by
  unfold wyZ
  simp [absI]
theorem absI_sym (a b : Int) : absI (a - b) = absI (b - a) := by
  unfold absI
  split <;> split <;> omega
theorem wy_sym (ns : List Int) (x y : Nat) : wyZ ns x y = wyZ ns y x := by
  unfold wyZ
  rw [absI_sym (bt ns x 0), absI_sym (bt ns x 1), absI_sym (bt ns x 2), absI_sym (bt ns x 3)]
theorem tri_term {s : Int} (hs : 0 ≤ s) (a b c : Int) : s * absI (a - c) ≤ s * absI (a - b) + s * absI (b - c) := by
  rw [← Int.mul_add]
  refine Int.mul_le_mul_of_nonneg_left ?_ hs
  unfold absI
  split <;> split <;> split <;> omega
theorem wy_tri (ns : List Int) (x y z : Nat) : wyZ ns x z ≤ wyZ ns x y + wyZ ns y z := by
  have h0 := tri_term (sz_nonneg ns 0) (bt ns x 0) (bt ns y 0) (bt ns z 0)
  have h1 := tri_term (sz_nonneg ns 1) (bt ns x 1) (bt ns y 1) (bt ns z 1)
  have h2 := tri_term (sz_nonneg ns 2) (bt ns x 2) (bt ns y 2) (bt ns z 2)
  have h3 := tri_term (sz_nonneg ns 3) (bt ns x 3) (bt ns y 3) (bt ns z 3)
  unfold wyZ
  omega
theorem absI_nonneg (a : Int) : 0 ≤ absI a := by
  unfold absI
  split <;> omega
theorem wy_nonneg (ns : List Int) (x y : Nat) : 0 ≤ wyZ ns x y := by
  have h0 := Int.mul_nonneg (sz_nonneg ns 0) (absI_nonneg (bt ns x 0 - bt ns y 0))
  have h1 := Int.mul_nonneg (sz_nonneg ns 1) (absI_nonneg (bt ns x 1 - bt ns y 1))
  have h2 := Int.mul_nonneg (sz_nonneg ns 2) (absI_nonneg (bt ns x 2 - bt ns y 2))
  have h3 := Int.mul_nonneg (sz_nonneg ns 3) (absI_nonneg (bt ns x 3 - bt ns y 3))
  unfold wyZ
  omega
theorem bt_nonneg (ns : List Int) (i k : Nat) : 0 ≤ bt ns i k := by
  have h : bt ns i k = 0 ∨ bt ns i k = 1 := bit_01 _ _
  omega
theorem st_nonneg (ns : List Int) (x : Nat) : 0 ≤ stZ ns x := by
  have h0 := Int.mul_nonneg (sz_nonneg ns 0) (bt_nonneg ns x 0)
  have h1 := Int.mul_nonneg (sz_nonneg ns 1) (bt_nonneg ns x 1)
  have h2 := Int.mul_nonneg (sz_nonneg ns 2) (bt_nonneg ns x 2)
  have h3 := Int.mul_nonneg (sz_nonneg ns 3) (bt_nonneg ns x 3)
  unfold stZ
  omega
theorem mn_lin {c : Nat} {f h : Nat → Int} {z : Int} (hc : 0 < c) (e : ∀ k, k < c → 2 * f k = h k + z) : 2 * mn c f = mn c h + z := by
  obtain ⟨a, ha, ea⟩ := mn_at f hc
  obtain ⟨b, hb, eb⟩ := mn_at h hc
  have h1 := mn_le (f := f) hb
  have h2 := mn_le (f := h) ha
  have h3 := e a ha
  have h4 := e b hb
  omega
noncomputable def ends (ns : List Int) (Tf : Nat → Nat → Int) (m : Nat) : Nat → Int := fun x => Wf ns Tf m x + stZ ns x
section
variable {ns : List Int} {Tf : Nat → Nat → Int}
theorem Wf_succ (i g : Nat) : Wf ns Tf (i + 1) g = mn (cnt ns) fun x => Wf ns Tf i x + 2 * Tf i x + wyZ ns x g := rfl
theorem Sq_two : ∀ (i g : Nat), 2 * Sq ns Tf i g = Wf ns Tf i g + 2 * Tf i g + stZ ns g - stZ ns (stt ns)
  | 0, g => by
    have := (go_two ns (stt ns) g).1
    show 2 * (0 + goZ ns (stt ns) g + Tf 0 g) = wyZ ns (stt ns) g + 2 * Tf 0 g + stZ ns g - stZ ns (stt ns)
    omega
  | i + 1, g => by
    have e : 2 * mn (cnt ns) (fun x => Sq ns Tf i x + goZ ns x g) = mn (cnt ns) (fun x => Wf ns Tf i x + 2 * Tf i x + wyZ ns x g) + (stZ ns g - stZ ns (stt ns)) := mn_lin (cnt_pos ns) fun x _ => by
      have a := Sq_two i x
      have b := (go_two ns x g).1
      omega
    show 2 * (mn (cnt ns) (fun x => Sq ns Tf i x + goZ ns x g) + Tf (i + 1) g) = _
    rw [Wf_succ]
    omega
theorem ends_succ (m : Nat) : mn (cnt ns) (ends ns Tf (m + 1)) = 2 * mn (cnt ns) (Sq ns Tf m) + stZ ns (stt ns) := by
  have hc := cnt_pos ns
  obtain ⟨y, hy, ey⟩ := mn_at (Sq ns Tf m) hc
  have up : ends ns Tf (m + 1) y ≤ 2 * mn (cnt ns) (Sq ns Tf m) + stZ ns (stt ns) := by
    have a := mn_le (f := fun x => Wf ns Tf m x + 2 * Tf m x + wyZ ns x y) hy
    have b := Sq_two (ns := ns) (Tf := Tf) m y
    have d := wy_self ns y
    show Wf ns Tf (m + 1) y + stZ ns y ≤ _
    rw [Wf_succ]
    omega
  have lo : ∀ x, x < cnt ns → 2 * mn (cnt ns) (Sq ns Tf m) + stZ ns (stt ns) ≤ ends ns Tf (m + 1) x := by
    intro x hx
    obtain ⟨z, hz, ez⟩ := mn_at (fun y => Wf ns Tf m y + 2 * Tf m y + wyZ ns y x) hc
    have a := mn_le (f := Sq ns Tf m) hz
    have b := Sq_two (ns := ns) (Tf := Tf) m z
    have d := go_two ns z x
    show _ ≤ Wf ns Tf (m + 1) x + stZ ns x
    rw [Wf_succ, ← ez]
    omega
  exact mn_eq lo hy (Int.le_antisymm up (lo y hy))
/-- works do not differ by more than the way -/
theorem Wf_lip : ∀ (k x y : Nat), Wf ns Tf k x ≤ Wf ns Tf k y + wyZ ns y x
  | 0, x, y => wy_tri ns (stt ns) y x
  | k + 1, x, y => by
    obtain ⟨z, hz, ez⟩ := mn_at (fun u => Wf ns Tf k u + 2 * Tf k u + wyZ ns u y) (cnt_pos ns)
    have a := mn_le (f := fun u => Wf ns Tf k u + 2 * Tf k u + wyZ ns u x) hz
    have t := wy_tri ns z y x
    rw [Wf_succ, Wf_succ, ← ez]
    omega
/-- works grow -/
theorem Wf_grow {k : Nat} (h : ∀ x, x < cnt ns → 0 ≤ Tf k x) (x : Nat) : Wf ns Tf k x ≤ Wf ns Tf (k + 1) x := by
  obtain ⟨z, hz, ez⟩ := mn_at (fun u => Wf ns Tf k u + 2 * Tf k u + wyZ ns u x) (cnt_pos ns)
  have l := Wf_lip (ns := ns) (Tf := Tf) k x z
  have t := h z hz
  rw [Wf_succ, ← ez]
  omega
end
/-! ### sums -/
def sumR : Nat → (Nat → Int) → Int
  | 0, _ => 0
  | n + 1, f => sumR n f + f n
theorem sumR_nonneg {f : Nat → Int} : ∀ {n : Nat}, (∀ x, x < n → 0 ≤ f x) → 0 ≤ sumR n f
  | 0, _ => Int.le_refl _
  | n + 1, h => by
    have a := sumR_nonneg (n := n) fun x hx => h x (by omega)
    have b := h n (by omega)
    show 0 ≤ sumR n f + f n
    omega
theorem sumR_ge {f : Nat → Int} {k : Nat} : ∀ {n : Nat}, (∀ x, x < n → 0 ≤ f x) → k < n → f k ≤ sumR n f
  | 0, _, h => absurd h (Nat.not_lt_zero _)
  | n + 1, h, hk => by
    show f k ≤ sumR n f + f n
    have b := h n (by omega)
    by_cases q : k = n
    · subst q
      have a := sumR_nonneg (n := k) (f := f) fun x hx => h x (by omega)
      omega
    · have a := sumR_ge (n := n) (k := k) (f := f) (fun x hx => h x (by omega)) (by omega)
      omega
theorem sumR_sub {f g : Nat → Int} : ∀ n : Nat, sumR n (fun x => f x - g x) = sumR n f - sumR n g
  | 0 => rfl
  | n + 1 => by
    have a := sumR_sub (f := f) (g := g) n
    show sumR n (fun x => f x - g x) + (f n - g n) = sumR n f + f n - (sumR n g + g n)
    omega
theorem sumR_add {f g : Nat → Int} : ∀ n : Nat, sumR n (fun x => f x + g x) = sumR n f + sumR n g
  | 0 => rfl
  | n + 1 => by
    have a := sumR_add (f := f) (g := g) n
    show sumR n (fun x => f x + g x) + (f n + g n) = sumR n f + f n + (sumR n g + g n)
    omega
theorem sumR_const (z : Int) : ∀ n : Nat, sumR n (fun _ => z) = (n : Int) * z
  | 0 => by simp [sumR]
  | n + 1 => by
    show sumR n (fun _ => z) + z = _
    rw [sumR_const z n, Int.natCast_add, Int.add_mul]
    simp
/-- one of them is nothing, the others at most D -/
theorem sumR_le {f : Nat → Int} {D : Int} {k : Nat} (hD : 0 ≤ D) (hf : ∀ x, f x ≤ D) (hk : f k ≤ 0) : ∀ {n : Nat}, k < n → sumR n f ≤ ((n : Int) - 1) * D
  | 0, h => absurd h (Nat.not_lt_zero _)
  | n + 1, h => by
    have up : ∀ n : Nat, sumR n f ≤ (n : Int) * D := by
      intro n
      induction n with
      | zero => simp [sumR]
      | succ n ih =>
        have := hf n
        show sumR n f + f n ≤ _
        rw [Int.natCast_add, Int.add_mul]
        simp
        omega
    show sumR n f + f n ≤ (((n + 1 : Nat) : Int) - 1) * D
    have e : (((n + 1 : Nat) : Int) - 1) = (n : Int) := by omega
    rw [e]
    by_cases q : k = n
    · subst q
      have := up k
      omega
    · have a := sumR_le (n := n) hD hf hk (by omega)
      have b := hf n
      rw [Int.sub_mul] at a
      omega
/-! ### never far -/
/-- what holds of the policy as long as it runs -/
def Far (ns : List Int) (Tf : Nat → Nat → Int) (k now : Nat) (spent : Int) : Prop :=
  2 * spent + stZ ns (stt ns) - stZ ns now ≤ 2 * (sumR (cnt ns) (Wf ns Tf k) - sumR (cnt ns) (Wf ns Tf 0)) - Wf ns Tf k now
variable {ns : List Int} {Tf : Nat → Nat → Int}
theorem far_zero : Far ns Tf 0 (stt ns) 0 := by
  unfold Far
  have : Wf ns Tf 0 (stt ns) = 0 := wy_self ns (stt ns)
  omega
theorem far_step {k now g : Nat} {spent : Int} (h0 : ∀ x, x < cnt ns → 0 ≤ Tf k x) (hn : now < cnt ns) (hg : g < cnt ns) (h : Far ns Tf k now spent) (e : Wf ns Tf k g + 2 * Tf k g + wyZ ns g now = Wf ns Tf (k + 1) now) :
    Far ns Tf (k + 1) g (spent + (goZ ns now g + Tf k g)) := by
  unfold Far at h ⊢
  have go := (go_two ns now g).1
  have sy := wy_sym ns now g
  have pos : ∀ x, x < cnt ns → 0 ≤ Wf ns Tf (k + 1) x - Wf ns Tf k x := fun x _ => by
    have := Wf_grow h0 x
    omega
  have a := sumR_ge pos hn
  have b := sumR_ge pos hg
  rw [sumR_sub] at a b
  omega
theorem far_end {m now : Nat} {spent MS MD : Int} (hn : now < cnt ns) (h : Far ns Tf (m + 1) now spent) (hS : ∀ x, x < cnt ns → stZ ns x ≤ MS) (hD : ∀ x y, x < cnt ns → y < cnt ns → wyZ ns x y ≤ MD) :
    spent ≤ (2 * (cnt ns : Int) - 1) * mn (cnt ns) (Sq ns Tf m) + ((cnt ns : Int) * MS + ((cnt ns : Int) - 1) * MD) := by
  have hc := cnt_pos ns
  have h5 := cnt_le ns
  unfold Far at h
  obtain ⟨y, hy, ey⟩ := mn_at (ends ns Tf (m + 1)) hc
  rw [ends_succ] at ey
  have ey : Wf ns Tf (m + 1) y + stZ ns y = _ := ey
  -- what lies between the work at y and the works
  have pos : ∀ x, x < cnt ns → 0 ≤ (Wf ns Tf (m + 1) y + wyZ ns y x) - Wf ns Tf (m + 1) x := fun x _ => by
    have := Wf_lip (ns := ns) (Tf := Tf) (m + 1) x y
    omega
  have e1 := sumR_ge pos hn
  have e2 := sumR_nonneg pos
  rw [sumR_sub, sumR_add, sumR_const] at e1 e2
  have w0 : 0 ≤ sumR (cnt ns) (Wf ns Tf 0) := sumR_nonneg fun x _ => wy_nonneg ns (stt ns) x
  have s1 := hS now hn
  have s2 := hS (stt ns) (stt_lt ns)
  have s3 := st_nonneg ns y
  have s4 := wy_nonneg ns y now
  have s5 := st_nonneg ns (stt ns)
  have d0 : 0 ≤ MD := by
    have := hD y y hy hy
    rw [wy_self] at this
    exact this
  have d1 : sumR (cnt ns) (fun x => if x < cnt ns then wyZ ns y x else 0) ≤ ((cnt ns : Int) - 1) * MD := sumR_le (k := y) d0 (fun x => by
    split
    · exact hD y x hy (by assumption)
    · exact d0) (by
    rw [if_pos hy, wy_self]
    exact Int.le_refl _) hy
  have d2 : ∀ n, n ≤ cnt ns → sumR n (fun x => if x < cnt ns then wyZ ns y x else 0) = sumR n (fun x => wyZ ns y x) := by
    intro n
    induction n with
    | zero => intro _; rfl
    | succ n ih =>
      intro hn
      show sumR n _ + (if n < cnt ns then wyZ ns y n else 0) = sumR n _ + wyZ ns y n
      rw [ih (by omega), if_pos (by omega)]
  rw [d2 _ (Nat.le_refl _)] at d1
  have d1 : sumR (cnt ns) (wyZ ns y) ≤ ((cnt ns : Int) - 1) * MD := d1
  have e1 : Wf ns Tf (m + 1) y + wyZ ns y now - Wf ns Tf (m + 1) now ≤ (cnt ns : Int) * Wf ns Tf (m + 1) y + sumR (cnt ns) (wyZ ns y) - sumR (cnt ns) (Wf ns Tf (m + 1)) := e1
  have e2 : 0 ≤ (cnt ns : Int) * Wf ns Tf (m + 1) y + sumR (cnt ns) (wyZ ns y) - sumR (cnt ns) (Wf ns Tf (m + 1)) := e2
  generalize cnt ns = c at *
  have : c = 1 ∨ c = 2 ∨ c = 3 ∨ c = 4 ∨ c = 5 := by omega
  rcases this with rfl | rfl | rfl | rfl | rfl <;> omega
end K45
namespace K45
open PySem R
/-! ### greatest ones -/
theorem maxI_ge : ∀ {xs : List Int} {x : Int}, x ∈ xs → x ≤ maxI xs
  | [], _, h => by cases h
  | [y], x, h => by
    rw [List.mem_singleton] at h
    subst h
    exact Int.le_refl _
  | y :: z :: r, x, h => by
    show x ≤ max y (maxI (z :: r))
    rcases List.mem_cons.mp h with h | h
    · subst h; exact Int.le_max_left _ _
    · exact Int.le_trans (maxI_ge h) (Int.le_max_right _ _)
def mx (c : Nat) (f : Nat → Int) : Int := maxI ((List.range c).map f)
theorem mx_ge {c k : Nat} {f : Nat → Int} (h : k < c) : f k ≤ mx c f := maxI_ge (List.mem_map.mpr ⟨k, List.mem_range.mpr h, rfl⟩)
theorem max1_vec {m : Mm} {c : Nat} {f : Nat → Int} {o : Bool} (h : 0 < c) : bltD .max1 o [vec c f] m = .ok (.int (mx c f)) m := by
  have e := intsOf_map f (List.range c)
  simp only [bltD, tab, lstOf, e, List.length_map, List.length_range]
  rw [if_neg (by omega)]; rfl
/-! ### tasks that hang on what was done -/
theorem Wf_congr {ns : List Int} {T U : Nat → Nat → Int} : ∀ {k : Nat}, (∀ i, i < k → T i = U i) → ∀ i, i ≤ k → Wf ns T i = Wf ns U i
  | k, h, 0, _ => rfl
  | k, h, i + 1, hi => by
    show nw _ _ (Wf ns T i) (T i) = nw _ _ (Wf ns U i) (U i)
    rw [Wf_congr h i (by omega), h i (by omega)]
theorem Tsk_congr {ns : List Int} {T U : Nat → Nat → Int} {k : Nat} (h : ∀ i, i < k → T i = U i) : Tsk ns T k = Tsk ns U k :=
  List.map_congr_left fun i hi => by rw [h i (List.mem_range.mp hi)]
theorem Wsk_congr {ns : List Int} {T U : Nat → Nat → Int} {k : Nat} (h : ∀ i, i < k → T i = U i) : Wsk ns T k = Wsk ns U k :=
  List.map_congr_left fun i hi => by rw [Wf_congr h i (by have := List.mem_range.mp hi; omega)]
/-- the task that is at hand -/
def Tk (c : Nat) (tl : Mm) (d : D) (t : Nat → Int) : Prop := d = vec c t ∨ ∃ r, d = .ref (r + 4) ∧ tl[r]? = some (.lst ((List.range c).map fun x => .int (t x)))
theorem list_tk {c : Nat} {tl : Mm} {d : D} {t : Nat → Int} (hc : c ≤ 5) (h : Tk c tl d t) (o0 o1 o2 o3 : O) : bltD .list_ false [d] (o0 :: o1 :: o2 :: o3 :: tl) = .ok (vec c t) (o0 :: o1 :: o2 :: o3 :: tl) := by
  rcases h with rfl | ⟨r, rfl, e⟩
  · exact list_tab (by omega)
  · have e4 : (o0 :: o1 :: o2 :: o3 :: tl)[r + 4]? = some (.lst ((List.range c).map fun x => .int (t x))) := e
    simp only [bltD, seqOf, lstOf, e4, mkL, List.length_map, List.length_range, szOk_of (show c ≤ 16777216 by omega), if_true, Bool.false_eq_true, if_false]
    rfl
theorem tk_nonneg (z : Int) (k : Nat) : 0 ≤ tkZ z k := by
  unfold tkZ
  split
  · exact Int.emod_nonneg _ (by decide)
  · exact Int.emod_nonneg _ (by decide)
theorem law_runs : LawR pg 8 10 := by
  intro ns hl
  refine ⟨[], ?_⟩
  refine call_run (fd := d_law) rfl rfl rfl (by simp only [nrs, nr, nrs_ints, Bool.and_self]) ?_
  have hc := cnt_pos ns
  have h5 := cnt_le ns
  have hs := stt_lt ns
  have N : ∃ M : Nat, M ≤ 60 ∧ (if ((ns.length : Nat) : Int) < 60 then ((ns.length : Nat) : Int) else 60) = (M : Int) := by
    by_cases q : ns.length < 60
    · exact ⟨ns.length, by omega, if_pos (by omega)⟩
    · exact ⟨60, Nat.le_refl _, if_neg (by omega)⟩
  obtain ⟨M, hM, eM⟩ := N
  have dr : ∀ (k : Nat) h, callN pg 7 5 [.scr (ns.map .int), .int (20 + (k : Int))] h = .ok (.int (drawZ ns (20 + k))) h := fun k h => by
    have := draw_ok hl (20 + k) 6 h
    rwa [Int.natCast_add] at this
  have lsc : ∀ h : Mm, bltD .len false [.scr (ns.map .int)] h = .ok (.int (ns.length : Int)) h := fun h => by
    simp only [bltD, seqOf, lstOf, List.length_map]
  have mm : ∀ (i j : Int) (h : Mm), bltD .min2 false [.int i, .int j] h = .ok (.int (if j < i then j else i)) h := fun i j h => rfl
  have mu1 : ∀ j, mulOk (cnt ns : Int) j = true := fun j => mulOk_l (by omega)
  have mu2 : ∀ j, mulOk ((cnt ns : Int) - 1) j = true := fun j => mulOk_l (by omega)
  have mu3 : ∀ j, mulOk (2 * (cnt ns : Int) - 1) j = true := fun j => mulOk_l (by omega)
  let K : Int := (cnt ns : Int) * mx (cnt ns) (stZ ns) + ((cnt ns : Int) - 1) * mx (cnt ns) (fun i => mx (cnt ns) (wyZ ns i))
  show Wp pg (callN pg 7) _ ⟨[some (.scr (ns.map .int)), none, none, none, none, none, none, none, none, none, none], []⟩ _
  refine wp_set (d := costD ns) (by simp only [execSs, execS, evalE, evalEs, evalB, evalO, evalI, up_ok, Res.bind_ok, List.getElem?_cons_zero, List.getElem?_cons_succ, List.set_cons_zero, List.set_cons_succ, List.map_cons, List.map_nil, List.cons_append, List.nil_append, List.replicate_succ, List.replicate_zero, Nat.add_one_sub_one, Cn.d, if_true, wipe, bindT, bindTs, binD, addD, mulD, arD, mkL, mkT, Bool.false_eq_true, if_false, Nat.reduceSub, List.replicate, Option.bind_some, costs_ok hl 5] <;> rfl) ?_
  refine wp_set (d := .int (cnt ns)) (by simp only [execSs, execS, evalE, evalEs, evalB, evalO, evalI, up_ok, Res.bind_ok, List.getElem?_cons_zero, List.getElem?_cons_succ, List.set_cons_zero, List.set_cons_succ, List.map_cons, List.map_nil, List.cons_append, List.nil_append, List.replicate_succ, List.replicate_zero, Nat.add_one_sub_one, Cn.d, if_true, wipe, bindT, bindTs, binD, addD, mulD, arD, mkL, mkT, Bool.false_eq_true, if_false, Nat.reduceSub, List.replicate, Option.bind_some, ix1, len_tab] <;> rfl) ?_
  refine wp_set (d := .ref 0) (h1 := pmem ns (stt ns) 0 [] [vec (cnt ns) (wyZ ns (stt ns))] []) (by
    simp only [execSs, execS, evalE, evalEs, evalB, evalO, evalI, up_ok, Res.bind_ok, List.getElem?_cons_zero, List.getElem?_cons_succ, List.set_cons_zero, List.set_cons_succ, List.map_cons, List.map_nil, List.cons_append, List.nil_append, List.replicate_succ, List.replicate_zero, Nat.add_one_sub_one, Cn.d, if_true, wipe, bindT, bindTs, binD, addD, mulD, arD, mkL, mkT, Bool.false_eq_true, if_false, Nat.reduceSub, List.replicate, Option.bind_some, ix0, ix1, ix2, pc0, List.length_nil, init_ok 6] <;> rfl) ?_
  simp only [execSs, execS, evalE, evalEs, evalB, evalO, evalI, up_ok, Res.bind_ok, List.getElem?_cons_zero, List.getElem?_cons_succ, List.set_cons_zero, List.set_cons_succ, List.map_cons, List.map_nil, List.cons_append, List.nil_append, List.replicate_succ, List.replicate_zero, Nat.add_one_sub_one, Cn.d, if_true, wipe, bindT, bindTs, binD, addD, mulD, arD, mkL, mkT, Bool.false_eq_true, if_false, Nat.reduceSub, List.replicate, Option.bind_some]
  have emx : ∀ (h : Mm) sl, sl[1]? = some (some (costD ns)) → sl.length = 11 → evalE pg (callN pg 7) (.lc false (.blt .max1 false [(.var 10)]) (.nm 10) (.seq (.idx (.var 1) (.lit (.int 2)))) none [10]) sl h = .ok (vec (cnt ns) fun i => mx (cnt ns) (wyZ ns i)) h := fun h sl e1 e2 =>
    lc_tab (F := fun i => vec (cnt ns) (wyZ ns i)) (it_tab (by simp only [evalE, e1, Res.bind_ok, Cn.d, ix2] <;> rfl)) (by omega) fun x hx => ⟨_, rfl, by
      have e3 : ((R.wipe sl [10]).set 10 (some (vec (cnt ns) (wyZ ns x))))[10]? = some (some (vec (cnt ns) (wyZ ns x))) := by
        simp only [R.wipe]
        rw [List.getElem?_set_self (by rw [List.length_set, e2]; decide)]
      simp only [evalE, evalEs, e3, Res.bind_ok, max1_vec hc]⟩
  refine wp_set (d := .int K) (h1 := pmem ns (stt ns) 0 [] [vec (cnt ns) (wyZ ns (stt ns))] []) (ev_add (x := (cnt ns : Int) * mx (cnt ns) (stZ ns)) (y := ((cnt ns : Int) - 1) * mx (cnt ns) (fun i => mx (cnt ns) (wyZ ns i)))
    (by simp only [execSs, execS, evalE, evalEs, evalB, evalO, evalI, up_ok, Res.bind_ok, List.getElem?_cons_zero, List.getElem?_cons_succ, List.set_cons_zero, List.set_cons_succ, List.map_cons, List.map_nil, List.cons_append, List.nil_append, List.replicate_succ, List.replicate_zero, Nat.add_one_sub_one, Cn.d, if_true, wipe, bindT, bindTs, binD, addD, mulD, arD, mkL, mkT, Bool.false_eq_true, if_false, Nat.reduceSub, List.replicate, Option.bind_some, ix1, max1_vec hc, mu1] <;> rfl) (ev_mul (x := (cnt ns : Int) - 1) (by simp only [execSs, execS, evalE, evalEs, evalB, evalO, evalI, up_ok, Res.bind_ok, List.getElem?_cons_zero, List.getElem?_cons_succ, List.set_cons_zero, List.set_cons_succ, List.map_cons, List.map_nil, List.cons_append, List.nil_append, List.replicate_succ, List.replicate_zero, Nat.add_one_sub_one, Cn.d, if_true, wipe, bindT, bindTs, binD, addD, mulD, arD, mkL, mkT, Bool.false_eq_true, if_false, Nat.reduceSub, List.replicate, Option.bind_some] <;> rfl) (ev_blt1 (emx _ _ rfl rfl) (max1_vec hc)) (mu2 _))) ?_
  refine wp_set (d := .ref 3) (h1 := pmem ns (stt ns) 0 [] [vec (cnt ns) (wyZ ns (stt ns))] [.lst []]) (by
    simp only [execSs, execS, evalE, evalEs, evalB, evalO, evalI, up_ok, Res.bind_ok, List.getElem?_cons_zero, List.getElem?_cons_succ, List.set_cons_zero, List.set_cons_succ, List.map_cons, List.map_nil, List.cons_append, List.nil_append, List.replicate_succ, List.replicate_zero, Nat.add_one_sub_one, Cn.d, if_true, wipe, bindT, bindTs, binD, addD, mulD, arD, mkL, mkT, Bool.false_eq_true, if_false, Nat.reduceSub, List.replicate, Option.bind_some, List.length_nil, List.length_cons, show szOk 0 = true from rfl] <;> rfl) ?_
  refine wp_set (d := .ref 4) (h1 := pmem ns (stt ns) 0 [] [vec (cnt ns) (wyZ ns (stt ns))] [.lst [], .lst ((List.range (cnt ns)).map fun _ => .int 0)]) (lc_obj (h1 := pmem ns (stt ns) 0 [] [vec (cnt ns) (wyZ ns (stt ns))] [.lst []]) (it_rng (n := cnt ns) (by simp only [execSs, execS, evalE, evalEs, evalB, evalO, evalI, up_ok, Res.bind_ok, List.getElem?_cons_zero, List.getElem?_cons_succ, List.set_cons_zero, List.set_cons_succ, List.map_cons, List.map_nil, List.cons_append, List.nil_append, List.replicate_succ, List.replicate_zero, Nat.add_one_sub_one, Cn.d, if_true, wipe, bindT, bindTs, binD, addD, mulD, arD, mkL, mkT, Bool.false_eq_true, if_false, Nat.reduceSub, List.replicate, Option.bind_some] <;> rfl) (by omega)) (by omega) fun x hx => ⟨_, rfl, by simp only [execSs, execS, evalE, evalEs, evalB, evalO, evalI, up_ok, Res.bind_ok, List.getElem?_cons_zero, List.getElem?_cons_succ, List.set_cons_zero, List.set_cons_succ, List.map_cons, List.map_nil, List.cons_append, List.nil_append, List.replicate_succ, List.replicate_zero, Nat.add_one_sub_one, Cn.d, if_true, wipe, bindT, bindTs, binD, addD, mulD, arD, mkL, mkT, Bool.false_eq_true, if_false, Nat.reduceSub, List.replicate, Option.bind_some] <;> rfl⟩) ?_
  simp only [execSs, execS, evalE, evalEs, evalB, evalO, evalI, up_ok, Res.bind_ok, List.getElem?_cons_zero, List.getElem?_cons_succ, List.set_cons_zero, List.set_cons_succ, List.map_cons, List.map_nil, List.cons_append, List.nil_append, List.replicate_succ, List.replicate_zero, Nat.add_one_sub_one, Cn.d, if_true, wipe, bindT, bindTs, binD, addD, mulD, arD, mkL, mkT, Bool.false_eq_true, if_false, Nat.reduceSub, List.replicate, Option.bind_some]
  refine wp_for (n := M) (F := fun k => .int (k : Int)) (h1 := pmem ns (stt ns) 0 [] [vec (cnt ns) (wyZ ns (stt ns))] [.lst [], .lst ((List.range (cnt ns)).map fun _ => .int 0)])
    (fun k s => ∃ (d : D) (t : Nat → Int) (x7 x8 : Option D) (Tf : Nat → Nat → Int) (now : Nat) (spent : Int) (tl : Mm), (∀ x, x < cnt ns → 0 ≤ t x) ∧ Tk (cnt ns) tl d t ∧ now < cnt ns ∧ Far ns Tf k now spent ∧
      s = ⟨[some (.scr (ns.map .int)), some (costD ns), some (.int (cnt ns)), some (.ref 0), some (.int K), some (.ref 3), some d, x7, x8, none, none], pmem ns now spent (Tsk ns Tf k) (Wsk ns Tf k) (.lst (Tsk ns Tf k) :: tl)⟩)
    (it_rng (n := M) (by simp only [execSs, execS, evalE, evalEs, evalB, evalO, evalI, up_ok, Res.bind_ok, List.getElem?_cons_zero, List.getElem?_cons_succ, List.set_cons_zero, List.set_cons_succ, List.map_cons, List.map_nil, List.cons_append, List.nil_append, List.replicate_succ, List.replicate_zero, Nat.add_one_sub_one, Cn.d, if_true, wipe, bindT, bindTs, binD, addD, mulD, arD, mkL, mkT, Bool.false_eq_true, if_false, Nat.reduceSub, List.replicate, Option.bind_some, lsc, mm, eM] <;> rfl) (by omega)) ⟨.ref 4, fun _ => 0, none, none, fun _ _ => 0, stt ns, 0, [.lst ((List.range (cnt ns)).map fun _ => .int 0)], fun _ _ => Int.le_refl _, .inr ⟨0, rfl, rfl⟩, hs, far_zero, rfl⟩ ?_ ?_
  · rintro k s hk ⟨d, t, x7, x8, Tf, now, spent, tl, ht, hd, hn, hF, rfl⟩
    refine ⟨_, rfl, ?_⟩
    refine wp_set (d := .int (drawZ ns (20 + k))) (by simp only [execSs, execS, evalE, evalEs, evalB, evalO, evalI, up_ok, Res.bind_ok, List.getElem?_cons_zero, List.getElem?_cons_succ, List.set_cons_zero, List.set_cons_succ, List.map_cons, List.map_nil, List.cons_append, List.nil_append, List.replicate_succ, List.replicate_zero, Nat.add_one_sub_one, Cn.d, if_true, wipe, bindT, bindTs, binD, addD, mulD, arD, mkL, mkT, Bool.false_eq_true, if_false, Nat.reduceSub, List.replicate, Option.bind_some, dr] <;> rfl) ?_
    simp only [execSs, execS, evalE, evalEs, evalB, evalO, evalI, up_ok, Res.bind_ok, List.getElem?_cons_zero, List.getElem?_cons_succ, List.set_cons_zero, List.set_cons_succ, List.map_cons, List.map_nil, List.cons_append, List.nil_append, List.replicate_succ, List.replicate_zero, Nat.add_one_sub_one, Cn.d, if_true, wipe, bindT, bindTs, binD, addD, mulD, arD, mkL, mkT, Bool.false_eq_true, if_false, Nat.reduceSub, List.replicate, Option.bind_some]
    -- what follows, with the task at hand
    have cont : ∀ (d : D) (t : Nat → Int) (tl : Mm), (∀ x, x < cnt ns → 0 ≤ t x) → Tk (cnt ns) tl d t →
        Wp pg (callN pg 7) [.ex (.bm .append false (.var 5) [(.blt .list_ false [(.var 6)])]), .ex (.meth (.var 3) 1 [(.blt .list_ false [(.var 6)])]), .ite (.cmp .gt (.fld (.var 3) 4) (.bin .add false (.bin .mul false (.bin .sub false (.bin .mul false (.lit (.int 2)) (.var 2)) (.lit (.int 1))) (.call 9 [(.var 1), (.var 5)])) (.var 4))) [.ret (.lit (.bl false))] []]
          ⟨[some (.scr (ns.map .int)), some (costD ns), some (.int (cnt ns)), some (.ref 0), some (.int K), some (.ref 3), some d, some (.int (k : Int)), some (.int (drawZ ns (20 + k))), none, none], pmem ns now spent (Tsk ns Tf k) (Wsk ns Tf k) (.lst (Tsk ns Tf k) :: tl)⟩
          fun f s' => (f = .nx ∨ f = .ct) ∧ ∃ (d : D) (t : Nat → Int) (x7 x8 : Option D) (Tf : Nat → Nat → Int) (now : Nat) (spent : Int) (tl : Mm), (∀ x, x < cnt ns → 0 ≤ t x) ∧ Tk (cnt ns) tl d t ∧ now < cnt ns ∧ Far ns Tf (k + 1) now spent ∧
            s' = ⟨[some (.scr (ns.map .int)), some (costD ns), some (.int (cnt ns)), some (.ref 0), some (.int K), some (.ref 3), some d, x7, x8, none, none], pmem ns now spent (Tsk ns Tf (k + 1)) (Wsk ns Tf (k + 1)) (.lst (Tsk ns Tf (k + 1)) :: tl)⟩ := by
      intro d t tl ht hd
      let U : Nat → Nat → Int := fun i => if i = k then t else Tf i
      have hU : ∀ i, i < k → Tf i = U i := fun i hi => by
        show Tf i = if i = k then t else Tf i
        rw [if_neg (by omega)]
      have hk2 : U k = t := if_pos rfl
      rw [Tsk_congr hU, Wsk_congr hU]
      have hF : Far ns U k now spent := by
        unfold Far at hF ⊢
        rw [← Wf_congr hU k (Nat.le_refl _), ← Wf_congr hU 0 (Nat.zero_le _)]
        exact hF
      rw [← hk2] at hd ht
      refine wp_ex (ev_app (n := 3) (m := k) (F := fun i => vec (cnt ns) (U i)) (by simp only [execSs, execS, evalE, evalEs, evalB, evalO, evalI, up_ok, Res.bind_ok, List.getElem?_cons_zero, List.getElem?_cons_succ, List.set_cons_zero, List.set_cons_succ, List.map_cons, List.map_nil, List.cons_append, List.nil_append, List.replicate_succ, List.replicate_zero, Nat.add_one_sub_one, Cn.d, if_true, wipe, bindT, bindTs, binD, addD, mulD, arD, mkL, mkT, Bool.false_eq_true, if_false, Nat.reduceSub, List.replicate, Option.bind_some] <;> rfl) rfl (ev_blt1 (by simp only [execSs, execS, evalE, evalEs, evalB, evalO, evalI, up_ok, Res.bind_ok, List.getElem?_cons_zero, List.getElem?_cons_succ, List.set_cons_zero, List.set_cons_succ, List.map_cons, List.map_nil, List.cons_append, List.nil_append, List.replicate_succ, List.replicate_zero, Nat.add_one_sub_one, Cn.d, if_true, wipe, bindT, bindTs, binD, addD, mulD, arD, mkL, mkT, Bool.false_eq_true, if_false, Nat.reduceSub, List.replicate, Option.bind_some] <;> rfl) (list_tk h5 hd _ _ _ _)) rfl (by omega)) ?_
      show Wp pg (callN pg 7) _ ⟨_, pmem ns now spent (Tsk ns U k) (Wsk ns U k) (.lst (Tsk ns U (k + 1)) :: tl)⟩ _
      obtain ⟨g, hg, gm, es⟩ := serve_ok (ns := ns) (Tf := U) (k := k) (now := now) (by omega) hn spent (.lst (Tsk ns U (k + 1)) :: tl) 5
      have l6 : bltD .list_ false [d] (pmem ns now spent (Tsk ns U k) (Wsk ns U k) (.lst (Tsk ns U (k + 1)) :: tl)) = _ := list_tk h5 hd _ _ _ _
      refine wp_ex (d := .int (g : Int)) (h1 := pmem ns g (spent + (goZ ns now g + U k g)) (Tsk ns U (k + 1)) (Wsk ns U (k + 1)) (.lst (Tsk ns U (k + 1)) :: tl)) (by
        simp only [execSs, execS, evalE, evalEs, evalB, evalO, evalI, up_ok, Res.bind_ok, List.getElem?_cons_zero, List.getElem?_cons_succ, List.set_cons_zero, List.set_cons_succ, List.map_cons, List.map_nil, List.cons_append, List.nil_append, List.replicate_succ, List.replicate_zero, Nat.add_one_sub_one, Cn.d, if_true, wipe, bindT, bindTs, binD, addD, mulD, arD, mkL, mkT, Bool.false_eq_true, if_false, Nat.reduceSub, List.replicate, Option.bind_some, pcl, pc0, lk1, l6, es] <;> rfl) ?_
      have F2 := far_step ht hn hg hF gm
      have fe := far_end (MS := mx (cnt ns) (stZ ns)) (MD := mx (cnt ns) (fun i => mx (cnt ns) (wyZ ns i))) hg F2 (fun x hx => mx_ge (f := stZ ns) hx) (fun x y hx hy => Int.le_trans (mx_ge (f := wyZ ns x) hy) (mx_ge (f := fun i => mx (cnt ns) (wyZ ns i)) hx))
      have hle := least_ok (ns := ns) (Tf := U) (m := k) (by omega) (h := pmem ns g (spent + (goZ ns now g + U k g)) (Tsk ns U (k + 1)) (Wsk ns U (k + 1)) (.lst (Tsk ns U (k + 1)) :: tl)) (r := 3) rfl 5
      have nb : ¬ ((2 * (cnt ns : Int) - 1) * mn (cnt ns) (Sq ns U k) + K < spent + (goZ ns now g + U k g)) := by
        have fe : spent + (goZ ns now g + U k g) ≤ (2 * (cnt ns : Int) - 1) * mn (cnt ns) (Sq ns U k) + K := fe
        omega
      refine wp_else (x := .bl false) (by
        simp only [execSs, execS, evalE, evalEs, evalB, evalO, evalI, up_ok, Res.bind_ok, List.getElem?_cons_zero, List.getElem?_cons_succ, List.set_cons_zero, List.set_cons_succ, List.map_cons, List.map_nil, List.cons_append, List.nil_append, List.replicate_succ, List.replicate_zero, Nat.add_one_sub_one, Cn.d, if_true, wipe, bindT, bindTs, binD, addD, mulD, arD, mkL, mkT, Bool.false_eq_true, if_false, Nat.reduceSub, List.replicate, Option.bind_some, pf4, hle, mulOk_two, mu3, cmpD, decide_eq_false nb] <;> rfl) rfl ?_
      refine wp_nil ?_
      exact wp_nil ⟨.inl rfl, d, U k, _, _, U, g, _, tl, ht, hd, hg, F2, rfl⟩
    have c5 : decide ((0:Int) < 5) = true := rfl
    have c60 : decide ((0:Int) < 60) = true := rfl
    have d5 : divOk 5 = true := rfl
    by_cases q0 : drawZ ns (20 + k) % 5 = 0
    · refine wp_then (x := .bl true) (by simp only [execSs, execS, evalE, evalEs, evalB, evalO, evalI, up_ok, Res.bind_ok, List.getElem?_cons_zero, List.getElem?_cons_succ, List.set_cons_zero, List.set_cons_succ, List.map_cons, List.map_nil, List.cons_append, List.nil_append, List.replicate_succ, List.replicate_zero, Nat.add_one_sub_one, Cn.d, if_true, wipe, bindT, bindTs, binD, addD, mulD, arD, mkL, mkT, Bool.false_eq_true, if_false, Nat.reduceSub, List.replicate, Option.bind_some, c5, cmpD, eqD, q0, beq_self_eq_true] <;> rfl) rfl ?_
      let z : Int := 1 + drawZ ns (20 + k) / 5 % 60
      have hz : 0 ≤ z := by
        have := Int.emod_nonneg (drawZ ns (20 + k) / 5) (by decide : (60 : Int) ≠ 0)
        show 0 ≤ 1 + drawZ ns (20 + k) / 5 % 60
        omega
      refine wp_set (d := .ref (tl.length + 4)) (h1 := pmem ns now spent (Tsk ns Tf k) (Wsk ns Tf k) (.lst (Tsk ns Tf k) :: (tl ++ [.lst ((List.range (cnt ns)).map fun _ => .int 0)]))) (lc_obj (h1 := pmem ns now spent (Tsk ns Tf k) (Wsk ns Tf k) (.lst (Tsk ns Tf k) :: tl)) (it_rng (n := cnt ns) (by simp only [execSs, execS, evalE, evalEs, evalB, evalO, evalI, up_ok, Res.bind_ok, List.getElem?_cons_zero, List.getElem?_cons_succ, List.set_cons_zero, List.set_cons_succ, List.map_cons, List.map_nil, List.cons_append, List.nil_append, List.replicate_succ, List.replicate_zero, Nat.add_one_sub_one, Cn.d, if_true, wipe, bindT, bindTs, binD, addD, mulD, arD, mkL, mkT, Bool.false_eq_true, if_false, Nat.reduceSub, List.replicate, Option.bind_some] <;> rfl) (by omega)) (by omega) fun x hx => ⟨_, rfl, by simp only [execSs, execS, evalE, evalEs, evalB, evalO, evalI, up_ok, Res.bind_ok, List.getElem?_cons_zero, List.getElem?_cons_succ, List.set_cons_zero, List.set_cons_succ, List.map_cons, List.map_nil, List.cons_append, List.nil_append, List.replicate_succ, List.replicate_zero, Nat.add_one_sub_one, Cn.d, if_true, wipe, bindT, bindTs, binD, addD, mulD, arD, mkL, mkT, Bool.false_eq_true, if_false, Nat.reduceSub, List.replicate, Option.bind_some] <;> rfl⟩) ?_
      simp only [execSs, execS, evalE, evalEs, evalB, evalO, evalI, up_ok, Res.bind_ok, List.getElem?_cons_zero, List.getElem?_cons_succ, List.set_cons_zero, List.set_cons_succ, List.map_cons, List.map_nil, List.cons_append, List.nil_append, List.replicate_succ, List.replicate_zero, Nat.add_one_sub_one, Cn.d, if_true, wipe, bindT, bindTs, binD, addD, mulD, arD, mkL, mkT, Bool.false_eq_true, if_false, Nat.reduceSub, List.replicate, Option.bind_some]
      have ixN : L2.ixN ((List.range (cnt ns)).map fun _ => D.int 0).length (now : Int) = some now := by
        unfold L2.ixN
        rw [if_pos (by omega), Int.toNat_natCast, if_pos (by rw [List.length_map, List.length_range]; omega)]
      refine wp_seti (d := .int z) (x := .ref (tl.length + 4)) (y := .int now) (h4 := pmem ns now spent (Tsk ns Tf k) (Wsk ns Tf k) (.lst (Tsk ns Tf k) :: (tl ++ [.lst ((List.range (cnt ns)).map fun x => if x = now then .int z else .int 0)]))) (by simp only [execSs, execS, evalE, evalEs, evalB, evalO, evalI, up_ok, Res.bind_ok, List.getElem?_cons_zero, List.getElem?_cons_succ, List.set_cons_zero, List.set_cons_succ, List.map_cons, List.map_nil, List.cons_append, List.nil_append, List.replicate_succ, List.replicate_zero, Nat.add_one_sub_one, Cn.d, if_true, wipe, bindT, bindTs, binD, addD, mulD, arD, mkL, mkT, Bool.false_eq_true, if_false, Nat.reduceSub, List.replicate, Option.bind_some, d5, c60] <;> rfl) (by simp only [execSs, execS, evalE, evalEs, evalB, evalO, evalI, up_ok, Res.bind_ok, List.getElem?_cons_zero, List.getElem?_cons_succ, List.set_cons_zero, List.set_cons_succ, List.map_cons, List.map_nil, List.cons_append, List.nil_append, List.replicate_succ, List.replicate_zero, Nat.add_one_sub_one, Cn.d, if_true, wipe, bindT, bindTs, binD, addD, mulD, arD, mkL, mkT, Bool.false_eq_true, if_false, Nat.reduceSub, List.replicate, Option.bind_some] <;> rfl) (by simp only [execSs, execS, evalE, evalEs, evalB, evalO, evalI, up_ok, Res.bind_ok, List.getElem?_cons_zero, List.getElem?_cons_succ, List.set_cons_zero, List.set_cons_succ, List.map_cons, List.map_nil, List.cons_append, List.nil_append, List.replicate_succ, List.replicate_zero, Nat.add_one_sub_one, Cn.d, if_true, wipe, bindT, bindTs, binD, addD, mulD, arD, mkL, mkT, Bool.false_eq_true, if_false, Nat.reduceSub, List.replicate, Option.bind_some, pf3] <;> rfl) (by
        have g4 : (pmem ns now spent (Tsk ns Tf k) (Wsk ns Tf k) (.lst (Tsk ns Tf k) :: (tl ++ [.lst ((List.range (cnt ns)).map fun _ => .int 0)])))[tl.length + 4]? = some (.lst ((List.range (cnt ns)).map fun _ => .int 0)) := get_last _ _
        simp only [setID, g4, ixN]
        rw [set_rng hn]
        simp only [List.set_cons_succ, set_last]) ?_
      refine wp_nil ?_
      refine cont (.ref (tl.length + 4)) (fun x => if x = now then z else 0) _ (fun x _ => ?_) (.inr ⟨tl.length, rfl, ?_⟩)
      · show 0 ≤ if x = now then z else 0
        split
        · exact hz
        · exact Int.le_refl _
      · rw [get_last]
        refine congrArg (fun l => some (O.lst l)) (List.map_congr_left fun x _ => ?_)
        show (if x = now then D.int z else D.int 0) = D.int (if x = now then z else 0)
        split <;> rfl
    · have q0b : (drawZ ns (20 + k) % 5 == 0) = false := beq_eq_false_iff_ne.mpr q0
      refine wp_else (x := .bl false) (by simp only [execSs, execS, evalE, evalEs, evalB, evalO, evalI, up_ok, Res.bind_ok, List.getElem?_cons_zero, List.getElem?_cons_succ, List.set_cons_zero, List.set_cons_succ, List.map_cons, List.map_nil, List.cons_append, List.nil_append, List.replicate_succ, List.replicate_zero, Nat.add_one_sub_one, Cn.d, if_true, wipe, bindT, bindTs, binD, addD, mulD, arD, mkL, mkT, Bool.false_eq_true, if_false, Nat.reduceSub, List.replicate, Option.bind_some, c5, cmpD, eqD, q0b] <;> rfl) rfl ?_
      by_cases q1 : drawZ ns (20 + k) % 5 < 3
      · refine wp_then (x := .bl true) (by simp only [execSs, execS, evalE, evalEs, evalB, evalO, evalI, up_ok, Res.bind_ok, List.getElem?_cons_zero, List.getElem?_cons_succ, List.set_cons_zero, List.set_cons_succ, List.map_cons, List.map_nil, List.cons_append, List.nil_append, List.replicate_succ, List.replicate_zero, Nat.add_one_sub_one, Cn.d, if_true, wipe, bindT, bindTs, binD, addD, mulD, arD, mkL, mkT, Bool.false_eq_true, if_false, Nat.reduceSub, List.replicate, Option.bind_some, c5, cmpD, decide_eq_true q1] <;> rfl) rfl ?_
        refine wp_set (d := vec (cnt ns) (tkZ (drawZ ns (20 + k) / 5))) (by simp only [execSs, execS, evalE, evalEs, evalB, evalO, evalI, up_ok, Res.bind_ok, List.getElem?_cons_zero, List.getElem?_cons_succ, List.set_cons_zero, List.set_cons_succ, List.map_cons, List.map_nil, List.cons_append, List.nil_append, List.replicate_succ, List.replicate_zero, Nat.add_one_sub_one, Cn.d, if_true, wipe, bindT, bindTs, binD, addD, mulD, arD, mkL, mkT, Bool.false_eq_true, if_false, Nat.reduceSub, List.replicate, Option.bind_some, d5, task_ok _ h5 6] <;> rfl) ?_
        simp only [execSs, execS, evalE, evalEs, evalB, evalO, evalI, up_ok, Res.bind_ok, List.getElem?_cons_zero, List.getElem?_cons_succ, List.set_cons_zero, List.set_cons_succ, List.map_cons, List.map_nil, List.cons_append, List.nil_append, List.replicate_succ, List.replicate_zero, Nat.add_one_sub_one, Cn.d, if_true, wipe, bindT, bindTs, binD, addD, mulD, arD, mkL, mkT, Bool.false_eq_true, if_false, Nat.reduceSub, List.replicate, Option.bind_some]
        refine wp_nil ?_
        refine wp_nil ?_
        exact cont _ (tkZ (drawZ ns (20 + k) / 5)) tl (fun x _ => tk_nonneg _ _) (.inl rfl)
      · refine wp_else (x := .bl false) (by simp only [execSs, execS, evalE, evalEs, evalB, evalO, evalI, up_ok, Res.bind_ok, List.getElem?_cons_zero, List.getElem?_cons_succ, List.set_cons_zero, List.set_cons_succ, List.map_cons, List.map_nil, List.cons_append, List.nil_append, List.replicate_succ, List.replicate_zero, Nat.add_one_sub_one, Cn.d, if_true, wipe, bindT, bindTs, binD, addD, mulD, arD, mkL, mkT, Bool.false_eq_true, if_false, Nat.reduceSub, List.replicate, Option.bind_some, c5, cmpD, decide_eq_false q1] <;> rfl) rfl ?_
        refine wp_nil ?_
        refine wp_nil ?_
        exact cont d t tl ht hd
  rintro s ⟨d, t, x7, x8, Tf, now, spent, tl, ht, hd, hn, hF, rfl⟩
  exact wp_ret (by simp only [execSs, execS, evalE, evalEs, evalB, evalO, evalI, up_ok, Res.bind_ok, List.getElem?_cons_zero, List.getElem?_cons_succ, List.set_cons_zero, List.set_cons_succ, List.map_cons, List.map_nil, List.cons_append, List.nil_append, List.replicate_succ, List.replicate_zero, Nat.add_one_sub_one, Cn.d, if_true, wipe, bindT, bindTs, binD, addD, mulD, arD, mkL, mkT, Bool.false_eq_true, if_false, Nat.reduceSub, List.replicate, Option.bind_some] <;> rfl) ⟨_, rfl, rfl⟩
end K45
namespace K45
open PySem PySem.Spec PyProof.Rows L2 R
def cf : Cf := ⟨[some "next_works", some "first_least", none, none, none, some "_law_draw", some "_law_costs", some "_law_task", some "_law_going", some "_law_least", some "law"], [some "Policy"], ["going", "serve"], ["start", "stands", "ways", "now", "spent", "tasks", "works"]⟩
def top (i : Nat) : Stmt := PySem.Challenge.pw_turnshelves_k45_whole_never_far_from_the.main.body.getD i (.Pass ⟨0, 0, 0, 0⟩)
abbrev s_next_works : Stmt := top 2
theorem sc_next_works : FnScope ["works", "task", "ways", "count", "served", "x", "s"] ["works", "task", "ways"] (defScope s_next_works) := ⟨rfl, rfl, rfl, by decide +kernel, rfl, by decide +kernel, by decide +kernel⟩
theorem m_next_works : mSs pg cf ["works", "task", "ways", "count", "served", "x", "s"] (defScope s_next_works) (fun _ => true) d_next_works.body (defBody s_next_works) = true := by decide +kernel
abbrev s_first_least : Stmt := top 3
theorem sc_first_least : FnScope ["sums"] ["sums"] (defScope s_first_least) := ⟨rfl, rfl, rfl, by decide +kernel, rfl, by decide +kernel, by decide +kernel⟩
theorem m_first_least : mSs pg cf ["sums"] (defScope s_first_least) (fun _ => true) d_first_least.body (defBody s_first_least) = true := by decide +kernel
abbrev s_Policy___init__ : Stmt := inClass (top 4) 0
theorem sc_Policy___init__ : FnScope ["self", "start", "stands", "ways", "row"] ["self", "start", "stands", "ways"] (defScope s_Policy___init__) := ⟨rfl, rfl, rfl, by decide +kernel, rfl, by decide +kernel, by decide +kernel⟩
theorem m_Policy___init__ : mSs pg cf ["self", "start", "stands", "ways", "row"] (defScope s_Policy___init__) (fun _ => true) d_Policy___init__.body (defBody s_Policy___init__) = true := by decide +kernel
abbrev s_Policy_going : Stmt := inClass (top 4) 1
theorem sc_Policy_going : FnScope ["self", "first", "second"] ["self", "first", "second"] (defScope s_Policy_going) := ⟨rfl, rfl, rfl, by decide +kernel, rfl, by decide +kernel, by decide +kernel⟩
theorem m_Policy_going : mSs pg cf ["self", "first", "second"] (defScope s_Policy_going) (fun _ => true) d_Policy_going.body (defBody s_Policy_going) = true := by decide +kernel
abbrev s_Policy_serve : Stmt := inClass (top 4) 2
theorem sc_Policy_serve : FnScope ["self", "task", "works", "count", "sums", "goal", "x"] ["self", "task"] (defScope s_Policy_serve) := ⟨rfl, rfl, rfl, by decide +kernel, rfl, by decide +kernel, by decide +kernel⟩
theorem m_Policy_serve : mSs pg cf ["self", "task", "works", "count", "sums", "goal", "x"] (defScope s_Policy_serve) (fun _ => true) d_Policy_serve.body (defBody s_Policy_serve) = true := by decide +kernel
abbrev s__law_draw : Stmt := top 6
theorem sc__law_draw : FnScope ["_law_script", "_law_k", "_law_cell", "_law_turn", "_law_step"] ["_law_script", "_law_k"] (defScope s__law_draw) := ⟨rfl, rfl, rfl, by decide +kernel, rfl, by decide +kernel, by decide +kernel⟩
theorem m__law_draw : mSs pg cf ["_law_script", "_law_k", "_law_cell", "_law_turn", "_law_step"] (defScope s__law_draw) (fun _ => true) d__law_draw.body (defBody s__law_draw) = true := by decide +kernel
abbrev s__law_costs : Stmt := top 7
theorem sc__law_costs : FnScope ["_law_script", "_law_count", "_law_sizes", "_law_layouts", "_law_k", "_law_stands", "_law_ways", "_law_first", "_law_number", "_law_row", "_law_second", "_law_layout", "_law_size", "_law_bit"] ["_law_script"] (defScope s__law_costs) := ⟨rfl, rfl, rfl, by decide +kernel, rfl, by decide +kernel, by decide +kernel⟩
theorem m__law_costs : mSs pg cf ["_law_script", "_law_count", "_law_sizes", "_law_layouts", "_law_k", "_law_stands", "_law_ways", "_law_first", "_law_number", "_law_row", "_law_second", "_law_layout", "_law_size", "_law_bit"] (defScope s__law_costs) (fun _ => true) d__law_costs.body (defBody s__law_costs) = true := by decide +kernel
abbrev s__law_task : Stmt := top 8
theorem sc__law_task : FnScope ["_law_number", "_law_count", "_law_k"] ["_law_number", "_law_count"] (defScope s__law_task) := ⟨rfl, rfl, rfl, by decide +kernel, rfl, by decide +kernel, by decide +kernel⟩
theorem m__law_task : mSs pg cf ["_law_number", "_law_count", "_law_k"] (defScope s__law_task) (fun _ => true) d__law_task.body (defBody s__law_task) = true := by decide +kernel
abbrev s__law_going : Stmt := top 9
theorem sc__law_going : FnScope ["_law_costs_here", "_law_first", "_law_second"] ["_law_costs_here", "_law_first", "_law_second"] (defScope s__law_going) := ⟨rfl, rfl, rfl, by decide +kernel, rfl, by decide +kernel, by decide +kernel⟩
theorem m__law_going : mSs pg cf ["_law_costs_here", "_law_first", "_law_second"] (defScope s__law_going) (fun _ => true) d__law_going.body (defBody s__law_going) = true := by decide +kernel
abbrev s__law_least : Stmt := top 10
theorem sc__law_least : FnScope ["_law_costs_here", "_law_tasks", "_law_count", "_law_spent", "_law_task_here", "_law_after", "_law_goal", "_law_k", "_law_ways", "_law_one", "_law_x"] ["_law_costs_here", "_law_tasks"] (defScope s__law_least) := ⟨rfl, rfl, rfl, by decide +kernel, rfl, by decide +kernel, by decide +kernel⟩
theorem m__law_least : mSs pg cf ["_law_costs_here", "_law_tasks", "_law_count", "_law_spent", "_law_task_here", "_law_after", "_law_goal", "_law_k", "_law_ways", "_law_one", "_law_x"] (defScope s__law_least) (fun _ => true) d__law_least.body (defBody s__law_least) = true := by decide +kernel
abbrev s_law : Stmt := top 11
theorem sc_law : FnScope ["_law_script", "_law_costs_here", "_law_count", "_law_policy", "_law_constant", "_law_tasks", "_law_task_here", "_law_k", "_law_number", "_law_place", "_law_row"] ["_law_script"] (defScope s_law) := ⟨rfl, rfl, rfl, by decide +kernel, rfl, by decide +kernel, by decide +kernel⟩
theorem m_law : mSs pg cf ["_law_script", "_law_costs_here", "_law_count", "_law_policy", "_law_constant", "_law_tasks", "_law_task_here", "_law_k", "_law_number", "_law_place", "_law_row"] (defScope s_law) (fun _ => true) d_law.body (defBody s_law) = true := by decide +kernel
theorem all_mk {K : PySem.W.Frag} {h : Heap} {mg : Str → Option Value} {fa C0 f0 f1 f2 f3 f4 f5 f6 f7 f8 f9 f10 : Addr} (X : K.In h) (G : h.Ns mainGlobals mg) (hfa : mg "law" = some (.ref fa)) {od0 an0 od1 an1 od2 an2 od3 an3 od4 an4 od5 an5 od6 an6 od7 an7 od8 an8 od9 an9 od10 an10 : Option Addr} {sl0 sl1 sl2 sl3 sl4 sl5 sl6 sl7 sl8 sl9 sl10 : Array (Option Value)} {oc0 kV0 dc0 pm0 cd0 ct0 oc1 kV1 dc1 pm1 cd1 ct1 oc2 kV2 dc2 pm2 cd2 ct2 oc3 kV3 dc3 pm3 cd3 ct3 oc4 kV4 dc4 pm4 cd4 ct4 oc5 kV5 dc5 pm5 cd5 ct5 oc6 kV6 dc6 pm6 cd6 ct6 oc7 kV7 dc7 pm7 cd7 ct7 oc8 kV8 dc8 pm8 cd8 ct8 oc9 kV9 dc9 pm9 cd9 ct9 oc10 kV10 dc10 pm10 cd10 ct10 : Value}
    (aC0 : PySem.W.nsIn K mainGlobals "Policy" = some (some (.ref C0)))
    (pg0 : PySem.W.plainGet K C0 Str.empty = true)
    (hd0 : PySem.W.hasDictIn K C0 = true)
    (po0 : PySem.W.plainOver K C0 = true)
    (sa0 : PySem.W.findIn K (.ref C0) "__setattr__" = some (some (.builtin "object.__setattr__")))
    (mk0 : PySem.W.makesIn K C0 = true)
    (kc0 : PySem.W.keepIn K (.ref C0) = true)
    (n0_0 : PySem.W.findIn K (.ref C0) "start" = some none)
    (n0_1 : PySem.W.findIn K (.ref C0) "stands" = some none)
    (n0_2 : PySem.W.findIn K (.ref C0) "ways" = some none)
    (n0_3 : PySem.W.findIn K (.ref C0) "now" = some none)
    (n0_4 : PySem.W.findIn K (.ref C0) "spent" = some none)
    (n0_5 : PySem.W.findIn K (.ref C0) "tasks" = some none)
    (n0_6 : PySem.W.findIn K (.ref C0) "works" = some none)
    (a0 : PySem.W.nsIn K mainGlobals "next_works" = some (some (.ref f0)))
    (l0 : K.lookup f0 = some ⟨oc0, od0, .func (PySem.W.fnOf "next_works" "next_works" (defArgs s_next_works) (defBody s_next_works) (defScope s_next_works) .none kV0 dc0 pm0 an0 cd0 ct0), sl0⟩)
    (c0 : PySem.W.codeIn K cd0 "next_works" = true)
    (k0 : PySem.W.keepIn K (.ref f0) = true)
    (a1 : PySem.W.nsIn K mainGlobals "first_least" = some (some (.ref f1)))
    (l1 : K.lookup f1 = some ⟨oc1, od1, .func (PySem.W.fnOf "first_least" "first_least" (defArgs s_first_least) (defBody s_first_least) (defScope s_first_least) .none kV1 dc1 pm1 an1 cd1 ct1), sl1⟩)
    (c1 : PySem.W.codeIn K cd1 "first_least" = true)
    (k1 : PySem.W.keepIn K (.ref f1) = true)
    (a2 : PySem.W.findIn K (.ref C0) "__init__" = some (some (.ref f2)))
    (i2 : PySem.W.isFn K (.ref f2) = true)
    (l2 : K.lookup f2 = some ⟨oc2, od2, .func (PySem.W.fnOf "__init__" "Policy.__init__" (defArgs s_Policy___init__) (defBody s_Policy___init__) (defScope s_Policy___init__) .none kV2 dc2 pm2 an2 cd2 ct2), sl2⟩)
    (c2 : PySem.W.codeIn K cd2 "Policy.__init__" = true)
    (k2 : PySem.W.keepIn K (.ref f2) = true)
    (a3 : PySem.W.findIn K (.ref C0) "going" = some (some (.ref f3)))
    (i3 : PySem.W.isFn K (.ref f3) = true)
    (l3 : K.lookup f3 = some ⟨oc3, od3, .func (PySem.W.fnOf "going" "Policy.going" (defArgs s_Policy_going) (defBody s_Policy_going) (defScope s_Policy_going) .none kV3 dc3 pm3 an3 cd3 ct3), sl3⟩)
    (c3 : PySem.W.codeIn K cd3 "Policy.going" = true)
    (k3 : PySem.W.keepIn K (.ref f3) = true)
    (a4 : PySem.W.findIn K (.ref C0) "serve" = some (some (.ref f4)))
    (i4 : PySem.W.isFn K (.ref f4) = true)
    (l4 : K.lookup f4 = some ⟨oc4, od4, .func (PySem.W.fnOf "serve" "Policy.serve" (defArgs s_Policy_serve) (defBody s_Policy_serve) (defScope s_Policy_serve) .none kV4 dc4 pm4 an4 cd4 ct4), sl4⟩)
    (c4 : PySem.W.codeIn K cd4 "Policy.serve" = true)
    (k4 : PySem.W.keepIn K (.ref f4) = true)
    (a5 : PySem.W.nsIn K mainGlobals "_law_draw" = some (some (.ref f5)))
    (l5 : K.lookup f5 = some ⟨oc5, od5, .func (PySem.W.fnOf "_law_draw" "_law_draw" (defArgs s__law_draw) (defBody s__law_draw) (defScope s__law_draw) .none kV5 dc5 pm5 an5 cd5 ct5), sl5⟩)
    (c5 : PySem.W.codeIn K cd5 "_law_draw" = true)
    (k5 : PySem.W.keepIn K (.ref f5) = true)
    (a6 : PySem.W.nsIn K mainGlobals "_law_costs" = some (some (.ref f6)))
    (l6 : K.lookup f6 = some ⟨oc6, od6, .func (PySem.W.fnOf "_law_costs" "_law_costs" (defArgs s__law_costs) (defBody s__law_costs) (defScope s__law_costs) .none kV6 dc6 pm6 an6 cd6 ct6), sl6⟩)
    (c6 : PySem.W.codeIn K cd6 "_law_costs" = true)
    (k6 : PySem.W.keepIn K (.ref f6) = true)
    (a7 : PySem.W.nsIn K mainGlobals "_law_task" = some (some (.ref f7)))
    (l7 : K.lookup f7 = some ⟨oc7, od7, .func (PySem.W.fnOf "_law_task" "_law_task" (defArgs s__law_task) (defBody s__law_task) (defScope s__law_task) .none kV7 dc7 pm7 an7 cd7 ct7), sl7⟩)
    (c7 : PySem.W.codeIn K cd7 "_law_task" = true)
    (k7 : PySem.W.keepIn K (.ref f7) = true)
    (a8 : PySem.W.nsIn K mainGlobals "_law_going" = some (some (.ref f8)))
    (l8 : K.lookup f8 = some ⟨oc8, od8, .func (PySem.W.fnOf "_law_going" "_law_going" (defArgs s__law_going) (defBody s__law_going) (defScope s__law_going) .none kV8 dc8 pm8 an8 cd8 ct8), sl8⟩)
    (c8 : PySem.W.codeIn K cd8 "_law_going" = true)
    (k8 : PySem.W.keepIn K (.ref f8) = true)
    (a9 : PySem.W.nsIn K mainGlobals "_law_least" = some (some (.ref f9)))
    (l9 : K.lookup f9 = some ⟨oc9, od9, .func (PySem.W.fnOf "_law_least" "_law_least" (defArgs s__law_least) (defBody s__law_least) (defScope s__law_least) .none kV9 dc9 pm9 an9 cd9 ct9), sl9⟩)
    (c9 : PySem.W.codeIn K cd9 "_law_least" = true)
    (k9 : PySem.W.keepIn K (.ref f9) = true)
    (a10 : PySem.W.nsIn K mainGlobals "law" = some (some (.ref f10)))
    (l10 : K.lookup f10 = some ⟨oc10, od10, .func (PySem.W.fnOf "law" "law" (defArgs s_law) (defBody s_law) (defScope s_law) .none kV10 dc10 pm10 an10 cd10 ct10), sl10⟩)
    (c10 : PySem.W.codeIn K cd10 "law" = true)
    (k10 : PySem.W.keepIn K (.ref f10) = true)
    (z0 : PySem.W.nsIn K mainGlobals "len" = some none)
    (z1 : PySem.W.nsIn K mainGlobals "int" = some none)
    (z2 : PySem.W.nsIn K mainGlobals "abs" = some none)
    (z3 : PySem.W.nsIn K mainGlobals "min" = some none)
    (z4 : PySem.W.nsIn K mainGlobals "max" = some none)
    (z5 : PySem.W.nsIn K mainGlobals "sum" = some none)
    (z6 : PySem.W.nsIn K mainGlobals "list" = some none)
    (z7 : PySem.W.nsIn K mainGlobals "tuple" = some none)
    (z8 : PySem.W.nsIn K mainGlobals "str" = some none)
    (z9 : PySem.W.nsIn K mainGlobals "ord" = some none)
    (z10 : PySem.W.nsIn K mainGlobals "repr" = some none)
    (z11 : PySem.W.nsIn K mainGlobals "range" = some none)
    (z12 : PySem.W.nsIn K mainGlobals "zip" = some none)
    (z13 : PySem.W.nsIn K mainGlobals "enumerate" = some none)
    : ∃ (fd : FuncData) (cad : Nat → Addr), (∀ (s : Shared) (u : Value), BindsTo s fd ⟨[u], []⟩ [("_law_script", u)]) ∧ DefX pg cf K 10 fa fd ["_law_script"] ∧ RowOk K mg pg cf cad := by
  have e := hfa.symm.trans (PySem.W.mg_of X G a10)
  cases e
  have F0 := fun_mk (st := s_next_works) l0 c0 k0
  have D0 : DefX pg cf K 0 f0 _ ["works", "task", "ways"] := ⟨⟨d_next_works, _, _, s_next_works, _, rfl, F0, sc_next_works, rfl, rfl, m_next_works⟩, F0.binds (ps := ["works", "task", "ways"]) fun _ _ _ _ _ _ us hl => match us, hl with | [_, _, _], _ => rfl⟩
  have F1 := fun_mk (st := s_first_least) l1 c1 k1
  have D1 : DefX pg cf K 1 f1 _ ["sums"] := ⟨⟨d_first_least, _, _, s_first_least, _, rfl, F1, sc_first_least, rfl, rfl, m_first_least⟩, F1.binds (ps := ["sums"]) fun _ _ _ _ _ _ us hl => match us, hl with | [_], _ => rfl⟩
  have F2 := fun_mk (st := s_Policy___init__) l2 c2 k2
  have D2 : DefX pg cf K 2 f2 _ ["self", "start", "stands", "ways"] := ⟨⟨d_Policy___init__, _, _, s_Policy___init__, _, rfl, F2, sc_Policy___init__, rfl, rfl, m_Policy___init__⟩, F2.binds (ps := ["self", "start", "stands", "ways"]) fun _ _ _ _ _ _ us hl => match us, hl with | [_, _, _, _], _ => rfl⟩
  have F3 := fun_mk (st := s_Policy_going) l3 c3 k3
  have D3 : DefX pg cf K 3 f3 _ ["self", "first", "second"] := ⟨⟨d_Policy_going, _, _, s_Policy_going, _, rfl, F3, sc_Policy_going, rfl, rfl, m_Policy_going⟩, F3.binds (ps := ["self", "first", "second"]) fun _ _ _ _ _ _ us hl => match us, hl with | [_, _, _], _ => rfl⟩
  have F4 := fun_mk (st := s_Policy_serve) l4 c4 k4
  have D4 : DefX pg cf K 4 f4 _ ["self", "task"] := ⟨⟨d_Policy_serve, _, _, s_Policy_serve, _, rfl, F4, sc_Policy_serve, rfl, rfl, m_Policy_serve⟩, F4.binds (ps := ["self", "task"]) fun _ _ _ _ _ _ us hl => match us, hl with | [_, _], _ => rfl⟩
  have F5 := fun_mk (st := s__law_draw) l5 c5 k5
  have D5 : DefX pg cf K 5 f5 _ ["_law_script", "_law_k"] := ⟨⟨d__law_draw, _, _, s__law_draw, _, rfl, F5, sc__law_draw, rfl, rfl, m__law_draw⟩, F5.binds (ps := ["_law_script", "_law_k"]) fun _ _ _ _ _ _ us hl => match us, hl with | [_, _], _ => rfl⟩
  have F6 := fun_mk (st := s__law_costs) l6 c6 k6
  have D6 : DefX pg cf K 6 f6 _ ["_law_script"] := ⟨⟨d__law_costs, _, _, s__law_costs, _, rfl, F6, sc__law_costs, rfl, rfl, m__law_costs⟩, F6.binds (ps := ["_law_script"]) fun _ _ _ _ _ _ us hl => match us, hl with | [_], _ => rfl⟩
  have F7 := fun_mk (st := s__law_task) l7 c7 k7
  have D7 : DefX pg cf K 7 f7 _ ["_law_number", "_law_count"] := ⟨⟨d__law_task, _, _, s__law_task, _, rfl, F7, sc__law_task, rfl, rfl, m__law_task⟩, F7.binds (ps := ["_law_number", "_law_count"]) fun _ _ _ _ _ _ us hl => match us, hl with | [_, _], _ => rfl⟩
  have F8 := fun_mk (st := s__law_going) l8 c8 k8
  have D8 : DefX pg cf K 8 f8 _ ["_law_costs_here", "_law_first", "_law_second"] := ⟨⟨d__law_going, _, _, s__law_going, _, rfl, F8, sc__law_going, rfl, rfl, m__law_going⟩, F8.binds (ps := ["_law_costs_here", "_law_first", "_law_second"]) fun _ _ _ _ _ _ us hl => match us, hl with | [_, _, _], _ => rfl⟩
  have F9 := fun_mk (st := s__law_least) l9 c9 k9
  have D9 : DefX pg cf K 9 f9 _ ["_law_costs_here", "_law_tasks"] := ⟨⟨d__law_least, _, _, s__law_least, _, rfl, F9, sc__law_least, rfl, rfl, m__law_least⟩, F9.binds (ps := ["_law_costs_here", "_law_tasks"]) fun _ _ _ _ _ _ us hl => match us, hl with | [_, _], _ => rfl⟩
  have F10 := fun_mk (st := s_law) l10 c10 k10
  have D10 : DefX pg cf K 10 fa _ ["_law_script"] := ⟨⟨d_law, _, _, s_law, _, rfl, F10, sc_law, rfl, rfl, m_law⟩, F10.binds (ps := ["_law_script"]) fun _ _ _ _ _ _ us hl => match us, hl with | [_], _ => rfl⟩
  refine ⟨_, fun i => [C0].getD i 0, fun s v => ?_, D10, ⟨by decide +kernel, by decide +kernel, by decide +kernel, by decide +kernel, ?_, ?_, ?_⟩⟩
  · exact .of_eq rfl
  · exact ⟨PySem.W.mg_none_of X G z0, PySem.W.mg_none_of X G z1, PySem.W.mg_none_of X G z2, PySem.W.mg_none_of X G z3, PySem.W.mg_none_of X G z4, PySem.W.mg_none_of X G z5, PySem.W.mg_none_of X G z6, PySem.W.mg_none_of X G z7, PySem.W.mg_none_of X G z8, PySem.W.mg_none_of X G z9, PySem.W.mg_none_of X G z10, PySem.W.mg_none_of X G z11, PySem.W.mg_none_of X G z12, PySem.W.mg_none_of X G z13, trivial⟩
  · exact ⟨⟨_, PySem.W.mg_of X G a0, k0, _, _, D0⟩, ⟨_, PySem.W.mg_of X G a1, k1, _, _, D1⟩, ⟨_, PySem.W.mg_of X G a5, k5, _, _, D5⟩, ⟨_, PySem.W.mg_of X G a6, k6, _, _, D6⟩, ⟨_, PySem.W.mg_of X G a7, k7, _, _, D7⟩, ⟨_, PySem.W.mg_of X G a8, k8, _, _, D8⟩, ⟨_, PySem.W.mg_of X G a9, k9, _, _, D9⟩, ⟨_, PySem.W.mg_of X G a10, k10, _, _, D10⟩, trivial⟩
  · exact ⟨⟨⟨pg0, hd0, po0, sa0⟩, ⟨n0_0, n0_1, n0_2, n0_3, n0_4, n0_5, n0_6, trivial⟩, ⟨⟨_, ⟨a3, i3, k3⟩, _, _, D3⟩, ⟨_, ⟨a4, i4, k4⟩, _, _, D4⟩, trivial⟩, _, _, rfl, PySem.W.mg_of X G aC0, ⟨mk0, a2, i2, kc0⟩, _, _, D2⟩, trivial⟩
end K45

open PySem PySem.W PyProof.Rows in
set_option maxRecDepth 100000 in
set_option maxHeartbeats 0 in
theorem PySem.Challenge.cw_turnshelves_k45_whole_never_far_from_the_holds : PySem.Challenge.rw_turnshelves_k45_whole_never_far_from_the.Holds := by
  w_on; o_law; k_head; (case hw => w_witness2)
  k_fill
  refine R.law_walk (l := PySem.Challenge.rw_turnshelves_k45_whole_never_far_from_the) (p := K45.pg) (cf := K45.cf) (n := 8) (f := 10) (x := "_law_script") ⟨rfl, by decide, by decide⟩ K45.law_runs rfl rfl (fun w h Y => PySem.W.kIn_of Y) ?F
  case F =>
    intro w mg fa h KX G hmg
    refine' K45.all_mk KX G hmg ?aC0 ?pg0 ?hd0 ?po0 ?sa0 ?mk0 ?kc0 ?n0_0 ?n0_1 ?n0_2 ?n0_3 ?n0_4 ?n0_5 ?n0_6 ?a0 ?l0 ?c0 ?k0 ?a1 ?l1 ?c1 ?k1 ?a2 ?i2 ?l2 ?c2 ?k2 ?a3 ?i3 ?l3 ?c3 ?k3 ?a4 ?i4 ?l4 ?c4 ?k4 ?a5 ?l5 ?c5 ?k5 ?a6 ?l6 ?c6 ?k6 ?a7 ?l7 ?c7 ?k7 ?a8 ?l8 ?c8 ?k8 ?a9 ?l9 ?c9 ?k9 ?a10 ?l10 ?c10 ?k10 ?z0 ?z1 ?z2 ?z3 ?z4 ?z5 ?z6 ?z7 ?z8 ?z9 ?z10 ?z11 ?z12 ?z13
    (case aC0 => k_is)
    (case pg0 => k_is)
    (case hd0 => k_is)
    (case po0 => k_is)
    (case sa0 => k_is)
    (case mk0 => k_is)
    (case kc0 => k_is)
    (case n0_0 => k_is)
    (case n0_1 => k_is)
    (case n0_2 => k_is)
    (case n0_3 => k_is)
    (case n0_4 => k_is)
    (case n0_5 => k_is)
    (case n0_6 => k_is)
    (case a0 => k_is)
    (case l0 => k_is)
    (case c0 => k_is)
    (case k0 => k_is)
    (case a1 => k_is)
    (case l1 => k_is)
    (case c1 => k_is)
    (case k1 => k_is)
    (case a2 => k_is)
    (case i2 => k_is)
    (case l2 => k_is)
    (case c2 => k_is)
    (case k2 => k_is)
    (case a3 => k_is)
    (case i3 => k_is)
    (case l3 => k_is)
    (case c3 => k_is)
    (case k3 => k_is)
    (case a4 => k_is)
    (case i4 => k_is)
    (case l4 => k_is)
    (case c4 => k_is)
    (case k4 => k_is)
    (case a5 => k_is)
    (case l5 => k_is)
    (case c5 => k_is)
    (case k5 => k_is)
    (case a6 => k_is)
    (case l6 => k_is)
    (case c6 => k_is)
    (case k6 => k_is)
    (case a7 => k_is)
    (case l7 => k_is)
    (case c7 => k_is)
    (case k7 => k_is)
    (case a8 => k_is)
    (case l8 => k_is)
    (case c8 => k_is)
    (case k8 => k_is)
    (case a9 => k_is)
    (case l9 => k_is)
    (case c9 => k_is)
    (case k9 => k_is)
    (case a10 => k_is)
    (case l10 => k_is)
    (case c10 => k_is)
    (case k10 => k_is)
    (case z0 => k_is)
    (case z1 => k_is)
    (case z2 => k_is)
    (case z3 => k_is)
    (case z4 => k_is)
    (case z5 => k_is)
    (case z6 => k_is)
    (case z7 => k_is)
    (case z8 => k_is)
    (case z9 => k_is)
    (case z10 => k_is)
    (case z11 => k_is)
    (case z12 => k_is)
    (case z13 => k_is)
#print axioms PySem.Challenge.cw_turnshelves_k45_whole_never_far_from_the_holds
