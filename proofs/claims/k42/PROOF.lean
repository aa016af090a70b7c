import PyProof.Rows.All
import Wide.All
import OpenK.AllK
import Wide.FinOn
import HandS.ForMost
import HandS.Exc
import HandS.TryOnly
import HandS.ExcOwn
import HandS.WordsExc
import HandS.Wide
import HandS.Flow
import HandS.Style
import HandS.IsInst
import HandS.TupAny
import HandS.Zip
import HandS.Deep
import HandS.Strs
import HandS.Codes
import HandS.More
import HandS.SetKeys
import HandS.SortKw
import HandS.Defaults
import HandS.Iter
import KE.SortKeyHeap
import KE.SortCalls
import HandS.Replace
import PySem.Challenge.RW_turnshelves_k42_ways_between_layouts
set_option Elab.async false
set_option linter.all false
set_option maxRecDepth 100000
/-! R: a small language with lists, dicts and instances at ids, and with values that nobody changes any more (lst, dct, ins within D).
RSem: its syntax and what it does. -/
namespace R
open PySem

/-! ### data -/
inductive D where
  | non | bl (b : Bool) | int (i : Int) | str (x : Str)
  | tup (xs : List D)
  | lst (xs : List D)
  | scr (xs : List D)
  | dct (kvs : List (L2.Key × D))
  | ins (C : Nat) (fs : List (Nat × D))
  | ref (n : Nat)
  deriving Inhabited
/-- what stands at an id -/
inductive O where
  | lst (xs : List D) | dct (kvs : List (L2.Key × D)) | ins (C : Nat) (fs : List (Nat × D)) | dead | ldct (kvs : List (L2.Key × D))
  deriving Inhabited
abbrev Mm := List O

inductive Res (σ α : Type) where
  | ok (a : α) (s : σ)
  | exn (C : Nat) (p : Option D) (s : σ)
  | bad
def Res.bind {σ α β : Type} : Res σ α → (α → σ → Res σ β) → Res σ β
  | .ok a s, f => f a s
  | .exn C p s, _ => .exn C p s
  | .bad, _ => .bad
@[simp] theorem Res.bind_ok {σ α β : Type} (a : α) (s : σ) (f : α → σ → Res σ β) : (Res.ok a s).bind f = f a s := rfl
@[simp] theorem Res.bind_exn {σ α β : Type} (C : Nat) (p : Option D) (s : σ) (f : α → σ → Res σ β) : (Res.exn C p s : Res σ α).bind f = .exn C p s := rfl
@[simp] theorem Res.bind_bad {σ α β : Type} (f : α → σ → Res σ β) : (Res.bad : Res σ α).bind f = .bad := rfl

/-! ### syntax -/
inductive Cn where
  | non | bl (b : Bool) | int (i : Int) | str (x : Str)
  deriving DecidableEq, Inhabited
def Cn.d : Cn → D
  | .non => .non | .bl b => .bl b | .int i => .int i | .str x => .str x
inductive Op where
  | add | sub | mul | fdiv | mod | pow
  deriving DecidableEq, Inhabited
inductive Cm where
  | eq | ne | lt | le | gt | ge
  deriving DecidableEq, Inhabited
/-- built-in functions and types, called -/
inductive Bt where
  | len | int_ | abs_ | min2 | max2 | min1 | max1 | sum_ | list_ | tuple_ | str_ | ord_ | repr_ | any_ | sorted_
  deriving DecidableEq, Inhabited
/-- methods of lists, dicts, texts -/
inductive Bm where
  | append | index | extend | insert | join | sindex
  deriving DecidableEq, Inhabited
/-- types that isinstance is asked of -/
inductive Ty where
  | int_ | bool_ | str_ | tup_ | lst_
  deriving DecidableEq, Inhabited
inductive Tg where
  | nm (i : Nat) | tp (ts : List Tg)
  deriving Inhabited
mutual
inductive ME where
  | var (i : Nat)
  | lit (c : Cn)
  | bin (o : Op) (obj : Bool) (a b : ME)
  | neg (a : ME)
  | cmp (c : Cm) (a b : ME)
  | isn (neg : Bool) (a : ME)
  | isi (t : Ty) (a : ME)
  | isit (t u : Ty) (a : ME)
  | mem (neg : Bool) (a b : ME)
  | glb (i : Nat)
  | kcat (i : Nat) (obj : Bool) (a : ME) | kidx (i : Nat) (a : ME)
  | kd (ks : List Str) (vs : List Int) (a : ME)
  | dnew
  | dget2 (o k x : ME) | dsetd (o k x : ME)
  | srk (obj : Bool) (o : ME) (f : Nat)
  | dsrt (obj : Bool) (o : ME)
  | cmp2 (c d : Cm) (a b e : ME)
  | bop (conj : Bool) (es : List ME) | not_ (a : ME)
  | ife (c a b : ME)
  | call (f : Nat) (as : List ME)
  | make (C : Nat) (as : List ME)
  | meth (o : ME) (m : Nat) (as : List ME)
  | blt (b : Bt) (obj : Bool) (as : List ME)
  | bm (b : Bm) (obj : Bool) (o : ME) (as : List ME)
  | fld (o : ME) (f : Nat)
  | idx (o i : ME)
  | slc (obj : Bool) (o : ME) (lo hi : Option ME)
  | rev (obj : Bool) (o : ME)
  | lst (obj : Bool) (es : List ME)
  | tup (es : List ME)
  | lc (obj : Bool) (elt : ME) (g : Tg) (it : It) (cond : Option ME) (own : List Nat)
  | frz (e : ME)
/-- what a loop goes over -/
inductive It where
  | seq (e : ME)
  | rng1 (a : ME) | rng2 (a b : ME) | rng3 (a b c : ME)
  | zip (a b : ME)
  | enum (a : ME)
end
instance : Inhabited ME := ⟨.lit .non⟩
inductive MS where
  | ex (e : ME)
  | ret (e : ME) | retn
  | set (i : Nat) (e : ME)
  | unp (g : Tg) (e : ME)
  | setf (o : ME) (f : Nat) (e : ME)
  | seti (o i e : ME)
  | setsl (o : ME) (lo hi : ME) (e : ME)
  | aug (i : Nat) (o : Op) (e : ME)
  | augf (o : ME) (f : Nat) (op : Op) (e : ME)
  | augi (o i : ME) (op : Op) (e : ME)
  | ite (c : ME) (a b : List MS)
  | for_ (g : Tg) (it : It) (body : List MS)
  | while_ (fuel : Nat) (c : ME) (body : List MS)
  | brk | cont | pass
  | frzv (i : Nat)
  | frzs (i : Nat)
  | dput (o k e : ME)
  | forK (g : Tg) (v : Nat) (fl : Option Nat) (body : List MS)
  deriving Inhabited
structure FD where
  np : Nat
  nl : Nat
  body : List MS
  pure_ : Bool
  dflt : List Cn := []
  deriving Inhabited
/-- a class: its methods by number (with the function's), its __init__ -/
structure CD where
  init : Nat
  meths : List (Nat × Nat)
  deriving Inhabited
structure Pg where
  fns : List FD
  cls : List CD
  cns : List D := []
  deriving Inhabited

/-! ### operations on data -/
def szOk (n : Nat) : Bool := Nat.ble n 16777216
def mulOk (i j : Int) : Bool := Nat.ble i.natAbs 18446744073709551615 || Nat.ble j.natAbs 18446744073709551615 || Nat.ble (i.natAbs.log2 + j.natAbs.log2) 999999
def divOk (j : Int) : Bool := decide (0 < j) && Nat.ble (j.natAbs.log2 + 1) 9000
def small62 (i : Int) : Bool := Nat.ble i.natAbs 4611686018427387903
def powOk (i j : Int) : Bool := decide (0 ≤ j) && Nat.ble j.natAbs 1000000 && Nat.ble i.natAbs 18446744073709551615
/-- a new list: a value, or an object -/
def mkL (obj : Bool) (ds : List D) (h : Mm) : Res Mm D :=
  if szOk ds.length = true then (if obj = true then .ok (.ref h.length) (h ++ [.lst ds]) else .ok (.lst ds) h) else .bad
def mkT (ds : List D) (h : Mm) : Res Mm D := if szOk ds.length = true then .ok (.tup ds) h else .bad
/-- the items of a list -/
def lstOf (h : Mm) : D → Option (List D)
  | .lst xs => some xs
  | .scr xs => some xs
  | .ref n => match h[n]? with | some (.lst xs) => some xs | _ => none
  | _ => none
/-- of a list of ours -/
def lstW (h : Mm) : D → Option (List D)
  | .lst xs => some xs
  | .ref n => match h[n]? with | some (.lst xs) => some xs | _ => none
  | _ => none
def seqOf (h : Mm) : D → Option (List D)
  | .tup xs => some xs
  | d => lstOf h d
/-- plain data -/
def toP (h : Mm) : Nat → D → Option PyData
  | 0, _ => none
  | _ + 1, .non => some .none
  | _ + 1, .bl b => some (.bool b)
  | _ + 1, .int i => some (.int i)
  | _ + 1, .str x => some (.str x)
  | k + 1, .tup xs => (xs.mapM (toP h k)).map .tuple
  | k + 1, .lst xs => (xs.mapM (toP h k)).map .list
  | k + 1, .scr xs => (xs.mapM (toP h k)).map .list
  | k + 1, .ref n => match h[n]? with | some (.lst xs) => (xs.mapM (toP h k)).map .list | _ => none
  | _ + 1, _ => none
mutual
/-- no id in it -/
def nr : D → Bool
  | .non => true
  | .bl _ => true
  | .int _ => true
  | .str _ => true
  | .tup xs => nrs xs
  | .lst xs => nrs xs
  | .scr xs => nrs xs
  | .dct kvs => nrk kvs
  | .ins _ fs => nrf fs
  | .ref _ => false
def nrs : List D → Bool
  | [] => true
  | d :: ds => nr d && nrs ds
def nrk : List (L2.Key × D) → Bool
  | [] => true
  | d :: ds => nr d.2 && nrk ds
def nrf : List (Nat × D) → Bool
  | [] => true
  | d :: ds => nr d.2 && nrf ds
end
/-- without ids -/
def rsv (h : Mm) : Nat → D → Option D
  | 0, _ => none
  | k + 1, d => if nr d = true then some d else match d with
    | .tup xs => (xs.mapM (rsv h k)).map .tup
    | .lst xs => (xs.mapM (rsv h k)).map .lst
    | .scr xs => (xs.mapM (rsv h k)).map .scr
    | .ref n => match h[n]? with
      | some (.lst xs) => (xs.mapM (rsv h k)).map .lst
      | some (.ins C fs) => (fs.mapM fun p => (rsv h k p.2).map fun d => (p.1, d)).map (.ins C)
      | some (.dct kvs) => (kvs.mapM fun p => (rsv h k p.2).map fun d => (p.1, d)).map .dct
      | _ => none
    | .ins C fs => (fs.mapM fun p => (rsv h k p.2).map fun d => (p.1, d)).map (.ins C)
    | .dct kvs => (kvs.mapM fun p => (rsv h k p.2).map fun d => (p.1, d)).map .dct
    | _ => none
/-- .. where a frozen list within might be somebody else's -/
def own (h : Mm) : Nat → D → Option D
  | 0, _ => none
  | k + 1, d => match d with
    | .non => some .non
    | .bl b => some (.bl b)
    | .int i => some (.int i)
    | .str x => some (.str x)
    | .tup xs => (xs.mapM (own h k)).map .tup
    | .ref n => match h[n]? with
      | some (.lst xs) => (xs.mapM (own h k)).map .lst
      | some (.ins C fs) => (fs.mapM fun p => (own h k p.2).map fun d => (p.1, d)).map (.ins C)
      | some (.dct kvs) => (kvs.mapM fun p => (own h k p.2).map fun d => (p.1, d)).map .dct
      | _ => none
    | _ => none
def eqD (h : Mm) : D → D → Option Bool
  | .int i, .int j => some (i == j)
  | .str x, .str y => some (decide (x = y))
  | a, b => match toP h 9 a, toP h 9 b with
    | some p, some q => if SeqAt.shaped p = true ∧ SeqAt.shaped q = true then some (PyData.eqv p q) else none
    | _, _ => none
/-- text comparisons -/
def ltS (x y : Str) : Bool := decide (x.cps.toList < y.cps.toList)
/-- numbers and texts, as keys; their order within tuples -/
def isKey : D → Option L2.Key
  | .int i => some (.inl i)
  | .str x => some (.inr x)
  | _ => none
def keysD : List D → Option (List L2.Key)
  | [] => some []
  | d :: ds => (isKey d).bind fun k => (keysD ds).map fun ks => k :: ks
def keyLt : L2.Key → L2.Key → Option Bool
  | .inl a, .inl b => some (decide (a < b))
  | .inr a, .inr b => some (ltS a b)
  | _, _ => none
/-- the first tuple is the less; none: at their first difference they have no order -/
def ltK : List L2.Key → List L2.Key → Option Bool
  | [], [] => some false
  | [], _ :: _ => some true
  | _ :: _, [] => some false
  | x :: xs, y :: ys => if x = y then ltK xs ys else keyLt x y
def ltT (xs ys : List D) : Option Bool :=
  match keysD xs, keysD ys with
  | some ks, some ls => ltK ks ls
  | _, _ => none
def cmpD (c : Cm) (h : Mm) (a b : D) : Option Bool :=
  match c with
  | .eq => eqD h a b
  | .ne => (eqD h a b).map not
  | .lt => match a, b with | .int i, .int j => some (decide (i < j)) | .str x, .str y => some (ltS x y) | .tup xs, .tup ys => ltT xs ys | _, _ => none
  | .le => match a, b with | .int i, .int j => some (decide (i ≤ j)) | .str x, .str y => some (!ltS y x) | _, _ => none
  | .gt => match a, b with | .int i, .int j => some (decide (j < i)) | .str x, .str y => some (ltS y x) | .tup xs, .tup ys => ltT ys xs | _, _ => none
  | .ge => match a, b with | .int i, .int j => some (decide (j ≤ i)) | .str x, .str y => some (!ltS x y) | _, _ => none
def addD (obj : Bool) (h : Mm) : D → D → Res Mm D
  | .int i, .int j => .ok (.int (i + j)) h
  | .str x, .str y => if szOk (x.length + y.length) = true then .ok (.str (x ++ y)) h else .bad
  | .tup xs, .tup ys => if szOk (xs.length + ys.length) = true then .ok (.tup (xs ++ ys)) h else .bad
  | a, b => match lstW h a, lstW h b with
    | some xs, some ys => mkL obj (xs ++ ys) h
    | _, _ => .bad
/-- a text that is not made too long -/
def repOk (x : Str) (k : Int) : Bool := decide (0 ≤ k) && decide (k ≤ 1000000) && Nat.ble (x.length * k.toNat) 1000000 && Nat.ble x.length 1000000
def mulD (obj : Bool) (h : Mm) : D → D → Res Mm D
  | .int i, .int j => if mulOk i j = true then .ok (.int (i * j)) h else .bad
  | .str x, .int k => if repOk x k = true then .ok (.str (PySem.Txt.mul x k)) h else .bad
  | a, .int k => match lstW h a with
    | some xs => if small62 k = true then mkL obj (List.replicate k.toNat xs).flatten h else .bad
    | none => .bad
  | _, _ => .bad
def arD (c : Int → Int → Bool) (f : Int → Int → Int) (h : Mm) : D → D → Res Mm D
  | .int i, .int j => if c i j = true then .ok (.int (f i j)) h else .bad
  | _, _ => .bad
def binD (o : Op) (obj : Bool) (a b : D) (h : Mm) : Res Mm D :=
  match o with
  | .add => addD obj h a b
  | .sub => arD (fun _ _ => true) (· - ·) h a b
  | .mul => mulD obj h a b
  | .fdiv => arD (fun _ j => divOk j) (· / ·) h a b
  | .mod => arD (fun _ j => decide (0 < j)) (· % ·) h a b
  | .pow => arD powOk (fun i j => i ^ j.toNat) h a b
def truthD (h : Mm) : D → Option Bool
  | .non => some false
  | .bl b => some b
  | .int i => some (i != 0)
  | .tup xs => some (!xs.isEmpty)
  | d => (lstOf h d).map fun xs => !xs.isEmpty
def fldD (h : Mm) (f : Nat) : D → Option D
  | .ins _ fs => fs.lookup f
  | .ref n => match h[n]? with | some (.ins _ fs) => fs.lookup f | _ => none
  | _ => none
def clsD (h : Mm) : D → Option Nat
  | .ins C _ => some C
  | .ref n => match h[n]? with | some (.ins C _) => some C | _ => none
  | _ => none
/-! ### dicts -/
def keyD : L2.Key → D
  | .inl i => .int i
  | .inr x => .str x
def dctOf (h : Mm) : D → Option (List (L2.Key × D))
  | .dct kvs => some kvs
  | .ref n => match h[n]? with | some (.dct kvs) => some kvs | some (.ldct kvs) => some kvs | _ => none
  | _ => none
def valD : List (L2.Key × D) → L2.Key → Option D
  | [], _ => none
  | p :: r, k => if p.1 = k then some p.2 else valD r k
def putD (kvs : List (L2.Key × D)) (k : L2.Key) (d : D) : List (L2.Key × D) :=
  if (kvs.any fun kv => decide (kv.1 = k)) = true then kvs.map (fun kv => if kv.1 = k then (kv.1, d) else kv) else kvs ++ [(k, d)]
/-- what stands at a key -/
def atD (h : Mm) (x y : D) : Option (Option D) :=
  match dctOf h x, isKey y with
  | some kvs, some k => some (valD kvs k)
  | _, _ => none
/-- texts in their order -/
def insS (x : Str) : List Str → List Str
  | [] => [x]
  | y :: ys => if ltS y x = true then y :: insS x ys else x :: y :: ys
def srtS : List Str → List Str
  | [] => []
  | x :: xs => insS x (srtS xs)
def strKeys : List (L2.Key × D) → Option (List Str)
  | [] => some []
  | (.inr x, _) :: r => (strKeys r).map fun l => x :: l
  | _ :: _ => none
def idxD (h : Mm) : D → D → Option D
  | .str x, .int i => if szOk x.length = true then (L2.atI x.cps.toList i).map fun c => .str ⟨#[c]⟩ else none
  | o, .int i => match seqOf h o with | some xs => L2.atI xs i | none => match dctOf h o with | some kvs => valD kvs (.inl i) | none => none
  | o, .str z => match dctOf h o with | some kvs => valD kvs (.inr z) | none => none
  | _, _ => none
/-- a slice -/
def cutD {α : Type} (xs : List α) (l u : Option Int) : List α := (xs.drop (HT.sIx xs.length 0 l)).take (HT.sIx xs.length xs.length u - HT.sIx xs.length 0 l)
def slcD (obj : Bool) (h : Mm) (x : D) (l u : Option Int) : Res Mm D :=
  match x with
  | .tup xs => .ok (.tup (cutD xs l u)) h
  | .str z => if szOk z.length = true then .ok (.str (L2.cutS z l u)) h else .bad
  | x => match lstOf h x with
    | some xs => mkL obj (cutD xs l u) h
    | none => .bad
/-- flat values -/
def flatD : D → Option L2.V
  | .non => some .non
  | .bl b => some (.bl b)
  | .int i => some (.int i)
  | .str x => some (.str x)
  | _ => none
def flatsD : List D → Option (List L2.V)
  | [] => some []
  | d :: ds => (flatD d).bind fun v => (flatsD ds).map fun vs => v :: vs
/-- x in xs -/
def memD (h : Mm) (x : D) (o : D) : Option Bool :=
  match seqOf h o with
  | some xs => match flatD x, flatsD xs with
    | some v, some vs => some (L2.inV v vs)
    | _, _ => match lstOf h o with
      | some xs => match toP h 9 x, xs.mapM (toP h 9) with
        | some p, some ps => if SeqAt.shaped p = true ∧ SeqAt.shaped (.list ps) = true then some (ps.any fun z => PyData.eqv z p) else none
        | _, _ => none
      | none => none
  | none => match atD h o x with
    | some r => some r.isSome
    | none => none
/-- .. of an object -/
def idxM (h : Mm) : D → D → Option D
  | .ref n, .int i => match h[n]? with | some (.lst xs) => L2.atI xs i | _ => none
  | _, _ => none
/-- d[k] = v -/
def dputD (x y z : D) (h : Mm) : Option Mm :=
  match x, isKey y with
  | .ref n, some k => match h[n]? with
    | some (.dct kvs) => if szOk (kvs.length + 1) = true then some (h.set n (.dct (putD kvs k z))) else none
    | _ => none
  | _, _ => none
/-- d.setdefault(k, v) -/
def setdD (x y z : D) (h : Mm) : Res Mm D :=
  match x, isKey y with
  | .ref n, some k => match h[n]? with
    | some (.dct kvs) => if szOk (kvs.length + 1) = true then (match valD kvs k with
      | some v => .ok v h
      | none => .ok z (h.set n (.dct (putD kvs k z)))) else .bad
    | _ => .bad
  | _, _ => .bad
/-- n takes the value d -/
def putF (f : Nat) (d : D) : List (Nat × D) → List (Nat × D)
  | [] => [(f, d)]
  | (g, x) :: r => if g = f then (g, d) :: r else (g, x) :: putF f d r
def setFD (o : D) (f : Nat) (d : D) (h : Mm) : Option Mm :=
  match o with
  | .ref n => match h[n]? with
    | some (.ins C fs) => if fs.length < 900 then some (h.set n (.ins C (putF f d fs))) else none
    | _ => none
  | _ => none
def setID (o i d : D) (h : Mm) : Option Mm :=
  match o, i with
  | .ref n, .int i => match h[n]? with
    | some (.lst xs) => match L2.ixN xs.length i with
      | some j => some (h.set n (.lst (xs.set j d)))
      | none => none
    | _ => none
  | _, _ => none
def notRef (n : Nat) : D → Bool
  | .ref k => !(k == n)
  | _ => true
def setSD (o : D) (lo hi : Int) (d : D) (h : Mm) : Option Mm :=
  match o with
  | .ref n => match h[n]?, lstW h d with
    | some (.lst xs), some ys => if (decide (0 ≤ lo) && decide (lo ≤ hi) && decide (hi ≤ (xs.length : Int)) && szOk (xs.length + ys.length) && notRef n d) = true then some (h.set n (.lst (xs.take lo.toNat ++ ys ++ xs.drop hi.toNat))) else none
    | _, _ => none
  | _ => none
def augI : Op → Int → Int → Option Int
  | .add, a, b => some (a + b)
  | .sub, a, b => some (a - b)
  | _, _, _ => none
def augD (o : Op) : D → D → Option D
  | .int a, .int b => (augI o a b).map .int
  | _, _ => none
def isStr : D → Option Str
  | .str i => some i
  | _ => none
def strsOf (xs : List D) : Option (List Str) := xs.mapM isStr
def isBl : D → Option Bool
  | .bl i => some i
  | _ => none
def blsOf (xs : List D) : Option (List Bool) := xs.mapM isBl
def isInt : D → Option Int
  | .int i => some i
  | _ => none
def minI : List Int → Int
  | [] => 0
  | [x] => x
  | x :: y :: r => min x (minI (y :: r))
def maxI : List Int → Int
  | [] => 0
  | [x] => x
  | x :: y :: r => max x (maxI (y :: r))
def intsOf (xs : List D) : Option (List Int) := xs.mapM isInt
def bltD (b : Bt) (obj : Bool) (as : List D) (h : Mm) : Res Mm D :=
  match b, as with
  | .len, [.str x] => if szOk x.length = true then .ok (.int x.length) h else .bad
  | .len, [d] => match seqOf h d with | some xs => .ok (.int xs.length) h | none => .bad
  | .int_, [.int i] => .ok (.int i) h
  | .int_, [.bl b] => .ok (.int (if b = true then 1 else 0)) h
  | .abs_, [.int i] => .ok (.int (if i < 0 then -i else i)) h
  | .min2, [.int i, .int j] => .ok (.int (if j < i then j else i)) h
  | .max2, [.int i, .int j] => .ok (.int (if j > i then j else i)) h
  | .min1, [d] => match lstOf h d with
    | some xs => match intsOf xs with
      | some ns => if ns.length = 0 then .bad else .ok (.int (minI ns)) h
      | none => .bad
    | none => .bad
  | .max1, [d] => match lstOf h d with
    | some xs => match intsOf xs with
      | some ns => if ns.length = 0 then .bad else .ok (.int (maxI ns)) h
      | none => .bad
    | none => .bad
  | .sum_, [d] => match lstOf h d with
    | some xs => match intsOf xs with
      | some ns => .ok (.int ns.sum) h
      | none => .bad
    | none => .bad
  | .str_, [.int i] => if Nat.ble (i.natAbs.log2 + 1) 1920 = true then .ok (.str (toString i)) h else .bad
  | .ord_, [.str x] => if Nat.beq x.length 1 = true then .ok (.int (x.cps.getD 0 0 : Nat)) h else .bad
  | .any_, [d] => match lstOf h d with
    | some xs => match blsOf xs with
      | some ns => .ok (.bl (ns.any id)) h
      | none => .bad
    | none => .bad
  | .list_, [d] => match seqOf h d with | some xs => mkL obj xs h | none => .bad
  | .tuple_, [d] => match lstOf h d with | some xs => mkT xs h | none => .bad
  | _, _ => .bad
def bmD (b : Bm) (obj : Bool) (o : D) (as : List D) (h : Mm) : Res Mm D :=
  match b, o, as with
  | .append, .ref n, [d] => match h[n]? with
    | some (.lst xs) => if szOk (xs.length + 1) = true then .ok .non (h.set n (.lst (xs ++ [d]))) else .bad
    | _ => .bad
  | .extend, .ref n, [.tup ys] => match h[n]? with
    | some (.lst xs) => if szOk (xs.length + ys.length) = true then .ok .non (h.set n (.lst (xs ++ ys))) else .bad
    | _ => .bad
  | .extend, .ref n, [d] => match h[n]?, lstW h d with
    | some (.lst xs), some ys => if szOk (xs.length + ys.length) = true then .ok .non (h.set n (.lst (xs ++ ys))) else .bad
    | _, _ => .bad
  | .insert, .ref n, [.int i, d] => match h[n]? with
    | some (.lst xs) => if (szOk (xs.length + 1) && decide (0 ≤ i) && small62 i) = true then .ok .non (h.set n (.lst (xs.take i.toNat ++ [d] ++ xs.drop i.toNat))) else .bad
    | _ => .bad
  | .join, .str x, [d] => match seqOf h d with
    | some xs => match strsOf xs with
      | some ys => if szOk ((ys.map (·.length)).sum + ys.length * x.length) = true then .ok (.str (Txt.join x ys)) h else .bad
      | none => .bad
    | none => .bad
  | .index, o, [.str i] => match lstOf h o with
    | some xs => match strsOf xs with
      | some ns => match ns.idxOf? i with
        | some k => .ok (.int k) h
        | none => .bad
      | none => .bad
    | none => .bad
  | .index, o, [.int i] => match lstOf h o with
    | some xs => match intsOf xs with
      | some ns => match ns.idxOf? i with
        | some k => .ok (.int k) h
        | none => .bad
      | none => .bad
    | none => .bad
  | .sindex, .str a, [.str b] => match PySem.Builtin.Str.occurrences a b 0 a.length 1 with
    | i :: _ => .ok (.int (i : Nat)) h
    | [] => .bad
  | _, _, _ => .bad
/-- whether it is of the method's type -/
def bmTy (b : Bm) (h : Mm) (d : D) : Bool :=
  match b with
  | .append | .index | .extend | .insert => (lstOf h d).isSome
  | .join | .sindex => match d with | .str _ => true | _ => false
/-- one after another, the memory handed on -/
def thr {α β : Type} (f : α → Mm → Option (β × Mm)) : List α → Mm → Option (List β × Mm)
  | [], h => some ([], h)
  | x :: xs, h => (f x h).bind fun q => (thr f xs q.2).bind fun r => some (q.1 :: r.1, r.2)
/-- the frozen form; its ids are dead from then on -/
def frzN : Nat → D → Mm → Option (D × Mm)
  | 0, _, _ => none
  | k + 1, d, h => if nr d = true then some (d, h) else match d with
    | .tup xs => (thr (frzN k) xs h).map fun q => (.tup q.1, q.2)
    | .lst xs => (thr (frzN k) xs h).map fun q => (.lst q.1, q.2)
    | .scr xs => (thr (frzN k) xs h).map fun q => (.scr q.1, q.2)
    | .ins C fs => (thr (fun p h => (frzN k p.2 h).map fun q => ((p.1, q.1), q.2)) fs h).map fun q => (.ins C q.1, q.2)
    | .dct kvs => (thr (fun p h => (frzN k p.2 h).map fun q => ((p.1, q.1), q.2)) kvs h).map fun q => (.dct q.1, q.2)
    | .ref n => match h[n]? with
      | some (.lst xs) => (thr (frzN k) xs (h.set n .dead)).map fun q => (.lst q.1, q.2)
      | some (.ins C fs) => (thr (fun p h => (frzN k p.2 h).map fun q => ((p.1, q.1), q.2)) fs (h.set n .dead)).map fun q => (.ins C q.1, q.2)
      | some (.dct kvs) => (thr (fun p h => (frzN k p.2 h).map fun q => ((p.1, q.1), q.2)) kvs (h.set n .dead)).map fun q => (.dct q.1, q.2)
      | _ => none
    | _ => none
def frzD (d : D) (h : Mm) : Res Mm D :=
  match frzN 9 d h with
  | some (d', h') => .ok d' h'
  | none => .bad

/-- the name of a value's type -/
def tyN (h : Mm) : D → Option String
  | .non => some "NoneType"
  | .bl _ => some "bool"
  | .int _ => some "int"
  | .str _ => some "str"
  | .tup _ => some "tuple"
  | .lst _ => some "list"
  | .scr _ => some "list"
  | .dct _ => some "dict"
  | .ref n => match h[n]? with | some (.lst _) => some "list" | some (.dct _) => some "dict" | _ => none
  | _ => none
def Ty.nm : Ty → String
  | .int_ => "int" | .bool_ => "bool" | .str_ => "str" | .tup_ => "tuple" | .lst_ => "list"
def isiB (t : Ty) (a : String) : Bool := decide (a = t.nm) || (decide (a = "bool") && decide (t = .int_))
/-! ### what is gone over -/
def frzL : D → Option (List D)
  | .lst xs => some xs
  | .scr xs => some xs
  | _ => none
def rngL (a : Int) (n : Nat) (c : Int) : List D := (List.range n).map fun (k : Nat) => .int (a + (k : Int) * c)
def rngOk (i j k : Int) : Bool := decide (k ≠ 0) && Nat.ble k.natAbs 1073741823 && Builtin.Range.small i j k && decide (0 ≤ Builtin.Range.rangeSize i j k)
/-! ### targets -/
mutual
def bindT : Tg → D → List (Option D) → Option (List (Option D))
  | .nm i, d, sl => some (sl.set i (some d))
  | .tp ts, .tup xs, sl => bindTs ts xs sl
  | .tp _, _, _ => none
def bindTs : List Tg → List D → List (Option D) → Option (List (Option D))
  | [], [], sl => some sl
  | t :: ts, d :: ds, sl => (bindT t d sl).bind fun sl => bindTs ts ds sl
  | _, _, _ => none
end
def wipe (sl : List (Option D)) : List Nat → List (Option D)
  | [] => sl
  | v :: vs => (wipe sl vs).set v none

def pathN (sl : List (Option D)) (h : Mm) (v : Nat) (fl : Option Nat) : Option Nat :=
  match sl[v]? with
  | some (some d) => match fl with
    | none => match d with | .ref n => some n | _ => none
    | some f => match fldD h f d with | some (.ref n) => some n | _ => none
  | _ => none
/-- a written dict of texts and numbers -/
def kdL : List Str → List Int → List (L2.Key × L2.V)
  | k :: ks, v :: vs => (.inr k, .int v) :: kdL ks vs
  | _, _ => []
def kdAt (ks : List Str) (vs : List Int) (z : Str) : Option Int :=
  match L2.valV (L2.mergeK [] (kdL ks vs)) (.inr z) with
  | some (.int i) => some i
  | _ => none
/-! ### what expressions do -/
abbrev Calls := Nat → List D → Mm → Res Mm D
/-! ### sorted by a key -/
abbrev Tk := Int ⊕ List Nat
def toksK (ks : List L2.Key) : List Tk := ks.map fun k => match k with | .inl i => .inl i | .inr x => .inr x.cps.toList
/-- 0 and a number, 1 and a text, one after another -/
def rowK : List L2.Key → Bool
  | [] => true
  | .inl a :: .inl _ :: r => decide (a = 0) && rowK r
  | .inl a :: .inr _ :: r => decide (a = 1) && rowK r
  | _ => false
def srtK (ps : List (D × List Tk)) : List D := (ps.mergeSort (PySem.W.sortLe (PyProof.Rows.listOrd PyProof.Rows.itemOrd) false fun p => p.2)).map (·.1)
def keyOk (ks : List L2.Key) : Bool := rowK ks && !ks.isEmpty
def keyL (c : Calls) (f : Nat) : List D → Mm → Res Mm (List (D × List Tk))
  | [], h => .ok [] h
  | x :: xs, h => match c f [x] h with
    | .ok (.tup ds) h => match keysD ds with
      | some ks => if keyOk ks = true then (keyL c f xs h).bind fun r h => .ok ((x, toksK ks) :: r) h else .bad
      | none => .bad
    | _ => .bad
/-- over the items, each mapped; b: whether it is kept -/
def mapL (f : D → Mm → Res Mm (Option D)) : List D → Mm → Res Mm (List D)
  | [], h => .ok [] h
  | x :: xs, h => (f x h).bind fun y h => (mapL f xs h).bind fun ys h => match y with
    | some y => .ok (y :: ys) h
    | none => .ok ys h
def noExn {σ α : Type} : Res σ α → Res σ α
  | .exn _ _ _ => .bad
  | r => r
mutual
def evalE (p : Pg) (c : Calls) : ME → List (Option D) → Mm → Res Mm D
  | .var i, sl, h => match sl[i]? with | some (some d) => .ok d h | _ => .bad
  | .lit k, _, h => .ok k.d h
  | .bin o obj a b, sl, h => (evalE p c a sl h).bind fun x h => (evalE p c b sl h).bind fun y h => binD o obj x y h
  | .neg a, sl, h => (evalE p c a sl h).bind fun x h => match x with | .int i => .ok (.int (-i)) h | _ => .bad
  | .cmp k a b, sl, h => (evalE p c a sl h).bind fun x h => (evalE p c b sl h).bind fun y h => match cmpD k h x y with | some b => .ok (.bl b) h | none => .bad
  | .isn ng a, sl, h => (evalE p c a sl h).bind fun x h => match x with | .non => .ok (.bl (!ng)) h | _ => .ok (.bl ng) h
  | .isi t a, sl, h => (evalE p c a sl h).bind fun x h => match tyN h x with | some n => .ok (.bl (isiB t n)) h | none => .bad
  | .isit t u a, sl, h => (evalE p c a sl h).bind fun x h => match tyN h x with | some n => .ok (.bl (isiB t n || isiB u n)) h | none => .bad
  | .mem ng a b, sl, h => (evalE p c a sl h).bind fun x h => (evalE p c b sl h).bind fun y h => match memD h x y with | some b => .ok (.bl (if ng = true then !b else b)) h | none => .bad
  | .glb i, _, h => match p.cns[i]? with | some k => .ok k h | none => .bad
  | .kcat i obj a, sl, h => (evalE p c a sl h).bind fun x h => match p.cns[i]?, lstW h x with | some (.scr xs), some ys => mkL obj (xs ++ ys) h | _, _ => .bad
  | .kidx i a, sl, h => (evalE p c a sl h).bind fun x h => match p.cns[i]?, x with
    | some (.tup xs), .str z => match strsOf xs with
      | some ns => match ns.idxOf? z with
        | some k => .ok (.int k) h
        | none => .bad
      | none => .bad
    | _, _ => .bad
  | .kd ks vs a, sl, h => (evalE p c a sl h).bind fun x h => match x with
    | .str z => match kdAt ks vs z with
      | some i => .ok (.int i) h
      | none => .bad
    | _ => .bad
  | .dnew, _, h => .ok (.ref h.length) (h ++ [.dct []])
  | .dget2 o i e, sl, h => (evalE p c o sl h).bind fun x h => if (dctOf h x).isSome = true then (evalE p c i sl h).bind fun y h => (evalE p c e sl h).bind fun z h => match atD h x y with
    | some r => .ok (r.getD z) h
    | none => .bad
    else .bad
  | .dsetd o i e, sl, h => (evalE p c o sl h).bind fun x h => if (dctOf h x).isSome = true then (evalE p c i sl h).bind fun y h => (evalE p c e sl h).bind fun z h => setdD x y z h else .bad
  | .srk obj o f, sl, h => (evalE p c o sl h).bind fun x h => match lstOf h x with
    | some xs => (keyL c f xs h).bind fun ps h => mkL obj (srtK ps) h
    | none => .bad
  | .dsrt obj o, sl, h => (evalE p c o sl h).bind fun x h => match dctOf h x with
    | some kvs => match strKeys kvs with
      | some ks => if Nat.blt ks.length 64 = true then mkL obj ((srtS ks).map .str) h else .bad
      | none => .bad
    | none => .bad
  | .cmp2 k l a b e, sl, h => (evalE p c a sl h).bind fun x h => (evalE p c b sl h).bind fun y h => match cmpD k h x y with
    | some true => (evalE p c e sl h).bind fun z h => match cmpD l h y z with | some b => .ok (.bl b) h | none => .bad
    | some false => .ok (.bl false) h
    | none => .bad
  | .bop k es, sl, h => evalB p c k es sl h
  | .not_ a, sl, h => (evalE p c a sl h).bind fun x h => match truthD h x with | some b => .ok (.bl (!b)) h | none => .bad
  | .ife k a b, sl, h => (evalE p c k sl h).bind fun x h => match truthD h x with | some true => evalE p c a sl h | some false => evalE p c b sl h | none => .bad
  | .call f as, sl, h => (evalEs p c as sl h).bind fun xs h => c f xs h
  | .make C as, sl, h => (evalEs p c as sl h).bind fun xs h => match p.cls[C]? with
    | some cd => (c cd.init (.ref h.length :: xs) (h ++ [.ins C []])).bind fun r h' => match r with | .non => .ok (.ref h.length) h' | _ => .bad
    | none => .bad
  | .meth o m as, sl, h => (evalE p c o sl h).bind fun x h => match clsD h x with
    | some C => match p.cls[C]? with
      | some cd => match cd.meths.lookup m with
        | some f => (evalEs p c as sl h).bind fun xs h => c f (x :: xs) h
        | none => .bad
      | none => .bad
    | none => .bad
  | .blt b obj as, sl, h => (evalEs p c as sl h).bind fun xs h => bltD b obj xs h
  | .bm b obj o as, sl, h => (evalE p c o sl h).bind fun x h => if bmTy b h x = true then (evalEs p c as sl h).bind fun xs h => bmD b obj x xs h else .bad
  | .fld o f, sl, h => (evalE p c o sl h).bind fun x h => match fldD h f x with | some d => .ok d h | none => .bad
  | .idx o i, sl, h => (evalE p c o sl h).bind fun x h => (evalE p c i sl h).bind fun y h => match idxD h x y with | some d => .ok d h | none => .bad
  | .slc obj o lo hi, sl, h => (evalE p c o sl h).bind fun x h => (evalO p c lo sl h).bind fun l h => (evalO p c hi sl h).bind fun u h => slcD obj h x l u
  | .rev obj o, sl, h => (evalE p c o sl h).bind fun x h => match lstOf h x with
    | some xs => mkL obj xs.reverse h
    | none => .bad
  | .lst obj es, sl, h => (evalEs p c es sl h).bind fun xs h => mkL obj xs h
  | .tup es, sl, h => (evalEs p c es sl h).bind fun xs h => mkT xs h
  | .lc obj elt g it cond own, sl, h => (evalI p c it sl h).bind fun xs h =>
      (mapL (fun x h => match bindT g x (wipe sl own) with
        | some sl' => match cond with
          | some k => (noExn (evalE p c k sl' h)).bind fun b h => match truthD h b with
            | some true => (noExn (evalE p c elt sl' h)).bind fun y h => .ok (some y) h
            | some false => .ok none h
            | none => .bad
          | none => (noExn (evalE p c elt sl' h)).bind fun y h => .ok (some y) h
        | none => .bad) xs h).bind fun ys h => mkL obj ys h
  | .frz e, sl, h => (evalE p c e sl h).bind fun x h => frzD x h
def evalEs (p : Pg) (c : Calls) : List ME → List (Option D) → Mm → Res Mm (List D)
  | [], _, h => .ok [] h
  | e :: es, sl, h => (evalE p c e sl h).bind fun x h => (evalEs p c es sl h).bind fun xs h => .ok (x :: xs) h
def evalB (p : Pg) (c : Calls) (k : Bool) : List ME → List (Option D) → Mm → Res Mm D
  | [], _, _ => .bad
  | [e], sl, h => evalE p c e sl h
  | e :: es, sl, h => (evalE p c e sl h).bind fun x h => match truthD h x with
    | some b => if b = k then evalB p c k es sl h else .ok x h
    | none => .bad
def evalO (p : Pg) (c : Calls) : Option ME → List (Option D) → Mm → Res Mm (Option Int)
  | none, _, h => .ok none h
  | some e, sl, h => (evalE p c e sl h).bind fun x h => match x with | .int i => .ok (some i) h | _ => .bad
def evalI (p : Pg) (c : Calls) : It → List (Option D) → Mm → Res Mm (List D)
  | .seq e, sl, h => (evalE p c e sl h).bind fun x h => match x with
    | .tup xs => .ok xs h
    | .lst xs => .ok xs h
    | .scr xs => .ok xs h
    | .str x => .ok (x.cps.toList.map fun c => .str ⟨#[c]⟩) h
    | _ => .bad
  | .rng1 a, sl, h => (evalE p c a sl h).bind fun x h => match x with
    | .int j => if small62 j = true then .ok ((List.range j.toNat).map fun (k : Nat) => .int k) h else .bad
    | _ => .bad
  | .rng2 a b, sl, h => (evalE p c a sl h).bind fun x h => (evalE p c b sl h).bind fun y h => match x, y with
    | .int i, .int j => if small62 i = true ∧ small62 j = true then .ok (rngL i (j - i).toNat 1) h else .bad
    | _, _ => .bad
  | .rng3 a b k, sl, h => (evalE p c a sl h).bind fun x h => (evalE p c b sl h).bind fun y h => (evalE p c k sl h).bind fun z h => match x, y, z with
    | .int i, .int j, .int k => if rngOk i j k = true then .ok (rngL i (Builtin.Range.rangeSize i j k).toNat k) h else .bad
    | _, _, _ => .bad
  | .zip a b, sl, h => (evalE p c a sl h).bind fun x h => (evalE p c b sl h).bind fun y h => match x, y with
    | .tup xs, .tup ys => .ok ((xs.zip ys).map fun q => .tup [q.1, q.2]) h
    | a, b => match frzL a, frzL b with
      | some xs, some ys => .ok ((xs.zip ys).map fun q => .tup [q.1, q.2]) h
      | _, _ => .bad
  | .enum a, sl, h => (evalE p c a sl h).bind fun x h => match x with
    | .lst xs => .ok ((List.range xs.length).zip xs |>.map fun q => .tup [.int q.1, q.2]) h
    | _ => .bad
end

/-! ### statements -/
structure Sx where
  sl : List (Option D)
  hp : Mm
inductive Fl where
  | nx | bk | ct | rt (d : D)
/-- an expression's end, taken up by a statement -/
def up {α β : Type} (sl : List (Option D)) (r : Res Mm α) (k : α → Mm → Res Sx β) : Res Sx β :=
  match r with
  | .ok a h => k a h
  | .exn C p h => .exn C p ⟨sl, h⟩
  | .bad => .bad
@[simp] theorem up_ok {α β : Type} (sl : List (Option D)) (a : α) (h : Mm) (k : α → Mm → Res Sx β) : up sl (.ok a h) k = k a h := rfl
@[simp] theorem up_exn {α β : Type} (sl : List (Option D)) (C : Nat) (p : Option D) (h : Mm) (k : α → Mm → Res Sx β) : up sl (.exn C p h : Res Mm α) k = .exn C p ⟨sl, h⟩ := rfl
@[simp] theorem up_bad {α β : Type} (sl : List (Option D)) (k : α → Mm → Res Sx β) : up sl (.bad : Res Mm α) k = .bad := rfl
/-- the items one after another -/
def forL (f : D → Sx → Res Sx Fl) : List D → Sx → Res Sx Fl
  | [], s => .ok .nx s
  | x :: xs, s => (f x s).bind fun r s => match r with
    | .nx => forL f xs s
    | .ct => forL f xs s
    | .bk => .ok .nx s
    | .rt d => .ok (.rt d) s
def whileL (f : Sx → Res Sx (Option Fl)) : Nat → Sx → Res Sx Fl
  | 0, _ => .bad
  | n + 1, s => (f s).bind fun r s => match r with
    | none => .ok .nx s
    | some .nx => whileL f n s
    | some .ct => whileL f n s
    | some .bk => .ok .nx s
    | some (.rt d) => .ok (.rt d) s
mutual
def execS (p : Pg) (c : Calls) : MS → Sx → Res Sx Fl
  | .ex e, s => up s.sl (evalE p c e s.sl s.hp) fun _ h => .ok .nx ⟨s.sl, h⟩
  | .ret e, s => up s.sl (evalE p c e s.sl s.hp) fun d h => .ok (.rt d) ⟨s.sl, h⟩
  | .retn, s => .ok (.rt .non) s
  | .set i e, s => up s.sl (evalE p c e s.sl s.hp) fun d h => .ok .nx ⟨s.sl.set i (some d), h⟩
  | .unp g e, s => up s.sl (evalE p c e s.sl s.hp) fun d h => match bindT g d s.sl with
    | some sl => .ok .nx ⟨sl, h⟩
    | none => .bad
  | .setf o f e, s => up s.sl (evalE p c e s.sl s.hp) fun d h => up s.sl (evalE p c o s.sl h) fun x h => match setFD x f d h with
    | some h => .ok .nx ⟨s.sl, h⟩
    | none => .bad
  | .seti o i e, s => up s.sl (evalE p c e s.sl s.hp) fun d h => up s.sl (evalE p c o s.sl h) fun x h => up s.sl (evalE p c i s.sl h) fun y h => match setID x y d h with
    | some h => .ok .nx ⟨s.sl, h⟩
    | none => .bad
  | .setsl o i k e, s => up s.sl (evalE p c e s.sl s.hp) fun d h => up s.sl (evalE p c o s.sl h) fun x h => up s.sl (evalE p c i s.sl h) fun y h => match y with
    | .int y => up s.sl (evalE p c k s.sl h) fun z h => match z with
      | .int z => match setSD x y z d h with
        | some h => .ok .nx ⟨s.sl, h⟩
        | none => .bad
      | _ => .bad
    | _ => .bad
  | .aug i o e, s => match s.sl[i]? with
    | some (some x) => up s.sl (evalE p c e s.sl s.hp) fun y h => match augD o x y with
      | some z => .ok .nx ⟨s.sl.set i (some z), h⟩
      | none => .bad
    | _ => .bad
  | .augf o f op e, s => up s.sl (evalE p c o s.sl s.hp) fun x h => match fldD h f x with
    | some v => up s.sl (evalE p c e s.sl h) fun y h' => match augD op v y with
      | some z => if clsD h' x = clsD h x then match setFD x f z h' with
          | some h => .ok .nx ⟨s.sl, h⟩
          | none => .bad
        else .bad
      | none => .bad
    | none => .bad
  | .augi o i op e, s => up s.sl (evalE p c o s.sl s.hp) fun x h => up s.sl (evalE p c i s.sl h) fun y h => match idxM h x y with
    | some v => up s.sl (evalE p c e s.sl h) fun z h => match augD op v z with
      | some z => match setID x y z h with
        | some h => .ok .nx ⟨s.sl, h⟩
        | none => .bad
      | none => .bad
    | none => .bad
  | .ite k a b, s => up s.sl (evalE p c k s.sl s.hp) fun x h => match truthD h x with
    | some true => execSs p c a ⟨s.sl, h⟩
    | some false => execSs p c b ⟨s.sl, h⟩
    | none => .bad
  | .for_ g it body, s => up s.sl (evalI p c it s.sl s.hp) fun xs h =>
      forL (fun x s => match bindT g x s.sl with
        | some sl => execSs p c body ⟨sl, s.hp⟩
        | none => .bad) xs ⟨s.sl, h⟩
  | .while_ fuel k body, s => whileL (fun s => up s.sl (evalE p c k s.sl s.hp) fun x h => match truthD h x with
      | some true => (execSs p c body ⟨s.sl, h⟩).bind fun r s => .ok (some r) s
      | some false => .ok none ⟨s.sl, h⟩
      | none => .bad) fuel s
  | .brk, s => .ok .bk s
  | .cont, s => .ok .ct s
  | .pass, s => .ok .nx s
  | .dput o i e, s => up s.sl (evalE p c e s.sl s.hp) fun d h => up s.sl (evalE p c o s.sl h) fun x h => up s.sl (evalE p c i s.sl h) fun y h => match dputD x y d h with
    | some h => .ok .nx ⟨s.sl, h⟩
    | none => .bad
  | .forK g v fl body, s => match pathN s.sl s.hp v fl with
    | some n => match s.hp[n]? with
      | some (.dct kvs) => match forL (fun x s => match bindT g x s.sl with
          | some sl => execSs p c body ⟨sl, s.hp⟩
          | none => .bad) (kvs.map fun kv => keyD kv.1) ⟨s.sl, s.hp.set n (.ldct kvs)⟩ with
        | .ok r s' => match s'.hp[n]? with
          | some (.ldct kvs) => .ok r ⟨s'.sl, s'.hp.set n (.dct kvs)⟩
          | _ => .bad
        | _ => .bad
      | _ => .bad
    | none => .bad
  | .frzv i, s => match s.sl[i]? with
    | some (some x) => up s.sl (frzD x s.hp) fun d h => .ok .nx ⟨s.sl.set i (some d), h⟩
    | _ => .bad
  | .frzs i, s => match s.sl[i]? with
    | some (some (.ref n)) => match s.hp[n]? with
      | some (.lst xs) => .ok .nx ⟨s.sl.set i (some (.lst xs)), s.hp.set n .dead⟩
      | _ => .bad
    | some (some _) => .ok .nx s
    | _ => .bad
def execSs (p : Pg) (c : Calls) : List MS → Sx → Res Sx Fl
  | [], s => .ok .nx s
  | m :: ms, s => (execS p c m s).bind fun r s => match r with
    | .nx => execSs p c ms s
    | r => .ok r s
end

/-! ### calls -/
def rtD : Fl → Option D
  | .nx => some .non
  | .rt d => some d
  | _ => none
/-- a def's end -/
def fin (r : Res Sx Fl) : Res Mm D :=
  match r with
  | .ok f s => match rtD f with | some d => .ok d s.hp | none => .bad
  | .exn C p s => .exn C p s.hp
  | .bad => .bad
/-- .. of one that is run by itself: nothing of what it made is left but its value -/
def finP (fr : Bool) (h : Mm) (r : Res Sx Fl) : Res Mm D :=
  match r with
  | .ok f s => match (rtD f).bind fun d => if fr = true then rsv s.hp 9 d else own s.hp 9 d with | some d => .ok d h | none => .bad
  | .exn C p _ => .exn C p h
  | .bad => .bad
def callN (p : Pg) : Nat → Calls
  | 0 => fun _ _ _ => .bad
  | n + 1 => fun f as h => match p.fns[f]? with
    | some fd => if as.length = fd.np then
        (if fd.pure_ = true then (if nrs as = true then finP true h (execSs p (callN p n) fd.body ⟨as.map some ++ List.replicate (fd.nl - fd.np) none, []⟩)
          else match as.mapM (rsv h 9) with
            | some as => finP false h (execSs p (callN p n) fd.body ⟨as.map some ++ List.replicate (fd.nl - fd.np) none, []⟩)
            | none => .bad)
        else fin (execSs p (callN p n) fd.body ⟨as.map some ++ List.replicate (fd.nl - fd.np) none, h⟩))
      else .bad
    | none => .bad
end R

/-! RTup: < and > of two tuples whose items may be of different kinds: the first place at which they differ decides, and only there the items must have an order. -/
namespace R
open PySem PyProof.Rows PySem.SeqAt PySem.MeetsSeq PySem.MeetsSeq2 PySem.MeetsSeq3 PySem.SeqRoads2
open PySem.AutoSeq1 (wpAny_loadPart')

abbrev TupO (d : Option Addr) (us : Array Value) (m : Nat) (sl : Array (Option Value)) : Obj := { cls := .type "tuple", dict := d, data := .seq us m, slots := sl }
/-- the first place that differs decides -/
def fstLt (e r : Nat → Bool) (fin : Bool) : List Nat → Bool
  | [] => fin
  | j :: t => bif e j then fstLt e r fin t else r j
theorem fstLt_yes {e r : Nat → Bool} {fin : Bool} {j : Nat} {t : List Nat} (h : e j = true) : fstLt e r fin (j :: t) = fstLt e r fin t := by simp [fstLt, h]
theorem fstLt_no {e r : Nat → Bool} {fin : Bool} {j : Nat} {t : List Nat} (h : e j = false) : fstLt e r fin (j :: t) = r j := by simp [fstLt, h]
def RcX (op : CmpOp) (A : Around) (s : Shared) (y x : Value) (k : Bool) : Prop :=
  ∀ (P : Program) (w : World) (E : Value → Shared → Prop) (Q : Value → Shared → Prop), Q (.bool k) s → wpAny (model P w) A (richCompare op y x) Q E s

/-! ### < -/
theorem tupX_lt (p q : Addr) (us vs : Array Value) (m n : Nat) (d1 d2 : Option Addr) (s1 s2 : Array (Option Value)) (e r : Nat → Bool) :
    Meets (Builtin.«tuple.__lt__» ⟨[.ref p, .ref q], []⟩) (fun A R s =>
      s.heap.get? p = some (TupO d1 us m s1) ∧ s.heap.get? q = some (TupO d2 vs n s2) ∧
      (∀ j (j1 : j < us.size) (j2 : j < vs.size), EqAt A.in1 s us[j] vs[j] (e j)) ∧
      (∀ j (j1 : j < us.size) (j2 : j < vs.size), (∀ i, i < j → e i = true) → e j = false → RcX .Lt A.in1 s us[j] vs[j] (r j)) ∧
      R (.ok (.ret (.bool (fstLt e r (decide (us.size < vs.size)) (List.range (min us.size vs.size)))))) s) :=
  .of_wp fun prog w A R s z => by
    obtain ⟨hp, g, d, tk, os⟩ := s
    obtain ⟨at1, at2, eqs, les, fin⟩ := z
    have cls := AutoSeq1.sub_tuple_tuple
    have len : (us.toList.zip vs.toList).length = min us.size vs.size := by simp
    wp_walk using wpAny_loadPart' at1, wpAny_loadPart' at2, wpAny_forIn_list _ (fun todo acc now => acc.1 = none ∧ now = ⟨hp, g, d, tk, os⟩ ∧ ∃ k, (∀ i, i < k → e i = true) ∧ todo = (us.toList.zip vs.toList).drop k ∧
      R (.ok (.ret (.bool (fstLt e r (decide (us.size < vs.size)) ((List.range (min us.size vs.size)).drop k))))) ⟨hp, g, d, tk, os⟩) _
    case turn =>
      rintro ⟨y, x⟩ todo acc now ⟨ac, rfl, k, same, tz, fin⟩
      have kl : k < (us.toList.zip vs.toList).length := Decidable.byContradiction fun no => by
        rw [List.drop_of_length_le (Nat.le_of_not_lt no)] at tz; cases tz
      have km : k < min us.size vs.size := by rw [← len]; exact kl
      have k1 : k < us.size := by omega
      have k2 : k < vs.size := by omega
      rw [List.drop_eq_getElem_cons kl] at tz
      injection tz with hd tl
      have ey : y = us[k] := by simpa using congrArg Prod.fst hd
      have ex : x = vs[k] := by simpa using congrArg Prod.snd hd
      rw [ey, ex]
      have dr : (List.range (min us.size vs.size)).drop k = k :: (List.range (min us.size vs.size)).drop (k + 1) := by simp [List.drop_eq_getElem_cons, km]
      rw [dr] at fin
      refine wpAny_bind (eqs k k1 k2 prog w _ _ ?_)
      cases ek : e k with
      | true =>
        rw [fstLt_yes ek] at fin
        wp_walk
        refine ⟨rfl, rfl, k + 1, fun i hi => ?_, tl, fin⟩
        by_cases z : i = k
        · rw [z]; exact ek
        · exact same i (by omega)
      | false =>
        rw [fstLt_no ek] at fin
        have step := les k k1 k2 same ek prog w
        wp_walk using step
        exact ⟨_, rfl, by simpa using fin⟩
    case fin =>
      rintro ⟨a1, a2⟩ now ⟨ac, rfl, k, same, tz, fin⟩
      have ac : a1 = none := ac
      rw [ac]
      have ge : min us.size vs.size ≤ k := Decidable.byContradiction fun no => by
        rw [List.drop_eq_getElem_cons (by rw [len]; omega)] at tz; cases tz
      rw [List.drop_of_length_le (by rw [List.length_range]; exact ge)] at fin
      wp_walk
      exact ⟨_, rfl, by simpa [Builtin.Tuple.tupleCompareSizes, fstLt] using fin⟩
    case h =>
      exact ⟨rfl, rfl, 0, fun i hi => absurd hi (Nat.not_lt_zero i), rfl, by simpa using fin⟩

theorem rcX_lt {A : Around} {s : Shared} {p q : Addr} {us vs : Array Value} {e r : Nat → Bool} (at1 : s.heap.IsTuple p us) (at2 : s.heap.IsTuple q vs) (room : A.units < cLine)
    (eqs : ∀ j (j1 : j < us.size) (j2 : j < vs.size), EqAt A.in1 s us[j] vs[j] (e j))
    (les : ∀ j (j1 : j < us.size) (j2 : j < vs.size), (∀ i, i < j → e i = true) → e j = false → RcX .Lt A.in1 s us[j] vs[j] (r j)) :
    RcX .Lt A s (.ref p) (.ref q) (fstLt e r (decide (us.size < vs.size)) (List.range (min us.size vs.size))) := fun P w E Q fin => by
  obtain ⟨⟨c1, d1, da1, s1⟩, o1, hc1, m, hd1⟩ := id at1
  obtain ⟨⟨c2, d2, da2, s2⟩, o2, hc2, n, hd2⟩ := id at2
  simp only at hc1 hd1 hc2 hd2
  subst hc1 hd1 hc2 hd2
  exact richCompare_meets_room (op := .Lt) ⟨_, o1, rfl⟩ ⟨_, o2, rfl⟩ F.slot_tuple_lt F.entry_tuple_lt (F.args_tuple_lt_2 _ _)
    (tupX_lt p q us vs m n d1 d2 s1 s2 e r) ⟨o1, o2, eqs, les, ⟨(fun x => nomatch x), fin⟩⟩ room

/-! ### > -/
theorem tupX_gt (p q : Addr) (us vs : Array Value) (m n : Nat) (d1 d2 : Option Addr) (s1 s2 : Array (Option Value)) (e r : Nat → Bool) :
    Meets (Builtin.«tuple.__gt__» ⟨[.ref p, .ref q], []⟩) (fun A R s =>
      s.heap.get? p = some (TupO d1 us m s1) ∧ s.heap.get? q = some (TupO d2 vs n s2) ∧
      (∀ j (j1 : j < us.size) (j2 : j < vs.size), EqAt A.in1 s us[j] vs[j] (e j)) ∧
      (∀ j (j1 : j < us.size) (j2 : j < vs.size), (∀ i, i < j → e i = true) → e j = false → RcX .Gt A.in1 s us[j] vs[j] (r j)) ∧
      R (.ok (.ret (.bool (fstLt e r (decide (us.size > vs.size)) (List.range (min us.size vs.size)))))) s) :=
  .of_wp fun prog w A R s z => by
    obtain ⟨hp, g, d, tk, os⟩ := s
    obtain ⟨at1, at2, eqs, les, fin⟩ := z
    have cls := AutoSeq1.sub_tuple_tuple
    have len : (us.toList.zip vs.toList).length = min us.size vs.size := by simp
    wp_walk using wpAny_loadPart' at1, wpAny_loadPart' at2, wpAny_forIn_list _ (fun todo acc now => acc.1 = none ∧ now = ⟨hp, g, d, tk, os⟩ ∧ ∃ k, (∀ i, i < k → e i = true) ∧ todo = (us.toList.zip vs.toList).drop k ∧
      R (.ok (.ret (.bool (fstLt e r (decide (us.size > vs.size)) ((List.range (min us.size vs.size)).drop k))))) ⟨hp, g, d, tk, os⟩) _
    case turn =>
      rintro ⟨y, x⟩ todo acc now ⟨ac, rfl, k, same, tz, fin⟩
      have kl : k < (us.toList.zip vs.toList).length := Decidable.byContradiction fun no => by
        rw [List.drop_of_length_le (Nat.le_of_not_lt no)] at tz; cases tz
      have km : k < min us.size vs.size := by rw [← len]; exact kl
      have k1 : k < us.size := by omega
      have k2 : k < vs.size := by omega
      rw [List.drop_eq_getElem_cons kl] at tz
      injection tz with hd tl
      have ey : y = us[k] := by simpa using congrArg Prod.fst hd
      have ex : x = vs[k] := by simpa using congrArg Prod.snd hd
      rw [ey, ex]
      have dr : (List.range (min us.size vs.size)).drop k = k :: (List.range (min us.size vs.size)).drop (k + 1) := by simp [List.drop_eq_getElem_cons, km]
      rw [dr] at fin
      refine wpAny_bind (eqs k k1 k2 prog w _ _ ?_)
      cases ek : e k with
      | true =>
        rw [fstLt_yes ek] at fin
        wp_walk
        refine ⟨rfl, rfl, k + 1, fun i hi => ?_, tl, fin⟩
        by_cases z : i = k
        · rw [z]; exact ek
        · exact same i (by omega)
      | false =>
        rw [fstLt_no ek] at fin
        have step := les k k1 k2 same ek prog w
        wp_walk using step
        exact ⟨_, rfl, by simpa using fin⟩
    case fin =>
      rintro ⟨a1, a2⟩ now ⟨ac, rfl, k, same, tz, fin⟩
      have ac : a1 = none := ac
      rw [ac]
      have ge : min us.size vs.size ≤ k := Decidable.byContradiction fun no => by
        rw [List.drop_eq_getElem_cons (by rw [len]; omega)] at tz; cases tz
      rw [List.drop_of_length_le (by rw [List.length_range]; exact ge)] at fin
      wp_walk
      exact ⟨_, rfl, by simpa [Builtin.Tuple.tupleCompareSizes, fstLt] using fin⟩
    case h =>
      exact ⟨rfl, rfl, 0, fun i hi => absurd hi (Nat.not_lt_zero i), rfl, by simpa using fin⟩

theorem rcX_gt {A : Around} {s : Shared} {p q : Addr} {us vs : Array Value} {e r : Nat → Bool} (at1 : s.heap.IsTuple p us) (at2 : s.heap.IsTuple q vs) (room : A.units < cLine)
    (eqs : ∀ j (j1 : j < us.size) (j2 : j < vs.size), EqAt A.in1 s us[j] vs[j] (e j))
    (les : ∀ j (j1 : j < us.size) (j2 : j < vs.size), (∀ i, i < j → e i = true) → e j = false → RcX .Gt A.in1 s us[j] vs[j] (r j)) :
    RcX .Gt A s (.ref p) (.ref q) (fstLt e r (decide (us.size > vs.size)) (List.range (min us.size vs.size))) := fun P w E Q fin => by
  obtain ⟨⟨c1, d1, da1, s1⟩, o1, hc1, m, hd1⟩ := id at1
  obtain ⟨⟨c2, d2, da2, s2⟩, o2, hc2, n, hd2⟩ := id at2
  simp only at hc1 hd1 hc2 hd2
  subst hc1 hd1 hc2 hd2
  exact richCompare_meets_room (op := .Gt) ⟨_, o1, rfl⟩ ⟨_, o2, rfl⟩ F.slot_tuple_gt F.entry_tuple_gt (F.args_tuple_gt_2 _ _)
    (tupX_gt p q us vs m n d1 d2 s1 s2 e r) ⟨o1, o2, eqs, les, ⟨(fun x => nomatch x), fin⟩⟩ room

/-! ### items that are numbers and texts -/
open L2
def kEq (xs ys : List Key) (j : Nat) : Bool := decide (xs[j]? = ys[j]?)
def kLt (xs ys : List Key) (j : Nat) : Bool := match xs[j]?, ys[j]? with | some x, some y => (keyLt x y).getD false | _, _ => false
theorem ltK_first : ∀ (xs ys : List Key) (k : Bool), ltK xs ys = some k → ∀ (e r : Nat → Bool) (i : Nat), (∀ j, e (i + j) = kEq xs ys j) → (∀ j, r (i + j) = kLt xs ys j) →
    fstLt e r (decide (xs.length < ys.length)) ((List.range' i (min xs.length ys.length))) = k ∧ True
  | [], [], k, h, e, r, i, he, hr => by
    simp [ltK] at h
    subst h
    simp [fstLt]
  | [], y :: ys, k, h, e, r, i, he, hr => by
    simp [ltK] at h
    subst h
    simp [fstLt]
  | x :: xs, [], k, h, e, r, i, he, hr => by
    simp [ltK] at h
    subst h
    simp [fstLt]
  | x :: xs, y :: ys, k, h, e, r, i, he, hr => by
    have h0 := he 0
    have r0 := hr 0
    simp only [Nat.add_zero, kEq, kLt, List.getElem?_cons_zero] at h0 r0
    have em : min (x :: xs).length (y :: ys).length = min xs.length ys.length + 1 := by simp only [List.length_cons]; omega
    rw [em, List.range'_succ]
    by_cases q : x = y
    · rw [ltK, if_pos q] at h
      rw [fstLt_yes (by rw [h0, q]; simp)]
      have ih := ltK_first xs ys k h e r (i + 1) (fun j => by rw [Nat.add_assoc, Nat.add_comm 1 j, he (j + 1)]; simp [kEq]) (fun j => by rw [Nat.add_assoc, Nat.add_comm 1 j, hr (j + 1)]; simp [kLt])
      have el : decide ((x :: xs).length < (y :: ys).length) = decide (xs.length < ys.length) := by simp
      rw [el]
      exact ih
    · rw [ltK, if_neg q] at h
      rw [fstLt_no (by rw [h0]; simp [q])]
      rw [r0, h]
      exact ⟨rfl, trivial⟩
/-- at the first difference the two have an order -/
theorem ltK_ord : ∀ {xs ys : List Key} {k : Bool}, ltK xs ys = some k → ∀ (j : Nat) {x y : Key}, xs[j]? = some x → ys[j]? = some y → (∀ i, i < j → kEq xs ys i = true) → x ≠ y → ∃ b, keyLt x y = some b
  | [], _, _, _, j, x, y, hx, _, _, _ => by simp at hx
  | _ :: _, [], _, _, j, x, y, _, hy, _, _ => by simp at hy
  | a :: xs, b :: ys, k, h, 0, x, y, hx, hy, _, ne => by
    simp at hx hy
    subst hx hy
    rw [ltK, if_neg ne] at h
    exact ⟨k, h⟩
  | a :: xs, b :: ys, k, h, j + 1, x, y, hx, hy, same, ne => by
    have q : a = b := by
      have z := same 0 (Nat.succ_pos j)
      simpa [kEq] using z
    rw [ltK, if_pos q] at h
    exact ltK_ord h j (by simpa using hx) (by simpa using hy) (fun i hi => by
      have z := same (i + 1) (Nat.succ_lt_succ hi)
      simpa [kEq] using z) ne
/-- items as keys in the machine's hands -/
inductive KVs : List Key → List Value → Prop where
  | nil : KVs [] []
  | int {i : Int} {t : Tok} {ks : List Key} {us : List Value} : KVs ks us → KVs (.inl i :: ks) (.int i t :: us)
  | str {x : Str} {t : Tok} {ks : List Key} {us : List Value} : KVs ks us → KVs (.inr x :: ks) (.str x t :: us)
theorem KVs.len : ∀ {ks : List Key} {us : List Value}, KVs ks us → ks.length = us.length
  | _, _, .nil => rfl
  | _, _, .int h => congrArg (· + 1) h.len
  | _, _, .str h => congrArg (· + 1) h.len
theorem KVs.at : ∀ {ks : List Key} {us : List Value}, KVs ks us → ∀ (j : Nat) (h : j < us.length), (∃ i t, ks[j]? = some (.inl i) ∧ us[j] = .int i t) ∨ ∃ x t, ks[j]? = some (.inr x) ∧ us[j] = .str x t
  | _, _, .nil, j, h => absurd h (Nat.not_lt_zero j)
  | _, _, .int (i := i) (t := t) r, 0, h => .inl ⟨i, t, rfl, rfl⟩
  | _, _, .str (x := x) (t := t) r, 0, h => .inr ⟨x, t, rfl, rfl⟩
  | _, _, .int r, j + 1, h => r.at j (Nat.lt_of_succ_lt_succ h)
  | _, _, .str r, j + 1, h => r.at j (Nat.lt_of_succ_lt_succ h)
theorem strEq_iff {x y : Str} : (x == y) = decide (x = y) := by
  by_cases q : x = y
  · subst q; simp
  · simp [q]
theorem eqAt_keys {A : Around} {s : Shared} {ks ls : List Key} {us vs : List Value} (h1 : KVs ks us) (h2 : KVs ls vs) (j : Nat) (j1 : j < us.length) (j2 : j < vs.length) : SeqAt.EqAt A s us[j] vs[j] (kEq ks ls j) := by
  unfold kEq
  rcases h1.at j j1 with ⟨i, t, e1, e2⟩ | ⟨x, t, e1, e2⟩
  · rcases h2.at j j2 with ⟨i', t', e3, e4⟩ | ⟨x', t', e3, e4⟩
    · rw [e1, e2, e3, e4]
      have := SeqAt.EqAt.int_int (A := A) (s := s) i t i' t'
      have e : (decide (some (Sum.inl i : Key) = some (Sum.inl i'))) = (i == i') := by
        by_cases q : i = i'
        · subst q; simp
        · simp [q]
      rw [e]; exact this
    · rw [e1, e2, e3, e4]
      have e : (decide (some (Sum.inl i : Key) = some (Sum.inr x'))) = false := by simp
      rw [e]; exact SeqAt.EqAt.int_str i t x' t'
  · rcases h2.at j j2 with ⟨i', t', e3, e4⟩ | ⟨x', t', e3, e4⟩
    · rw [e1, e2, e3, e4]
      have e : (decide (some (Sum.inr x : Key) = some (Sum.inl i'))) = false := by simp
      rw [e]; exact SeqAt.EqAt.str_int x t i' t'
    · rw [e1, e2, e3, e4]
      have := SeqAt.EqAt.str_str (A := A) (s := s) x t x' t'
      have e : (decide (some (Sum.inr x : Key) = some (Sum.inr x'))) = (x == x') := by
        by_cases q : x = x'
        · subst q; simp
        · simp [q]
      rw [e]; exact this
theorem lt_key {A : Around} {s : Shared} {ks ls : List Key} {us vs : List Value} (h1 : KVs ks us) (h2 : KVs ls vs) (j : Nat) (j1 : j < us.length) (j2 : j < vs.length) {x y : Key} {b : Bool} (ex : ks[j]? = some x) (ey : ls[j]? = some y) (hk : keyLt x y = some b) :
    RcX .Lt A s us[j] vs[j] b ∧ RcX .Gt A s vs[j] us[j] b := by
  rcases h1.at j j1 with ⟨i, t, e1, e2⟩ | ⟨z, t, e1, e2⟩
  · rcases h2.at j j2 with ⟨i', t', e3, e4⟩ | ⟨z', t', e3, e4⟩
    · rw [e2, e4]
      rw [e1] at ex; rw [e3] at ey
      cases ex; cases ey; cases hk
      exact ⟨fun P w E Q q => show wpAny (model P w) A (compareOp .Lt _ _) Q E s from lt_int q, fun P w E Q q => show wpAny (model P w) A (compareOp .Gt _ _) Q E s from gt_int q⟩
    · rw [e1] at ex; rw [e3] at ey
      cases ex; cases ey; cases hk
  · rcases h2.at j j2 with ⟨i', t', e3, e4⟩ | ⟨z', t', e3, e4⟩
    · rw [e1] at ex; rw [e3] at ey
      cases ex; cases ey; cases hk
    · rw [e2, e4]
      rw [e1] at ex; rw [e3] at ey
      cases ex; cases ey; cases hk
      exact ⟨fun P w E Q q => show wpAny (model P w) A (compareOp .Lt _ _) Q E s from lt_str q, fun P w E Q q => show wpAny (model P w) A (compareOp .Gt _ _) Q E s from PySem.P.gt_str q⟩
theorem kvs_of : ∀ {ks : List Key} {us : List Value}, Vals (ks.map kV) us → KVs ks us
  | [], _, .nil => .nil
  | .inl i :: ks, _, .cons r h => by
    obtain ⟨t, rfl⟩ := r
    exact .int (kvs_of h)
  | .inr x :: ks, _, .cons r h => by
    obtain ⟨t, rfl⟩ := r
    exact .str (kvs_of h)
theorem kEq_swap (ks ls : List Key) (j : Nat) : kEq ls ks j = kEq ks ls j := by
  unfold kEq
  by_cases q : ks[j]? = ls[j]?
  · rw [q]
  · rw [decide_eq_false q, decide_eq_false fun z => q z.symm]
section
variable {X : Cx}
def rLtX (K : PySem.W.Frag) : R2 := fun x y H Q => ∃ a b ks ls k, x = .ref a ∧ y = .ref b ∧ SqT K H a (ks.map kV) ∧ SqT K H b (ls.map kV) ∧ ltK ks ls = some k ∧ Q (.bl k) H
def rGtX (K : PySem.W.Frag) : R2 := fun x y H Q => ∃ a b ks ls k, x = .ref a ∧ y = .ref b ∧ SqT K H a (ks.map kV) ∧ SqT K H b (ls.map kV) ∧ ltK ls ks = some k ∧ Q (.bl k) H
theorem op_ltX (room : X.A.units < cLine) : OpR X (compareOp .Lt) (rLtX X.K) := by
  intro pins s σ H x y v u Q I rx ry h
  obtain ⟨a, b, ks, ls, k, rfl, rfl, ha, hb, hk, q⟩ := h
  cases rx
  cases ry
  obtain ⟨us, r1, p1, _⟩ := I.tuple ha
  obtain ⟨vs, r2, p2, _⟩ := I.tuple hb
  have w1 := kvs_of r1
  have w2 := kvs_of r2
  have key := rcX_lt (e := kEq ks ls) (r := kLt ks ls) p1 p2 room (fun j j1 j2 => eqAt_keys w1 w2 j j1 j2) (fun j j1 j2 same ne => by
    have l1 : j < ks.length := by rw [w1.len]; simpa using j1
    have l2 : j < ls.length := by rw [w2.len]; simpa using j2
    have e1 : ks[j]? = some ks[j] := List.getElem?_eq_getElem l1
    have e2 : ls[j]? = some ls[j] := List.getElem?_eq_getElem l2
    have d : ks[j] ≠ ls[j] := fun z => by simp [kEq, e1, e2, z] at ne
    obtain ⟨bb, hb⟩ := ltK_ord hk j e1 e2 same d
    have eb : kLt ks ls j = bb := by simp [kLt, e1, e2, hb]
    rw [eb]
    exact (lt_key w1 w2 j (by simpa using j1) (by simpa using j2) e1 e2 hb).1)
  have e := (ltK_first ks ls k hk (kEq ks ls) (kLt ks ls) 0 (fun j => by rw [Nat.zero_add]) (fun j => by rw [Nat.zero_add])).1
  have e3 : fstLt (kEq ks ls) (kLt ks ls) (decide (us.toArray.size < vs.toArray.size)) (List.range (min us.toArray.size vs.toArray.size)) = k := by
    rw [List.size_toArray, List.size_toArray, ← w1.len, ← w2.len, List.range_eq_range']
    exact e
  rw [e3] at key
  exact key _ _ _ _ ⟨.bl k, H, I, rfl, q⟩
theorem op_gtX (room : X.A.units < cLine) : OpR X (compareOp .Gt) (rGtX X.K) := by
  intro pins s σ H x y v u Q I rx ry h
  obtain ⟨a, b, ks, ls, k, rfl, rfl, ha, hb, hk, q⟩ := h
  cases rx
  cases ry
  obtain ⟨us, r1, p1, _⟩ := I.tuple ha
  obtain ⟨vs, r2, p2, _⟩ := I.tuple hb
  have w1 := kvs_of r1
  have w2 := kvs_of r2
  have key := rcX_gt (e := kEq ls ks) (r := kLt ls ks) p1 p2 room (fun j j1 j2 => by rw [kEq_swap]; exact eqAt_keys w1 w2 j j1 j2) (fun j j1 j2 same ne => by
    have l1 : j < ks.length := by rw [w1.len]; simpa using j1
    have l2 : j < ls.length := by rw [w2.len]; simpa using j2
    have e1 : ks[j]? = some ks[j] := List.getElem?_eq_getElem l1
    have e2 : ls[j]? = some ls[j] := List.getElem?_eq_getElem l2
    have d : ls[j] ≠ ks[j] := fun z => by simp [kEq, e1, e2, z] at ne
    obtain ⟨bb, hb⟩ := ltK_ord hk j e2 e1 same d
    have eb : kLt ls ks j = bb := by simp [kLt, e1, e2, hb]
    rw [eb]
    exact (lt_key w2 w1 j (by simpa using j2) (by simpa using j1) e2 e1 hb).2)
  have e := (ltK_first ls ks k hk (kEq ls ks) (kLt ls ks) 0 (fun j => by rw [Nat.zero_add]) (fun j => by rw [Nat.zero_add])).1
  have e3 : fstLt (kEq ls ks) (kLt ls ks) (decide (us.toArray.size > vs.toArray.size)) (List.range (min us.toArray.size vs.toArray.size)) = k := by
    rw [List.size_toArray, List.size_toArray, ← w1.len, ← w2.len, List.range_eq_range', Nat.min_comm]
    exact e
  rw [e3] at key
  exact key _ _ _ _ ⟨.bl k, H, I, rfl, q⟩
/-! ### a list takes up a tuple's items -/
theorem extT (p : Addr) (us : Array Value) (m : Nat) (q : Addr) (vs : Array Value) (n : Nat) (d : Option Addr) (sl : Array (Option Value)) (c0 : ¬(!us.isEmpty && Builtin.List.listTooLong (us.size + vs.size)) = true) (c1 : us.size ≤ sizeLine) (c2 : us.size + vs.size ≤ sizeLine + 1) :
    Meets (Builtin.«list.extend» ⟨[.ref p, .ref q], []⟩) (fun _ R s => s.heap.get? p = some { cls := .type "list", data := .seq us m } ∧ s.heap.get? q = some (TupO d vs n sl) ∧
      R (.ok (.ret Value.none)) { s with heap := s.heap.update p (Obj.mapSeq fun x => x ++ vs), toks := s.toks }) :=
  .of_wp fun prog w A R s z => by
    obtain ⟨hp, g, d, tk, os⟩ := s
    obtain ⟨at1, at2, z⟩ := z
    have k1 := AutoSeq1.idx_int
    have k2 := AutoSeq1.sub_tuple_tuple
    have k3 := AutoSeq1.sub_list_list
    have k4 := AutoSeq1.sub_tuple_list
    have k5 := AutoSeq1.sub_list_tuple
    have big : (us ++ vs).size ≤ sizeLine + 1 := by rw [Array.size_append]; exact c2
    wp_walk using (wpAny_updateSeq at1 rfl (hz := c1) (_hz' := big)), wpAny_loadPart' at1, wpAny_loadPart' at2
    exact ⟨_, rfl, z⟩
def rExtendT (K : PySem.W.Frag) : V → List V → Hp → VK → Prop := fun x vs H Q => ∃ l b xs zs, x = .ref l ∧ vs = [.ref b] ∧ H l = some (.lst xs) ∧ SqT K H b zs ∧ xs.length + zs.length ≤ sizeLine ∧ Q .non (upd H l (.lst (xs ++ zs)))
theorem mt_extendT : MtR X "list.extend" (rExtendT X.K) := by
  intro pins s σ H x vs v us Q I rx rv h
  obtain ⟨l, b, xs, zs, rfl, rfl, hl, hb, hz, q⟩ := h
  cases rx
  obtain ⟨u, rfl, ru⟩ := rv.one
  cases ru
  obtain ⟨_, is1, n1, r1, len1, e1⟩ := I.lstM hl
  obtain ⟨is2, r2, p2, _⟩ := I.tuple hb
  obtain ⟨⟨c2, d2, da2, s2⟩, o2, hc2, n2, hd2⟩ := id p2
  simp only at hc2 hd2
  subst hc2 hd2
  have len2 := r2.length
  have sum : is1.toArray.size + is2.toArray.size ≤ sizeLine := by rw [List.size_toArray, List.size_toArray]; omega
  have fits : ¬ (!is1.toArray.isEmpty && Builtin.List.listTooLong (is1.toArray.size + is2.toArray.size)) = true := by
    rw [notLongL sum, Bool.and_false]
    exact Bool.false_ne_true
  refine call_meets F.slot_list_extend ⟨_, e1, rfl⟩ F.entry_list_extend (F.args_list_extend_2 _ _) (extT l is1.toArray n1 b is2.toArray n2 d2 s2 fits (by rw [List.size_toArray]; omega) (by omega)) ⟨e1, o2, ?_⟩
  exact ⟨.non, _, I.lset (its' := is1 ++ is2) hl e1 (by simp) (r1.append r2) (by rw [List.length_append]; omega), rfl, q⟩
end
end R

/-! RSnd1: how data stand in the heap of HandS. -/
namespace R
open PySem PySem.Spec PyProof.Rows L2

structure Gm where
  K : PySem.W.Frag
  mg : Str → Option Value
  cad : Nat → Addr
  att : Nat → Str
  ncls : Nat
/-- a world: what stands for good, where the ids stand, what stands beside (lists that are being made) -/
structure Wd where
  F : Hp
  ρ : Nat → Addr
  len : Nat
  G : Hp
structure Wd.lf (w w' : Wd) : Prop where
  fr : ∀ a o, w.F a = some o → w'.F a = some o
  len : w.len ≤ w'.len
  at_ : ∀ n, n < w.len → w'.ρ n = w.ρ n
structure Wd.le (w w' : Wd) : Prop extends Wd.lf w w' where
  gr : ∀ a o, w.G a = some o → w'.G a = some o
theorem Wd.le.refl (w : Wd) : w.le w := ⟨⟨fun _ _ h => h, Nat.le_refl _, fun _ _ => rfl⟩, fun _ _ h => h⟩
theorem Wd.le.trans {a b c : Wd} (x : a.le b) (y : b.le c) : a.le c :=
  ⟨⟨fun p o h => y.fr p o (x.fr p o h), Nat.le_trans x.len y.len, fun n h => (y.at_ n (Nat.lt_of_lt_of_le h x.len)).trans (x.at_ n h)⟩, fun p o h => y.gr p o (x.gr p o h)⟩

theorem rd_mono {F F' : Hp} (h : ∀ a o, F a = some o → F' a = some o) {a : Addr} {u : HO} (r : Rd F a u) : Rd F' a u := by
  rcases r with r | ⟨o, r⟩
  · exact .inl (h _ _ r)
  · exact .inr ⟨o, h _ _ r⟩
theorem sqT_mono {K : PySem.W.Frag} {F F' : Hp} (h : ∀ a o, F a = some o → F' a = some o) {a : Addr} {xs : List V} (r : SqT K F a xs) : SqT K F' a xs := by
  rcases r with r | r
  · exact .inl (rd_mono h r)
  · exact .inr r
theorem sqL_mono {K : PySem.W.Frag} {F F' : Hp} (h : ∀ a o, F a = some o → F' a = some o) {a : Addr} {xs : List V} (r : SqL K F a xs) : SqL K F' a xs := by
  rcases r with r | r
  · exact .inl (rd_mono h r)
  · exact .inr r

mutual
inductive Rv (g : Gm) (w : Wd) : D → V → Prop where
  | non : Rv g w .non .non
  | bl (b : Bool) : Rv g w (.bl b) (.bl b)
  | int (i : Int) : Rv g w (.int i) (.int i)
  | str (x : Str) : Rv g w (.str x) (.str x)
  | tup {a : Addr} {vs : List V} {xs : List D} : SqT g.K w.F a vs → Rvs g w xs vs → Rv g w (.tup xs) (.ref a)
  | lst {a : Addr} {vs : List V} {xs : List D} : w.F a = some (.lst vs) → Rvs g w xs vs → Rv g w (.lst xs) (.ref a)
  | scr {a : Addr} {vs : List V} {xs : List D} : SqL g.K w.F a vs → Rvs g w xs vs → Rv g w (.scr xs) (.ref a)
  | dct {a : Addr} {kvs' : List (Key × V)} {kvs : List (Key × D)} : w.F a = some (.dK kvs') → Rkv g w kvs kvs' → Rv g w (.dct kvs) (.ref a)
  | ins {a dx : Addr} {C : Nat} {fs : List (Nat × D)} {fvs : List (Str × V)} : C < g.ncls → w.F a = some (.ins (g.cad C) dx fvs) → Rfs g w fs fvs → Rv g w (.ins C fs) (.ref a)
  | ref (n : Nat) : n < w.len → Rv g w (.ref n) (.ref (w.ρ n))
inductive Rvs (g : Gm) (w : Wd) : List D → List V → Prop where
  | nil : Rvs g w [] []
  | cons {d : D} {v : V} {ds : List D} {vs : List V} : Rv g w d v → Rvs g w ds vs → Rvs g w (d :: ds) (v :: vs)
inductive Rkv (g : Gm) (w : Wd) : List (Key × D) → List (Key × V) → Prop where
  | nil : Rkv g w [] []
  | cons {k : Key} {d : D} {v : V} {ds : List (Key × D)} {vs : List (Key × V)} : Rv g w d v → Rkv g w ds vs → Rkv g w ((k, d) :: ds) ((k, v) :: vs)
inductive Rfs (g : Gm) (w : Wd) : List (Nat × D) → List (Str × V) → Prop where
  | nil : Rfs g w [] []
  | cons {f : Nat} {d : D} {v : V} {ds : List (Nat × D)} {vs : List (Str × V)} : Rv g w d v → Rfs g w ds vs → Rfs g w ((f, d) :: ds) ((g.att f, v) :: vs)
end

variable {g : Gm} {w w' : Wd}
mutual
theorem Rv.mono' (le : w.lf w') : ∀ {d : D} {v : V}, Rv g w d v → Rv g w' d v
  | _, _, .non => .non
  | _, _, .bl b => .bl b
  | _, _, .int i => .int i
  | _, _, .str x => .str x
  | _, _, .tup h r => .tup (sqT_mono le.fr h) (Rvs.mono' le r)
  | _, _, .lst h r => .lst (le.fr _ _ h) (Rvs.mono' le r)
  | _, _, .scr h r => .scr (sqL_mono le.fr h) (Rvs.mono' le r)
  | _, _, .dct h r => .dct (le.fr _ _ h) (Rkv.mono' le r)
  | _, _, .ins hc h r => .ins hc (le.fr _ _ h) (Rfs.mono' le r)
  | _, _, .ref n h => by
    have e := le.at_ n h
    rw [← e]
    exact .ref n (Nat.lt_of_lt_of_le h le.len)
theorem Rvs.mono' (le : w.lf w') : ∀ {d : List D} {v : List V}, Rvs g w d v → Rvs g w' d v
  | _, _, .nil => .nil
  | _, _, .cons h r => .cons (Rv.mono' le h) (Rvs.mono' le r)
theorem Rkv.mono' (le : w.lf w') : ∀ {d : List (Key × D)} {v : List (Key × V)}, Rkv g w d v → Rkv g w' d v
  | _, _, .nil => .nil
  | _, _, .cons h r => .cons (Rv.mono' le h) (Rkv.mono' le r)
theorem Rfs.mono' (le : w.lf w') : ∀ {d : List (Nat × D)} {v : List (Str × V)}, Rfs g w d v → Rfs g w' d v
  | _, _, .nil => .nil
  | _, _, .cons h r => .cons (Rv.mono' le h) (Rfs.mono' le r)
end

theorem Rv.mono (le : w.le w') {d : D} {v : V} (r : Rv g w d v) : Rv g w' d v := r.mono' le.tolf
theorem Rvs.mono (le : w.le w') {d : List D} {v : List V} (r : Rvs g w d v) : Rvs g w' d v := r.mono' le.tolf
theorem Rkv.mono (le : w.le w') {d : List (Key × D)} {v : List (Key × V)} (r : Rkv g w d v) : Rkv g w' d v := r.mono' le.tolf
theorem Rfs.mono (le : w.le w') {d : List (Nat × D)} {v : List (Str × V)} (r : Rfs g w d v) : Rfs g w' d v := r.mono' le.tolf
theorem lf_G (w : Wd) (G : Hp) : w.lf ⟨w.F, w.ρ, w.len, G⟩ := ⟨fun _ _ h => h, Nat.le_refl _, fun _ _ => rfl⟩

/-! ### lists -/
theorem Rvs.length : ∀ {ds : List D} {vs : List V}, Rvs g w ds vs → ds.length = vs.length
  | _, _, .nil => rfl
  | _, _, .cons _ r => congrArg (· + 1) (Rvs.length r)
theorem Rvs.append : ∀ {ds es : List D} {vs us : List V}, Rvs g w ds vs → Rvs g w es us → Rvs g w (ds ++ es) (vs ++ us)
  | _, _, _, _, .nil, s => s
  | _, _, _, _, .cons h r, s => .cons h (Rvs.append r s)
theorem Rvs.get : ∀ {ds : List D} {vs : List V} {i : Nat} {d : D}, Rvs g w ds vs → ds[i]? = some d → ∃ v, vs[i]? = some v ∧ Rv g w d v
  | _, _, i, d, .nil, e => by simp at e
  | _, _, 0, d, .cons h _, e => by
    simp at e
    subst e
    exact ⟨_, rfl, h⟩
  | _, _, i + 1, d, .cons _ r, e => Rvs.get (i := i) r (by simpa using e)
theorem Rvs.got : ∀ {ds : List D} {vs : List V} {i : Nat} {v : V}, Rvs g w ds vs → vs[i]? = some v → ∃ d, ds[i]? = some d ∧ Rv g w d v
  | _, _, i, d, .nil, e => by simp at e
  | _, _, 0, d, .cons h _, e => by
    simp at e
    subst e
    exact ⟨_, rfl, h⟩
  | _, _, i + 1, d, .cons _ r, e => Rvs.got (i := i) r (by simpa using e)
theorem Rvs.set : ∀ {ds : List D} {vs : List V} {i : Nat} {d : D} {v : V}, Rvs g w ds vs → Rv g w d v → Rvs g w (ds.set i d) (vs.set i v)
  | _, _, _, _, _, .nil, _ => .nil
  | _, _, 0, _, _, .cons _ r, h => .cons h r
  | _, _, i + 1, _, _, .cons q r, h => .cons q (Rvs.set (i := i) r h)
theorem Rvs.take : ∀ {ds : List D} {vs : List V} (n : Nat), Rvs g w ds vs → Rvs g w (ds.take n) (vs.take n)
  | _, _, 0, _ => .nil
  | _, _, _ + 1, .nil => .nil
  | _, _, n + 1, .cons q r => .cons q (Rvs.take n r)
theorem Rvs.drop : ∀ {ds : List D} {vs : List V} (n : Nat), Rvs g w ds vs → Rvs g w (ds.drop n) (vs.drop n)
  | _, _, 0, r => r
  | _, _, _ + 1, .nil => .nil
  | _, _, n + 1, .cons _ r => Rvs.drop n r
theorem Rvs.reverse : ∀ {ds : List D} {vs : List V}, Rvs g w ds vs → Rvs g w ds.reverse vs.reverse
  | _, _, .nil => .nil
  | _, _, .cons q r => by
    rw [List.reverse_cons, List.reverse_cons]
    exact (Rvs.reverse r).append (.cons q .nil)
theorem Rvs.one {d : D} {vs : List V} (r : Rvs g w [d] vs) : ∃ v, vs = [v] ∧ Rv g w d v := by
  cases r with
  | cons h r => cases r; exact ⟨_, rfl, h⟩
theorem Rvs.two {d e : D} {vs : List V} (r : Rvs g w [d, e] vs) : ∃ v u, vs = [v, u] ∧ Rv g w d v ∧ Rv g w e u := by
  cases r with
  | cons h r => cases r with | cons h2 r => cases r; exact ⟨_, _, rfl, h, h2⟩
theorem Rvs.zero {vs : List V} (r : Rvs g w [] vs) : vs = [] := by cases r; rfl
theorem Rvs.atI {ds : List D} {vs : List V} {i : Int} {d : D} (r : Rvs g w ds vs) (e : L2.atI ds i = some d) : ∃ v, L2.atI vs i = some v ∧ Rv g w d v := by
  unfold L2.atI at e ⊢
  rw [← r.length]
  cases q : ixN ds.length i with
  | none => rw [q] at e; cases e
  | some j =>
    rw [q] at e
    exact r.get e
theorem Rvs.ints : ∀ {ds : List D} {ns : List Int} {vs : List V}, intsOf ds = some ns → Rvs g w ds vs → vs = ns.map V.int
  | [], ns, _, e, .nil => by
    simp [intsOf] at e
    subst e
    rfl
  | d :: ds, ns, _, e, .cons h r => by
    unfold intsOf at e
    rw [List.mapM_cons] at e
    cases d with
    | int i =>
      cases q : ds.mapM isInt with
      | none => rw [q] at e; simp [isInt] at e
      | some ms =>
        rw [q] at e
        simp [isInt] at e
        subst e
        cases h
        rw [List.map_cons, Rvs.ints (ds := ds) q r]
    | _ => simp [isInt] at e
theorem ints_len : ∀ {ds : List D} {ns : List Int}, intsOf ds = some ns → ns.length = ds.length
  | [], ns, e => by
    simp [intsOf] at e
    subst e
    rfl
  | d :: ds, ns, e => by
    unfold intsOf at e
    rw [List.mapM_cons] at e
    cases d with
    | int i =>
      cases q : ds.mapM isInt with
      | none => rw [q] at e; simp [isInt] at e
      | some ms =>
        rw [q] at e
        simp [isInt] at e
        subst e
        rw [List.length_cons, List.length_cons, ints_len (ds := ds) q]
    | _ => simp [isInt] at e

/-! ### fields -/
theorem Rfs.len : ∀ {fs : List (Nat × D)} {fvs : List (Str × V)}, Rfs g w fs fvs → fs.length = fvs.length
  | _, _, .nil => rfl
  | _, _, .cons _ r => congrArg (· + 1) (Rfs.len r)
theorem Rfs.look (inj : ∀ a b, g.att a = g.att b → a = b) {f : Nat} {d : D} : ∀ {fs : List (Nat × D)} {fvs : List (Str × V)}, Rfs g w fs fvs → fs.lookup f = some d → ∃ v, fvs.lookup (g.att f) = some v ∧ Rv g w d v
  | _, _, .nil, e => by simp at e
  | _, _, .cons (f := f') h r, e => by
    rw [List.lookup_cons] at e ⊢
    by_cases q : f = f'
    · subst q
      simp at e
      subst e
      simp
      exact h
    · have q2 : (f == f') = false := beq_eq_false_iff_ne.mpr q
      have q3 : (g.att f == g.att f') = false := beq_eq_false_iff_ne.mpr fun z => q (inj _ _ z)
      rw [q2] at e
      rw [q3]
      exact Rfs.look inj r e
theorem Rfs.none (inj : ∀ a b, g.att a = g.att b → a = b) {m : Str} (hm : ∀ f, g.att f ≠ m) : ∀ {fs : List (Nat × D)} {fvs : List (Str × V)}, Rfs g w fs fvs → fvs.lookup m = none
  | _, _, .nil => rfl
  | _, _, .cons (f := f') h r => by
    rw [List.lookup_cons]
    have q3 : (m == g.att f') = false := beq_eq_false_iff_ne.mpr fun z => hm f' z.symm
    rw [q3]
    exact Rfs.none inj hm r
theorem Rfs.put (inj : ∀ a b, g.att a = g.att b → a = b) {f : Nat} {d : D} {v : V} (hv : Rv g w d v) : ∀ {fs : List (Nat × D)} {fvs : List (Str × V)}, Rfs g w fs fvs → Rfs g w (R.putF f d fs) (L2.putF (g.att f) v fvs)
  | _, _, .nil => .cons hv .nil
  | _, _, .cons (f := f') h r => by
    by_cases q : f' = f
    · subst q
      simp only [R.putF, L2.putF, if_true]
      exact .cons hv r
    · have q2 : ¬ g.att f' = g.att f := fun z => q (inj _ _ z)
      simp only [R.putF, L2.putF, if_neg q, if_neg q2]
      exact .cons h (Rfs.put inj hv r)

/-! ### the memory -/
def ObR (g : Gm) (w : Wd) (H : Hp) (n : Nat) : O → Prop
  | .lst xs => ∃ vs, H (w.ρ n) = some (.lst vs) ∧ Rvs g w xs vs
  | .dct kvs => ∃ kvs', H (w.ρ n) = some (.dK kvs') ∧ Rkv g w kvs kvs'
  | .ins C fs => C < g.ncls ∧ ∃ dx fvs, H (w.ρ n) = some (.ins (g.cad C) dx fvs) ∧ Rfs g w fs fvs
  | .dead => True
  | .ldct kvs => ∃ od kvs', w.G (w.ρ n) = some (.frz od (.dK kvs')) ∧ Rkv g w kvs kvs'
def O.live : O → Prop
  | .dead => False
  | .ldct _ => False
  | _ => True
def O.held : O → Prop
  | .dead => False
  | _ => True
theorem O.held_of {o : O} (h : o.live) : o.held := by cases o <;> first | trivial | exact h.elim
structure Mem (g : Gm) (w : Wd) (H : Hp) (m : Mm) : Prop where
  fr : ∀ a o, w.F a = some o → H a = some o
  len : w.len = m.length
  ob : ∀ n o, m[n]? = some o → ObR g w H n o
  nf : ∀ n o, m[n]? = some o → o.live → w.F (w.ρ n) = none
  inj : ∀ n k o u, m[n]? = some o → o.held → m[k]? = some u → u.held → w.ρ n = w.ρ k → n = k
  gr : ∀ a o, w.G a = some o → H a = some o
  ng : ∀ n o, m[n]? = some o → o.live → w.G (w.ρ n) = none
  gf : ∀ a o, w.G a = some o → w.F a = none

variable {H : Hp} {m : Mm}
theorem Mem.at (M : Mem g w H m) {n : Nat} {o : O} (e : m[n]? = some o) (l : o.held) : ∃ u, H (w.ρ n) = some u := by
  have q := M.ob n o e
  cases o with
  | lst xs => obtain ⟨vs, q, _⟩ := q; exact ⟨_, q⟩
  | dct kvs => obtain ⟨vs, q, _⟩ := q; exact ⟨_, q⟩
  | ins C fs => obtain ⟨_, dx, fvs, q, _⟩ := q; exact ⟨_, q⟩
  | dead => exact l.elim
  | ldct kvs => obtain ⟨od, vs, q, _⟩ := q; exact ⟨_, M.gr _ _ q⟩
theorem ObR.keep {H' : Hp} {n : Nat} {o : O} (le : w.lf w') (hn : n < w.len) (r : ObR g w H n o) (k : ∀ u, H (w.ρ n) = some u → H' (w.ρ n) = some u) (kg : ∀ od x, w.G (w.ρ n) = some (.frz od (.dK x)) → w'.G (w.ρ n) = some (.frz od (.dK x))) : ObR g w' H' n o := by
  have e := le.at_ n hn
  cases o with
  | lst xs => obtain ⟨vs, q, r⟩ := r; exact ⟨vs, by rw [e]; exact k _ q, r.mono' le⟩
  | dct kvs => obtain ⟨vs, q, r⟩ := r; exact ⟨vs, by rw [e]; exact k _ q, r.mono' le⟩
  | ins C fs => obtain ⟨hc, dx, fvs, q, r⟩ := r; exact ⟨hc, dx, fvs, by rw [e]; exact k _ q, r.mono' le⟩
  | dead => trivial
  | ldct kvs => obtain ⟨od, vs, q, r⟩ := r; exact ⟨od, vs, by rw [e]; exact kg _ _ q, r.mono' le⟩
theorem Mem.lt (M : Mem g w H m) {n : Nat} {o : O} (e : m[n]? = some o) : n < w.len := by
  rw [M.len]
  exact (List.getElem?_eq_some_iff.mp e).1
abbrev Wd.fz (w : Wd) (p : Addr) (o : HO) : Wd := ⟨upd w.F p o, w.ρ, w.len, w.G⟩
abbrev Wd.one (w : Wd) (p : Addr) : Wd := ⟨w.F, fun n => if n = w.len then p else w.ρ n, w.len + 1, w.G⟩
abbrev Wd.wg (w : Wd) (G : Hp) : Wd := ⟨w.F, w.ρ, w.len, G⟩
theorem Wd.one_le (w : Wd) (p : Addr) : w.le (w.one p) := ⟨⟨fun _ _ h => h, Nat.le_succ _, fun n h => if_neg (Nat.ne_of_lt h)⟩, fun _ _ h => h⟩
theorem upd_of {H F : Hp} (h : ∀ a o, F a = some o → H a = some o) (p : Addr) (o : HO) : ∀ a x, upd F p o a = some x → upd H p o a = some x := fun a x e => by
  by_cases q : a = p
  · subst q
    rw [upd_same] at e ⊢; exact e
  · rw [upd_ne q] at e ⊢; exact h a x e
/-- a thing that stands for good is laid -/
theorem Mem.laid (M : Mem g w H m) {p : Addr} {o : HO} (hp : H p = none) : w.le (w.fz p o) ∧ Mem g (w.fz p o) (upd H p o) m := by
  have ne : ∀ {a u}, H a = some u → a ≠ p := fun e => ne_of_none e hp
  have le : w.le (w.fz p o) := ⟨⟨fun a u h => by
    show upd w.F p o a = some u
    rw [upd_ne (ne (M.fr a u h))]; exact h, Nat.le_refl _, fun _ _ => rfl⟩, fun _ _ h => h⟩
  refine ⟨le, ⟨upd_of M.fr p o, M.len, fun n u e => ?_, fun n u e l => ?_, M.inj, fun a u h => by rw [upd_ne (ne (M.gr a u h))]; exact M.gr a u h, M.ng, fun a u h => by
    show upd w.F p o a = none
    rw [upd_ne (ne (M.gr a u h))]; exact M.gf a u h⟩⟩
  · exact (M.ob n u e).keep le.tolf (M.lt e) (fun x h => by rw [upd_ne (ne h)]; exact h) fun _ _ h => h
  · obtain ⟨x, hx⟩ := M.at e (O.held_of l)
    show upd w.F p o (w.ρ n) = none
    rw [upd_ne (ne hx)]
    exact M.nf n u e l
/-- .. beside -/
theorem Mem.beside (M : Mem g w H m) {p : Addr} {o : HO} (hp : H p = none) : w.le (w.wg (upd w.G p o)) ∧ Mem g (w.wg (upd w.G p o)) (upd H p o) m := by
  have ne : ∀ {a u}, H a = some u → a ≠ p := fun e => ne_of_none e hp
  have le : w.le (w.wg (upd w.G p o)) := ⟨lf_G w _, fun a u h => by
    show upd w.G p o a = some u
    rw [upd_ne (ne (M.gr a u h))]; exact h⟩
  refine ⟨le, ⟨fun a u h => by rw [upd_ne (ne (M.fr a u h))]; exact M.fr a u h, M.len, fun n u e => ?_, M.nf, M.inj, upd_of M.gr p o, fun n u e l => ?_, fun a u h => ?_⟩⟩
  · exact (M.ob n u e).keep le.tolf (M.lt e) (fun x h => by rw [upd_ne (ne h)]; exact h) fun od x h => by
      show upd w.G p o (w.ρ n) = _
      rw [upd_ne (ne (M.gr _ _ h))]; exact h
  · obtain ⟨x, hx⟩ := M.at e (O.held_of l)
    show upd w.G p o (w.ρ n) = none
    rw [upd_ne (ne hx)]
    exact M.ng n u e l
  · have h : upd w.G p o a = some u := h
    show w.F a = none
    by_cases q : a = p
    · subst q
      cases z : w.F a with
      | none => rfl
      | some y => rw [M.fr a y z] at hp; cases hp
    · rw [upd_ne q] at h; exact M.gf a u h
/-- a thing beside is changed; p doesn't stand for good -/
theorem Mem.turned (M : Mem g w H m) {p : Addr} {o u : HO} (hp : w.G p = some u) (hu : ∀ od x, u ≠ .frz od (.dK x) := by intro _ _ z; cases z) : Mem g (w.wg (upd w.G p o)) (upd H p o) m := by
  have hf := M.gf _ _ hp
  have nF : ∀ {a x}, w.F a = some x → a ≠ p := fun e z => by rw [z, hf] at e; cases e
  have nI : ∀ {n x}, m[n]? = some x → x.live → w.ρ n ≠ p := fun e l z => by
    have q := M.ng _ _ e l
    rw [z, hp] at q; cases q
  refine ⟨fun a u h => by rw [upd_ne (nF h)]; exact M.fr a u h, M.len, fun n u e => ?_, M.nf, M.inj, upd_of M.gr p o, fun n u e l => ?_, fun a x h => ?_⟩
  · cases u with
    | dead => trivial
    | ldct kvs =>
      obtain ⟨od, vs, q, r⟩ := M.ob n _ e
      refine ⟨od, vs, ?_, r.mono' (lf_G w _)⟩
      show upd w.G p o (w.ρ n) = _
      rw [upd_ne fun z => by rw [z, hp] at q; exact hu _ _ (Option.some.inj q)]; exact q
    | _ =>
      exact (M.ob n _ e).keep (lf_G w _) (M.lt e) (fun x h => by rw [upd_ne (nI e trivial)]; exact h) fun od x h => by
        show upd w.G p o (w.ρ n) = _
        rw [upd_ne (nI e trivial)]; exact h
  · show upd w.G p o (w.ρ n) = none
    rw [upd_ne (nI e l)]
    exact M.ng n u e l
  · have h : upd w.G p o a = some x := h
    show w.F a = none
    by_cases q : a = p
    · rw [q]; exact hf
    · rw [upd_ne q] at h; exact M.gf a x h
/-- a thing beside comes to stand for good -/
theorem Mem.settle (M : Mem g w H m) {p : Addr} {o : HO} (hp : w.G p = some o) (hu : ∀ od x, o ≠ .frz od (.dK x) := by intro _ _ z; cases z) : Mem g ⟨upd w.F p o, w.ρ, w.len, fun a => if a = p then none else w.G a⟩ H m := by
  have hf := M.gf _ _ hp
  have nI : ∀ {n x}, m[n]? = some x → x.live → w.ρ n ≠ p := fun e l z => by
    have q := M.ng _ _ e l
    rw [z, hp] at q; cases q
  have lf : w.lf ⟨upd w.F p o, w.ρ, w.len, fun a => if a = p then none else w.G a⟩ := ⟨fun a x h => by
    show upd w.F p o a = some x
    rw [upd_ne fun z => by rw [z, hf] at h; cases h]; exact h, Nat.le_refl _, fun _ _ => rfl⟩
  refine ⟨fun a u h => ?_, M.len, fun n u e => (M.ob n u e).keep lf (M.lt e) (fun x h => h) fun od x h => by
    show (if w.ρ n = p then none else w.G (w.ρ n)) = _
    rw [if_neg fun z => by rw [z, hp] at h; exact hu _ _ (Option.some.inj h)]; exact h, fun n u e l => ?_, M.inj, fun a u h => ?_, fun n u e l => ?_, fun a u h => ?_⟩
  · have h : upd w.F p o a = some u := h
    by_cases q : a = p
    · subst q
      rw [upd_same] at h
      rw [← h]; exact M.gr _ _ hp
    · rw [upd_ne q] at h; exact M.fr a u h
  · show upd w.F p o (w.ρ n) = none
    rw [upd_ne (nI e l)]; exact M.nf n u e l
  · have h : (if a = p then none else w.G a) = some u := h
    by_cases q : a = p
    · rw [if_pos q] at h; cases h
    · rw [if_neg q] at h; exact M.gr a u h
  · show (if w.ρ n = p then none else w.G (w.ρ n)) = none
    rw [if_neg (nI e l)]; exact M.ng n u e l
  · have h : (if a = p then none else w.G a) = some u := h
    show upd w.F p o a = none
    by_cases q : a = p
    · rw [if_pos q] at h; cases h
    · rw [if_neg q] at h
      rw [upd_ne q]; exact M.gf a u h
/-- a new object at a new id -/
theorem Mem.new (M : Mem g w H m) {p : Addr} {o : HO} {u : O} (hp : H p = none) (hu : ObR g (w.one p) (upd H p o) w.len u) :
    w.le (w.one p) ∧ Mem g (w.one p) (upd H p o) (m ++ [u]) := by
  have ne : ∀ {a x}, H a = some x → a ≠ p := fun e => ne_of_none e hp
  have le : w.le (w.one p) := w.one_le p
  have old : ∀ {n x}, (m ++ [u])[n]? = some x → (m[n]? = some x ∧ n < w.len) ∨ (n = w.len ∧ x = u) := fun {n x} e => by
    by_cases q : n < m.length
    · rw [List.getElem?_append_left q] at e
      exact .inl ⟨e, by rw [M.len]; exact q⟩
    · rw [List.getElem?_append_right (by omega)] at e
      have q2 : n - m.length = 0 := by
        by_cases z : n - m.length = 0
        · exact z
        · rw [List.getElem?_eq_none (by simp; omega)] at e; cases e
      rw [q2] at e
      exact .inr ⟨by rw [M.len]; omega, (Option.some.inj e).symm⟩
  have rn : ∀ {n}, n < w.len → (if n = w.len then p else w.ρ n) = w.ρ n := fun h => if_neg (Nat.ne_of_lt h)
  have free : ∀ {F : Hp}, (∀ a o, F a = some o → H a = some o) → F p = none := fun {F} h => by
    cases z : F p with
    | none => rfl
    | some y => rw [h p y z] at hp; cases hp
  refine ⟨le, ⟨fun a x h => by rw [upd_ne (ne (M.fr a x h))]; exact M.fr a x h, by
    show w.len + 1 = _
    rw [M.len, List.length_append]; rfl, fun n x e => ?_, fun n x e l => ?_, fun n k x y e l e' l' q => ?_, fun a x h => by rw [upd_ne (ne (M.gr a x h))]; exact M.gr a x h, fun n x e l => ?_, M.gf⟩⟩
  · rcases old e with ⟨e, hn⟩ | ⟨rfl, rfl⟩
    · exact (M.ob n x e).keep le.tolf hn (fun y h => by rw [upd_ne (ne h)]; exact h) fun _ _ h => h
    · exact hu
  · rcases old e with ⟨e, hn⟩ | ⟨rfl, rfl⟩
    · show w.F (if n = w.len then p else w.ρ n) = none
      rw [rn hn]; exact M.nf n x e l
    · show w.F (if w.len = w.len then p else w.ρ w.len) = none
      rw [if_pos rfl]
      exact free M.fr
  · have q : (if n = w.len then p else w.ρ n) = (if k = w.len then p else w.ρ k) := q
    have a1 : (n < w.len ∧ ∃ z, H (w.ρ n) = some z) ∨ n = w.len := by
      rcases old e with ⟨e1, hn⟩ | ⟨h1, _⟩
      · exact .inl ⟨hn, M.at e1 l⟩
      · exact .inr h1
    have a2 : (k < w.len ∧ ∃ z, H (w.ρ k) = some z) ∨ k = w.len := by
      rcases old e' with ⟨e1, hn⟩ | ⟨h1, _⟩
      · exact .inl ⟨hn, M.at e1 l'⟩
      · exact .inr h1
    rcases a1 with ⟨hn, z, hz⟩ | hn
    · rcases a2 with ⟨hk, z', hz'⟩ | hk
      · rw [rn hn, rn hk] at q
        rcases old e with ⟨e1, _⟩ | ⟨h1, _⟩
        · rcases old e' with ⟨e2, _⟩ | ⟨h2, _⟩
          · exact M.inj n k x y e1 l e2 l' q
          · omega
        · omega
      · rw [rn hn, if_pos hk] at q
        exact absurd q (ne hz)
    · rcases a2 with ⟨hk, z', hz'⟩ | hk
      · rw [if_pos hn, rn hk] at q
        exact absurd q.symm (ne hz')
      · omega
  · rcases old e with ⟨e, hn⟩ | ⟨rfl, rfl⟩
    · show w.G (if n = w.len then p else w.ρ n) = none
      rw [rn hn]; exact M.ng n x e l
    · show w.G (if w.len = w.len then p else w.ρ w.len) = none
      rw [if_pos rfl]
      exact free M.gr
/-- a thing beside comes to be an object -/
theorem Mem.adopt (M : Mem g w H m) {p : Addr} {o : HO} {u : O} (hp : w.G p = some o) (hf0 : ∀ od x, o ≠ .frz od (.dK x) := by intro _ _ z; cases z)
    (hu : ObR g ⟨w.F, fun n => if n = w.len then p else w.ρ n, w.len + 1, fun a => if a = p then none else w.G a⟩ H w.len u) :
    Mem g ⟨w.F, fun n => if n = w.len then p else w.ρ n, w.len + 1, fun a => if a = p then none else w.G a⟩ H (m ++ [u]) := by
  have hf := M.gf _ _ hp
  have nI : ∀ {n x}, m[n]? = some x → x.live → w.ρ n ≠ p := fun e l z => by
    have q := M.ng _ _ e l
    rw [z, hp] at q; cases q
  have nH : ∀ {n x}, m[n]? = some x → x.held → w.ρ n ≠ p := fun {n x} e l z => by
    cases x with
    | dead => exact l
    | ldct kvs =>
      obtain ⟨od, vs, q, _⟩ := M.ob n _ e
      rw [z, hp] at q
      exact hf0 _ _ (Option.some.inj q)
    | _ => exact nI e trivial z
  have lf : w.lf ⟨w.F, fun n => if n = w.len then p else w.ρ n, w.len + 1, fun a => if a = p then none else w.G a⟩ := ⟨fun _ _ h => h, Nat.le_succ _, fun n h => if_neg (Nat.ne_of_lt h)⟩
  have old : ∀ {n x}, (m ++ [u])[n]? = some x → (m[n]? = some x ∧ n < w.len) ∨ (n = w.len ∧ x = u) := fun {n x} e => by
    by_cases q : n < m.length
    · rw [List.getElem?_append_left q] at e
      exact .inl ⟨e, by rw [M.len]; exact q⟩
    · rw [List.getElem?_append_right (by omega)] at e
      have q2 : n - m.length = 0 := by
        by_cases z : n - m.length = 0
        · exact z
        · rw [List.getElem?_eq_none (by simp; omega)] at e; cases e
      rw [q2] at e
      exact .inr ⟨by rw [M.len]; omega, (Option.some.inj e).symm⟩
  have rn : ∀ {n}, n < w.len → (if n = w.len then p else w.ρ n) = w.ρ n := fun h => if_neg (Nat.ne_of_lt h)
  refine ⟨M.fr, by
    show w.len + 1 = _
    rw [M.len, List.length_append]; rfl, fun n x e => ?_, fun n x e l => ?_, fun n k x y e l e' l' q => ?_, fun a x h => ?_, fun n x e l => ?_, fun a x h => ?_⟩
  · rcases old e with ⟨e, hn⟩ | ⟨rfl, rfl⟩
    · exact (M.ob n x e).keep lf hn (fun y h => h) fun od x h => by
        show (if w.ρ n = p then none else w.G (w.ρ n)) = _
        rw [if_neg fun z => by rw [z, hp] at h; exact hf0 _ _ (Option.some.inj h)]; exact h
    · exact hu
  · rcases old e with ⟨e, hn⟩ | ⟨rfl, rfl⟩
    · show w.F (if n = w.len then p else w.ρ n) = none
      rw [rn hn]; exact M.nf n x e l
    · show w.F (if w.len = w.len then p else w.ρ w.len) = none
      rw [if_pos rfl]
      exact hf
  · have q : (if n = w.len then p else w.ρ n) = (if k = w.len then p else w.ρ k) := q
    have a1 : (n < w.len ∧ w.ρ n ≠ p) ∨ n = w.len := by
      rcases old e with ⟨e1, hn⟩ | ⟨h1, _⟩
      · exact .inl ⟨hn, nH e1 l⟩
      · exact .inr h1
    have a2 : (k < w.len ∧ w.ρ k ≠ p) ∨ k = w.len := by
      rcases old e' with ⟨e1, hn⟩ | ⟨h1, _⟩
      · exact .inl ⟨hn, nH e1 l'⟩
      · exact .inr h1
    rcases a1 with ⟨hn, hz⟩ | hn
    · rcases a2 with ⟨hk, hz'⟩ | hk
      · rw [rn hn, rn hk] at q
        rcases old e with ⟨e1, _⟩ | ⟨h1, _⟩
        · rcases old e' with ⟨e2, _⟩ | ⟨h2, _⟩
          · exact M.inj n k x y e1 l e2 l' q
          · omega
        · omega
      · rw [rn hn, if_pos hk] at q
        exact absurd q hz
    · rcases a2 with ⟨hk, hz'⟩ | hk
      · rw [if_pos hn, rn hk] at q
        exact absurd q.symm hz'
      · omega
  · have h : (if a = p then none else w.G a) = some x := h
    by_cases q : a = p
    · rw [if_pos q] at h; cases h
    · rw [if_neg q] at h; exact M.gr a x h
  · rcases old e with ⟨e, hn⟩ | ⟨rfl, rfl⟩
    · show (if (if n = w.len then p else w.ρ n) = p then none else w.G (if n = w.len then p else w.ρ n)) = none
      rw [rn hn, if_neg (nI e l)]; exact M.ng n x e l
    · show (if (if w.len = w.len then p else w.ρ w.len) = p then none else w.G (if w.len = w.len then p else w.ρ w.len)) = none
      rw [if_pos rfl, if_pos rfl]
  · have h : (if a = p then none else w.G a) = some x := h
    show w.F a = none
    by_cases q : a = p
    · rw [if_pos q] at h; cases h
    · rw [if_neg q] at h; exact M.gf a x h
/-- an object changed -/
theorem Mem.write (M : Mem g w H m) {n : Nat} {x u : O} {o : HO} (e : m[n]? = some x) (l : x.live) (lu : u.live) (hu : ObR g w (upd H (w.ρ n) o) n u) : Mem g w (upd H (w.ρ n) o) (m.set n u) := by
  have hn : n < m.length := (List.getElem?_eq_some_iff.mp e).1
  have old : ∀ {k y}, (m.set n u)[k]? = some y → (k ≠ n ∧ m[k]? = some y) ∨ (k = n ∧ y = u) := fun {k y} q => by
    by_cases z : n = k
    · subst z
      rw [List.getElem?_set_self hn] at q
      exact .inr ⟨rfl, (Option.some.inj q).symm⟩
    · rw [List.getElem?_set_ne z] at q
      exact .inl ⟨fun h => z h.symm, q⟩
  refine ⟨fun a y h => ?_, by rw [List.length_set]; exact M.len, fun k y q => ?_, fun k y q ly => ?_, fun k j y z q ly q' lz r => ?_, fun a y h => ?_, fun k y q ly => ?_, M.gf⟩
  · have ne : a ≠ w.ρ n := fun z => by
      have q := M.nf n x e l
      rw [← z, h] at q; cases q
    rw [upd_ne ne]; exact M.fr a y h
  · rcases old q with ⟨ne, q⟩ | ⟨rfl, rfl⟩
    · cases y with
      | dead => trivial
      | ldct kvs => exact M.ob k _ q
      | _ =>
        refine (M.ob k _ q).keep (Wd.le.refl w).tolf (M.lt q) (fun v h => ?_) fun _ _ h => h
        rw [upd_ne fun z => ne (M.inj k n _ x q trivial e (O.held_of l) z)]; exact h
    · exact hu
  · rcases old q with ⟨ne, q⟩ | ⟨rfl, rfl⟩
    · exact M.nf k y q ly
    · exact M.nf k x e l
  · have a1 : ∃ y', m[k]? = some y' ∧ y'.held := by
      rcases old q with ⟨_, q⟩ | ⟨rfl, rfl⟩
      · exact ⟨y, q, ly⟩
      · exact ⟨x, e, O.held_of l⟩
    have a2 : ∃ y', m[j]? = some y' ∧ y'.held := by
      rcases old q' with ⟨_, q⟩ | ⟨rfl, rfl⟩
      · exact ⟨z, q, lz⟩
      · exact ⟨x, e, O.held_of l⟩
    obtain ⟨y', e1, l1⟩ := a1
    obtain ⟨z', e2, l2⟩ := a2
    exact M.inj k j y' z' e1 l1 e2 l2 r
  · have ne : a ≠ w.ρ n := fun z => by
      have q := M.ng n x e l
      rw [← z, h] at q; cases q
    rw [upd_ne ne]; exact M.gr a y h
  · rcases old q with ⟨ne, q⟩ | ⟨rfl, rfl⟩
    · exact M.ng k y q ly
    · exact M.ng k x e l
/-- an id gives its object to what stands for good -/
theorem Mem.give (M : Mem g w H m) {n : Nat} {x : O} {o : HO} (e : m[n]? = some x) (l : x.live) (ho : H (w.ρ n) = some o) : w.le (w.fz (w.ρ n) o) ∧ Mem g (w.fz (w.ρ n) o) H (m.set n .dead) := by
  have hn : n < m.length := (List.getElem?_eq_some_iff.mp e).1
  have hF := M.nf n x e l
  have le : w.le (w.fz (w.ρ n) o) := ⟨⟨fun a u h => by
    show upd w.F (w.ρ n) o a = some u
    rw [upd_ne (ne_of_none h hF)]; exact h, Nat.le_refl _, fun _ _ => rfl⟩, fun _ _ h => h⟩
  have old : ∀ {k y}, (m.set n .dead)[k]? = some y → (k ≠ n ∧ m[k]? = some y) ∨ (k = n ∧ y = .dead) := fun {k y} q => by
    by_cases z : n = k
    · subst z
      rw [List.getElem?_set_self hn] at q
      exact .inr ⟨rfl, (Option.some.inj q).symm⟩
    · rw [List.getElem?_set_ne z] at q
      exact .inl ⟨fun h => z h.symm, q⟩
  refine ⟨le, ⟨fun a u h => ?_, by rw [List.length_set]; exact M.len, fun k y q => ?_, fun k y q ly => ?_, fun k j y z q ly q' lz r => ?_, M.gr, fun k y q ly => ?_, fun a u h => ?_⟩⟩
  · have h : upd w.F (w.ρ n) o a = some u := h
    by_cases q : a = w.ρ n
    · subst q
      rw [upd_same] at h
      rw [← h]; exact ho
    · rw [upd_ne q] at h
      exact M.fr a u h
  · rcases old q with ⟨ne, q⟩ | ⟨rfl, rfl⟩
    · exact (M.ob k y q).keep le.tolf (M.lt q) (fun v h => h) fun _ _ h => h
    · trivial
  · rcases old q with ⟨ne, q⟩ | ⟨rfl, rfl⟩
    · show upd w.F (w.ρ n) o (w.ρ k) = none
      rw [upd_ne fun z => ne (M.inj k n y x q (O.held_of ly) e (O.held_of l) z)]
      exact M.nf k y q ly
    · exact ly.elim
  · rcases old q with ⟨_, q⟩ | ⟨rfl, rfl⟩
    · rcases old q' with ⟨_, q'⟩ | ⟨rfl, rfl⟩
      · exact M.inj k j y z q ly q' lz r
      · exact lz.elim
    · exact ly.elim
  · rcases old q with ⟨_, q⟩ | ⟨rfl, rfl⟩
    · exact M.ng k y q ly
    · exact ly.elim
  · show upd w.F (w.ρ n) o a = none
    have ne : a ≠ w.ρ n := fun z => by
      have q := M.ng n x e l
      have h : w.G a = some u := h
      rw [← z, h] at q; cases q
    rw [upd_ne ne]; exact M.gf a u h
/-! ### a dict that is gone over -/
theorem old_set {m : Mm} {n : Nat} {u : O} (hn : n < m.length) {k : Nat} {y : O} (q : (m.set n u)[k]? = some y) : (k ≠ n ∧ m[k]? = some y) ∨ (k = n ∧ y = u) := by
  by_cases z : n = k
  · subst z
    rw [List.getElem?_set_self hn] at q
    exact .inr ⟨rfl, (Option.some.inj q).symm⟩
  · rw [List.getElem?_set_ne z] at q
    exact .inl ⟨fun h => z h.symm, q⟩
theorem Mem.lock (M : Mem g w H m) {n : Nat} {kvs : List (Key × D)} {kvs' : List (Key × V)} (e : m[n]? = some (.dct kvs)) (r : Rkv g w kvs kvs') (od : Obj) :
    w.le (w.wg (upd w.G (w.ρ n) (.frz od (.dK kvs')))) ∧ Mem g (w.wg (upd w.G (w.ρ n) (.frz od (.dK kvs')))) (upd H (w.ρ n) (.frz od (.dK kvs'))) (m.set n (.ldct kvs)) := by
  have hn : n < m.length := (List.getElem?_eq_some_iff.mp e).1
  have hF := M.nf n _ e trivial
  have hG := M.ng n _ e trivial
  have ne : ∀ {k y}, k ≠ n → m[k]? = some y → y.held → w.ρ k ≠ w.ρ n := fun h q l z => h (M.inj _ _ _ _ q l e trivial z)
  refine ⟨⟨lf_G w _, fun a o h => ?_⟩, ⟨fun a o h => ?_, by rw [List.length_set]; exact M.len, fun k y q => ?_, fun k y q l => ?_, fun k j y z q l q' l' h => ?_, upd_of M.gr _ _, fun k y q l => ?_, fun a o h => ?_⟩⟩
  · show upd w.G (w.ρ n) _ a = some o
    rw [upd_ne fun z => by rw [z, hG] at h; cases h]; exact h
  · rw [upd_ne fun z => by rw [z, hF] at h; cases h]; exact M.fr a o h
  · rcases old_set hn q with ⟨h, q⟩ | ⟨rfl, rfl⟩
    · cases y with
      | dead => trivial
      | _ =>
        refine (M.ob k _ q).keep (lf_G w _) (M.lt q) (fun v hv => ?_) fun od x hv => ?_
        · rw [upd_ne (ne h q trivial)]; exact hv
        · show upd w.G (w.ρ n) _ (w.ρ k) = _
          rw [upd_ne (ne h q trivial)]; exact hv
    · exact ⟨od, kvs', upd_same, r.mono' (lf_G w _)⟩
  · rcases old_set hn q with ⟨h, q⟩ | ⟨rfl, rfl⟩
    · exact M.nf k y q l
    · exact l.elim
  · have a1 : ∃ y', m[k]? = some y' ∧ y'.held := by
      rcases old_set hn q with ⟨_, q⟩ | ⟨rfl, rfl⟩
      · exact ⟨y, q, l⟩
      · exact ⟨_, e, trivial⟩
    have a2 : ∃ y', m[j]? = some y' ∧ y'.held := by
      rcases old_set hn q' with ⟨_, q⟩ | ⟨rfl, rfl⟩
      · exact ⟨z, q, l'⟩
      · exact ⟨_, e, trivial⟩
    obtain ⟨y', e1, l1⟩ := a1
    obtain ⟨z', e2, l2⟩ := a2
    exact M.inj k j y' z' e1 l1 e2 l2 h
  · rcases old_set hn q with ⟨h, q⟩ | ⟨rfl, rfl⟩
    · show upd w.G (w.ρ n) _ (w.ρ k) = none
      rw [upd_ne (ne h q (O.held_of l))]; exact M.ng k y q l
    · exact l.elim
  · have h : upd w.G (w.ρ n) _ a = some o := h
    by_cases z : a = w.ρ n
    · rw [z]; exact hF
    · rw [upd_ne z] at h; exact M.gf a o h
theorem Mem.unlock (M : Mem g w H m) {n : Nat} {kvs : List (Key × D)} (e : m[n]? = some (.ldct kvs)) {od : Obj} {kvs' : List (Key × V)} (hG : w.G (w.ρ n) = some (.frz od (.dK kvs'))) :
    Mem g ⟨w.F, w.ρ, w.len, fun a => if a = w.ρ n then none else w.G a⟩ (upd H (w.ρ n) (.dK kvs')) (m.set n (.dct kvs)) := by
  have hn : n < m.length := (List.getElem?_eq_some_iff.mp e).1
  have hF := M.gf _ _ hG
  have r : Rkv g w kvs kvs' := by
    obtain ⟨od2, k2, q, r⟩ := M.ob n _ e
    rw [hG] at q
    cases q
    exact r
  have lf : w.lf ⟨w.F, w.ρ, w.len, fun a => if a = w.ρ n then none else w.G a⟩ := ⟨fun _ _ h => h, Nat.le_refl _, fun _ _ => rfl⟩
  have ne : ∀ {k y}, k ≠ n → m[k]? = some y → y.held → w.ρ k ≠ w.ρ n := fun h q l z => h (M.inj _ _ _ _ q l e trivial z)
  refine ⟨fun a o h => ?_, by rw [List.length_set]; exact M.len, fun k y q => ?_, fun k y q l => ?_, fun k j y z q l q' l' h => ?_, fun a o h => ?_, fun k y q l => ?_, fun a o h => ?_⟩
  · rw [upd_ne fun z => by
      have h : w.F a = some o := h
      rw [z, hF] at h; cases h]; exact M.fr a o h
  · rcases old_set hn q with ⟨h, q⟩ | ⟨rfl, rfl⟩
    · cases y with
      | dead => trivial
      | _ =>
        refine (M.ob k _ q).keep lf (M.lt q) (fun v hv => ?_) fun od x hv => ?_
        · rw [upd_ne (ne h q trivial)]; exact hv
        · show (if w.ρ k = w.ρ n then none else w.G (w.ρ k)) = _
          rw [if_neg (ne h q trivial)]; exact hv
    · exact ⟨kvs', upd_same, r.mono' lf⟩
  · rcases old_set hn q with ⟨h, q⟩ | ⟨rfl, rfl⟩
    · exact M.nf k y q l
    · exact hF
  · have a1 : ∃ y', m[k]? = some y' ∧ y'.held := by
      rcases old_set hn q with ⟨_, q⟩ | ⟨rfl, rfl⟩
      · exact ⟨y, q, l⟩
      · exact ⟨_, e, trivial⟩
    have a2 : ∃ y', m[j]? = some y' ∧ y'.held := by
      rcases old_set hn q' with ⟨_, q⟩ | ⟨rfl, rfl⟩
      · exact ⟨z, q, l'⟩
      · exact ⟨_, e, trivial⟩
    obtain ⟨y', e1, l1⟩ := a1
    obtain ⟨z', e2, l2⟩ := a2
    exact M.inj k j y' z' e1 l1 e2 l2 h
  · have h : (if a = w.ρ n then none else w.G a) = some o := h
    by_cases z : a = w.ρ n
    · rw [if_pos z] at h; cases h
    · rw [if_neg z] at h
      rw [upd_ne z]; exact M.gr a o h
  · rcases old_set hn q with ⟨h, q⟩ | ⟨rfl, rfl⟩
    · show (if w.ρ k = w.ρ n then none else w.G (w.ρ k)) = none
      rw [if_neg (ne h q (O.held_of l))]; exact M.ng k y q l
    · show (if w.ρ k = w.ρ k then none else w.G (w.ρ k)) = none
      rw [if_pos rfl]
  · have h : (if a = w.ρ n then none else w.G a) = some o := h
    by_cases z : a = w.ρ n
    · rw [if_pos z] at h; cases h
    · rw [if_neg z] at h; exact M.gf a o h
end R

/-! RSnd2: what the operations of data mean for HandS's rules. -/
namespace R
open PySem PySem.Spec PyProof.Rows L2

/-! ### ends -/
/-- how an exception lies -/
def XR (g : Gm) (C : Nat) (p : Option D) (cls : Value) : Prop := cls = .ref (g.cad C) ∧ p = none
abbrev XW := Value → Option Addr → Hp → Prop
def Post {α β : Type} (Rl : Wd → α → β → Prop) (g : Gm) (w : Wd) (xw : XW) (Q : β → Hp → Prop) : Res Mm α → Prop
  | .ok d m => ∀ w' v H', w.le w' → Mem g w' H' m → Rl w' d v → Q v H'
  | .exn C p m => ∀ w' cls dx H', w.le w' → Mem g w' H' m → XR g C p cls → xw cls dx H'
  | .bad => False
theorem Post.mono {α β : Type} {Rl : Wd → α → β → Prop} {g : Gm} {w w' : Wd} {xw : XW} {Q : β → Hp → Prop} (le : w.le w') : ∀ {r : Res Mm α}, Post Rl g w xw Q r → Post Rl g w' xw Q r
  | .ok _ _, h => fun u v H' l => h u v H' (le.trans l)
  | .exn _ _ _, h => fun u c d H' l => h u c d H' (le.trans l)
  | .bad, h => h
theorem Post.imp {α β : Type} {Rl : Wd → α → β → Prop} {g : Gm} {w : Wd} {xw : XW} {Q Q' : β → Hp → Prop} (k : ∀ v H, Q v H → Q' v H) : ∀ {r : Res Mm α}, Post Rl g w xw Q r → Post Rl g w xw Q' r
  | .ok _ _, h => fun u v H' l M r => k _ _ (h u v H' l M r)
  | .exn _ _ _, h => h
  | .bad, h => h
/-- one thing behind another -/
theorem Post.bind {α β γ δ : Type} {Rl : Wd → α → β → Prop} {Rl' : Wd → γ → δ → Prop} {g : Gm} {w : Wd} {xw : XW} {Q : β → Hp → Prop} {Q' : δ → Hp → Prop} {r : Res Mm γ} {f : γ → Mm → Res Mm α} (h : Post Rl g w xw Q (r.bind f))
    (k : ∀ d m, r = .ok d m → ∀ w' v H', w.le w' → Mem g w' H' m → Rl' w' d v → Post Rl g w' xw Q (f d m) → Q' v H') : Post Rl' g w xw Q' r := by
  cases r with
  | ok d m => exact fun w' v H' le M rv => k d m rfl w' v H' le M rv (Post.mono le h)
  | exn C p m => exact h
  | bad => exact h
abbrev PostE (g : Gm) := Post (Rv g) g
abbrev PostEs (g : Gm) := Post (Rvs g) g

structure Slr (g : Gm) (w : Wd) (sl : List (Option D)) (σ : L2.St) : Prop where
  len : sl.length = σ.length
  at_ : ∀ (i : Nat) d, sl[i]? = some (some d) → ∃ v, σ[i]? = some (some v) ∧ Rv g w d v
theorem Slr.mono {g : Gm} {w w' : Wd} {sl : List (Option D)} {σ : L2.St} (le : w.le w') (s : Slr g w sl σ) : Slr g w' sl σ :=
  ⟨s.len, fun i d e => let ⟨v, h, r⟩ := s.at_ i d e; ⟨v, h, r.mono le⟩⟩
theorem Slr.set {g : Gm} {w : Wd} {sl : List (Option D)} {σ : L2.St} (s : Slr g w sl σ) {i : Nat} {d : D} {v : V} (r : Rv g w d v) : Slr g w (sl.set i (some d)) (σ.set i (some v)) := by
  refine ⟨by rw [List.length_set, List.length_set]; exact s.len, fun j e h => ?_⟩
  by_cases q : i = j
  · subst q
    by_cases hi : i < sl.length
    · rw [List.getElem?_set_self hi] at h
      cases h
      exact ⟨v, List.getElem?_set_self (by rw [← s.len]; exact hi), r⟩
    · rw [List.getElem?_eq_none (by simpa using hi)] at h; cases h
  · rw [List.getElem?_set_ne q] at h
    rw [List.getElem?_set_ne q]
    exact s.at_ j e h
theorem Slr.wipe {g : Gm} {w : Wd} {sl : List (Option D)} {σ : L2.St} (s : Slr g w sl σ) : ∀ vs : List Nat, Slr g w (R.wipe sl vs) (L2.wipe σ vs)
  | [] => s
  | v :: vs => by
    have t := Slr.wipe s vs
    unfold R.wipe L2.wipe
    refine ⟨by rw [List.length_set, List.length_set]; exact t.len, fun j e h => ?_⟩
    by_cases q : v = j
    · subst q
      by_cases hi : v < (R.wipe sl vs).length
      · rw [List.getElem?_set_self hi] at h; cases h
      · rw [List.getElem?_eq_none (by simpa using hi)] at h; cases h
    · rw [List.getElem?_set_ne q] at h
      rw [List.getElem?_set_ne q]
      exact t.at_ j e h

/-! ### lists of data -/
variable {g : Gm} {w : Wd} {H : Hp} {m : Mm}
theorem sl_szOk {n : Nat} (h : szOk n = true) : n ≤ sizeLine := by
  rw [sizeLine_eq]; exact Nat.le_of_ble_eq_true h
theorem lstW_rel (M : Mem g w H m) {d : D} {v : V} {xs : List D} (r : Rv g w d v) (e : lstW m d = some xs) : ∃ a vs, v = .ref a ∧ H a = some (.lst vs) ∧ Rvs g w xs vs := by
  cases r with
  | lst h r =>
    cases e
    exact ⟨_, _, rfl, M.fr _ _ h, r⟩
  | ref n hn =>
    simp only [lstW] at e
    split at e
    · rename_i ys q
      cases e
      obtain ⟨vs, h1, h2⟩ := M.ob n _ q
      exact ⟨_, vs, rfl, h1, h2⟩
    · cases e
  | _ => cases e
theorem lstOf_rel (M : Mem g w H m) {d : D} {v : V} {xs : List D} (r : Rv g w d v) (e : lstOf m d = some xs) : ∃ a vs, v = .ref a ∧ SqL g.K H a vs ∧ Rvs g w xs vs := by
  cases r with
  | lst h r =>
    cases e
    exact ⟨_, _, rfl, SqL.of (M.fr _ _ h), r⟩
  | scr h r =>
    cases e
    exact ⟨_, _, rfl, sqL_mono M.fr h, r⟩
  | ref n hn =>
    simp only [lstOf] at e
    split at e
    · rename_i ys q
      cases e
      obtain ⟨vs, h1, h2⟩ := M.ob n _ q
      exact ⟨_, vs, rfl, SqL.of h1, h2⟩
    · cases e
  | _ => cases e
theorem seqOf_rel (M : Mem g w H m) {d : D} {v : V} {xs : List D} (r : Rv g w d v) (e : seqOf m d = some xs) : ∃ a vs, v = .ref a ∧ (SqL g.K H a vs ∨ SqT g.K H a vs) ∧ Rvs g w xs vs := by
  cases d with
  | tup ys =>
    cases e
    cases r with
    | tup h r => exact ⟨_, _, rfl, .inr (sqT_mono M.fr h), r⟩
  | _ =>
    obtain ⟨a, vs, h1, h2, h3⟩ := lstOf_rel M r e
    exact ⟨a, vs, h1, .inl h2, h3⟩
theorem mkL_post {obj : Bool} {ds : List D} {vs : List V} {xw : XW} {Q : V → Hp → Prop} (h : PostE g w xw Q (mkL obj ds m)) (M : Mem g w H m) (r : Rvs g w ds vs) :
    vs.length ≤ sizeLine ∧ ∀ p, H p = none → Q (.ref p) (upd H p (.lst vs)) := by
  unfold mkL at h
  by_cases hz : szOk ds.length = true
  · rw [if_pos hz] at h
    refine ⟨by rw [← r.length]; exact sl_szOk hz, fun p hp => ?_⟩
    cases obj with
    | true =>
      rw [if_pos rfl] at h
      obtain ⟨le, M'⟩ := M.new (p := p) (o := .lst vs) (u := .lst ds) hp ⟨vs, by
        show upd H p (.lst vs) (if w.len = w.len then p else w.ρ w.len) = _
        rw [if_pos rfl, upd_same], r.mono (w.one_le p)⟩
      have q : Rv g (w.one p) (.ref w.len) (.ref (if w.len = w.len then p else w.ρ w.len)) := Rv.ref (w := w.one p) w.len (Nat.lt_succ_self _)
      rw [if_pos rfl] at q
      rw [← M.len] at h
      exact h _ (.ref p) _ le M' q
    | false =>
      rw [if_neg Bool.false_ne_true] at h
      obtain ⟨le, M'⟩ := M.laid (p := p) (o := .lst vs) hp
      exact h _ _ _ le M' (.lst upd_same (r.mono le))
  · rw [if_neg hz] at h
    exact h.elim
theorem mkT_post {ds : List D} {vs : List V} {xw : XW} {Q : V → Hp → Prop} (h : PostE g w xw Q (mkT ds m)) (M : Mem g w H m) (r : Rvs g w ds vs) :
    vs.length ≤ sizeLine ∧ ∀ p, H p = none → Q (.ref p) (upd H p (.tup vs)) := by
  unfold mkT at h
  by_cases hz : szOk ds.length = true
  · rw [if_pos hz] at h
    refine ⟨by rw [← r.length]; exact sl_szOk hz, fun p hp => ?_⟩
    obtain ⟨le, M'⟩ := M.laid (p := p) (o := .tup vs) hp
    exact h _ _ _ le M' (.tup (SqT.of upd_same) (r.mono le))
  · rw [if_neg hz] at h
    exact h.elim

theorem Rvs.rep {ds : List D} {vs : List V} (r : Rvs g w ds vs) : ∀ n : Nat, Rvs g w (List.replicate n ds).flatten (List.replicate n vs).flatten
  | 0 => .nil
  | n + 1 => by
    rw [List.replicate_succ, List.replicate_succ, List.flatten_cons, List.flatten_cons]
    exact r.append (Rvs.rep r n)
theorem OpR.imp {X : Cx} {f : Value → Value → Sem Value} {r r' : R2} (h : OpR X f r) (k : ∀ x y H Q, r' x y H Q → r x y H Q) : OpR X f r' :=
  fun pins s σ H x y v u Q I rx ry q => h pins s σ H x y v u Q I rx ry (k _ _ _ _ q)

/-! ### plain data -/
mutual
theorem toP_rel (M : Mem g w H m) : ∀ (k : Nat) {d : D} {v : V} {q : PyData}, Rv g w d v → toP m k d = some q → Dp g.K H v q
  | 0, _, _, _, _, e => by simp [toP] at e
  | k + 1, _, _, q, .non, e => by
    simp [toP] at e; subst e; exact .non
  | k + 1, _, _, q, .bl b, e => by
    simp [toP] at e; subst e; exact .bl b
  | k + 1, _, _, q, .int i, e => by
    simp [toP] at e; subst e; exact .int i
  | k + 1, _, _, q, .str x, e => by
    simp [toP] at e; subst e; exact .str x
  | k + 1, _, _, q, .tup h r, e => by
    simp only [toP, Option.map_eq_some_iff] at e
    obtain ⟨qs, e, rfl⟩ := e
    exact .tup (sqT_mono M.fr h) (toPs_rel M k r e)
  | k + 1, _, _, q, .lst h r, e => by
    simp only [toP, Option.map_eq_some_iff] at e
    obtain ⟨qs, e, rfl⟩ := e
    exact .lst (SqL.of (M.fr _ _ h)) (toPs_rel M k r e)
  | k + 1, _, _, q, .scr h r, e => by
    simp only [toP, Option.map_eq_some_iff] at e
    obtain ⟨qs, e, rfl⟩ := e
    exact .lst (sqL_mono M.fr h) (toPs_rel M k r e)
  | k + 1, _, _, q, .dct h r, e => by simp [toP] at e
  | k + 1, _, _, q, .ins hc h r, e => by simp [toP] at e
  | k + 1, _, _, q, .ref n hn, e => by
    simp only [toP] at e
    split at e
    · rename_i ys z
      simp only [Option.map_eq_some_iff] at e
      obtain ⟨qs, e, rfl⟩ := e
      obtain ⟨vs, h1, h2⟩ := M.ob n _ z
      exact .lst (SqL.of h1) (toPs_rel M k h2 e)
    · cases e
theorem toPs_rel (M : Mem g w H m) : ∀ (k : Nat) {ds : List D} {vs : List V} {qs : List PyData}, Rvs g w ds vs → ds.mapM (toP m k) = some qs → DpAll g.K H vs qs
  | k, _, _, qs, .nil, e => by
    simp at e; subst e; exact .nil
  | k, _, _, qs, .cons h r, e => by
    rw [List.mapM_cons] at e
    simp only [Option.bind_eq_bind, Option.bind_eq_some_iff, Option.pure_def] at e
    obtain ⟨q, e1, qs', e2, e3⟩ := e
    cases e3
    exact .cons (toP_rel M k h e1) (toPs_rel M k r e2)
end

/-! ### operators -/
def Op.py : Op → Operator
  | .add => .Add | .sub => .Sub | .mul => .Mult | .fdiv => .FloorDiv | .mod => .Mod | .pow => .Pow
/-- what is known at an operator -/
def rBin (g : Gm) (o : Op) (obj : Bool) : R2 := fun x y H Q => ∃ w m a b xw, Mem g w H m ∧ Rv g w a x ∧ Rv g w b y ∧ PostE g w xw Q (binD o obj a b m)
theorem ok_same {xw : XW} {Q : V → Hp → Prop} {d : D} {v : V} (h : PostE g w xw Q (.ok d m)) (M : Mem g w H m) (r : Rv g w d v) : Q v H := h w v H (Wd.le.refl w) M r
theorem mulOk_ok {i j : Int} (h : mulOk i j = true) : IntMulOk i j := by
  unfold mulOk at h
  simp only [Bool.or_eq_true] at h
  rcases h with (h | h) | h
  · have h := Nat.le_of_ble_eq_true h
    exact CMul.ok (.inl ⟨by omega, by omega⟩)
  · have h := Nat.le_of_ble_eq_true h
    exact CMul.ok (.inr ⟨by omega, by omega⟩)
  · have h := Nat.le_of_ble_eq_true h
    exact CMulW.ok (by show _ < _; omega)
variable {X : Cx}
theorem op_mulR : OpR X (binaryOp .Mult) (rI (fun i j => mulOk i j = true) fun i j => .int (i * j)) := opI fun _ _ _ _ _ _ _ hc q => mul_int q (mulOk_ok hc)
theorem op_mulS : OpR X (binaryOp .Mult) (fun x y H Q => ∃ (a : Str) (n : Int), x = .str a ∧ y = .int n ∧ PySem.MulOk a n ∧ Q (.str (PySem.Txt.mul a n)) H) := by
  intro pins s σ H x y v u Q I rx ry h
  obtain ⟨a, n, rfl, rfl, ok, q⟩ := h
  obtain ⟨t, rfl⟩ := rx
  obtain ⟨t', rfl⟩ := ry
  exact PySem.SB.mul ok fun t' tk => ⟨.str _, H, I.tok _, ⟨_, rfl⟩, q⟩
theorem repOk_ok {x : Str} {k : Int} (h : repOk x k = true) : PySem.MulOk x k := by
  unfold repOk at h
  simp only [Bool.and_eq_true, decide_eq_true_eq] at h
  obtain ⟨⟨⟨h0, h1⟩, h2⟩, h3⟩ := h
  have h2 := Nat.le_of_ble_eq_true h2
  have h3 := Nat.le_of_ble_eq_true h3
  refine ⟨by rw [decide_eq_false (by omega), decide_eq_false (by omega)]; rfl, fun h4 _ h5 => ?_, fun _ _ => ?_⟩
  · have : (1000000 : Int) ≤ (2 ^ 63 - 1) / k := by
      rw [Int.le_ediv_iff_mul_le (by omega)]
      have : (1000000 : Int) * k ≤ 1000000 * 1000000 := Int.mul_le_mul_of_nonneg_left h1 (by decide)
      omega
    omega
  · unfold PySem.Builtin.Str.tooLong
    rw [sizeLine_eq]
    exact decide_eq_false (by omega)
theorem arD_rel {c : Int → Int → Bool} {f : Int → Int → Int} {a b : D} {x y : V} {xw : XW} {Q : VK} (h : PostE g w xw Q (arD c f m a b)) (M : Mem g w H m) (ra : Rv g w a x) (rb : Rv g w b y) :
    ∃ i j, x = .int i ∧ y = .int j ∧ c i j = true ∧ Q (.int (f i j)) H := by
  unfold arD at h
  split at h
  · split at h
    · rename_i hc
      cases ra; cases rb
      exact ⟨_, _, rfl, rfl, hc, ok_same h M (.int _)⟩
    · exact absurd h id
  · exact absurd h id
theorem lstW_int {m : Mm} {i : Int} : lstW m (.int i) = none := rfl
theorem szOk_le {n : Nat} (h : szOk n = true) : n ≤ sizeLine := sl_szOk h
theorem small62_of {j : Int} (h : small62 j = true) : -(2 ^ 62) ≤ j ∧ j < 2 ^ 62 := by
  have h := Nat.le_of_ble_eq_true h
  omega
theorem op_bin (hK : X.K = g.K) (o : Op) (obj : Bool) : OpR X (binaryOp o.py) (rBin g o obj) := by
  cases o with
  | add =>
    refine OpR.imp (OpR.or (OpR.or op_add op_cat) (OpR.or op_add_str op_catA)) fun x y H Q h => ?_
    obtain ⟨w, m, a, b, xw, M, ra, rb, h⟩ := h
    have h : PostE g w xw Q (addD obj m a b) := h
    unfold addD at h
    split at h
    · cases ra; cases rb
      exact .inl (.inl ⟨_, _, rfl, rfl, ok_same h M (.int _)⟩)
    · cases ra; cases rb
      split at h
      · rename_i hz
        exact .inr (.inl ⟨_, _, rfl, rfl, szOk_le hz, ok_same h M (.str _)⟩)
      · exact absurd h id
    · split at h
      · rename_i hz
        cases ra with
        | @tup a1 vs1 _ h1 r1 =>
          cases rb with
          | @tup a2 vs2 _ h2 r2 =>
            refine .inr (.inr ⟨a1, a2, vs1, vs2, rfl, rfl, ?_, ?_, by rw [← r1.length, ← r2.length]; exact szOk_le hz, fun e => ?_, fun _ e => ?_, fun _ _ p hp => ?_⟩)
            · rw [hK]; exact sqT_mono M.fr h1
            · rw [hK]; exact sqT_mono M.fr h2
            · subst e
              cases r1
              exact ok_same h M (.tup h2 r2)
            · subst e
              cases r2
              exact ok_same h M (.tup h1 (by rw [List.append_nil]; exact r1))
            · obtain ⟨le, M'⟩ := M.laid (p := p) hp
              exact h _ _ _ le M' (.tup (SqT.of upd_same) ((r1.append r2).mono le))
      · exact absurd h id
    · split at h
      · rename_i xs ys e1 e2
        obtain ⟨p, vs, rfl, h1, r1⟩ := lstW_rel M ra e1
        obtain ⟨q, us, rfl, h2, r2⟩ := lstW_rel M rb e2
        obtain ⟨hz, k⟩ := mkL_post h M (r1.append r2)
        exact .inl (.inr ⟨_, _, _, _, rfl, rfl, h1, h2, by rw [List.length_append] at hz; exact hz, k⟩)
      · exact absurd h id
  | sub =>
    refine OpR.imp op_sub fun x y H Q h => ?_
    obtain ⟨w, m, a, b, xw, M, ra, rb, h⟩ := h
    obtain ⟨i, j, h1, h2, _, q⟩ := arD_rel h M ra rb
    exact ⟨i, j, h1, h2, q⟩
  | mul =>
    refine OpR.imp (OpR.or (OpR.or op_mulR op_rep) op_mulS) fun x y H Q h => ?_
    obtain ⟨w, m, a, b, xw, M, ra, rb, h⟩ := h
    have h : PostE g w xw Q (mulD obj m a b) := h
    unfold mulD at h
    split at h
    · split at h
      · cases ra; cases rb
        exact .inl (.inl ⟨_, _, rfl, rfl, by assumption, ok_same h M (.int _)⟩)
      · exact absurd h id
    · split at h
      · rename_i x k hk
        cases ra; cases rb
        exact .inr ⟨_, _, rfl, rfl, repOk_ok hk, ok_same h M (.str _)⟩
      · exact absurd h id
    · cases rb
      split at h
      · rename_i xs e1
        split at h
        · rename_i hs
          obtain ⟨p, vs, rfl, h1, r1⟩ := lstW_rel M ra e1
          obtain ⟨hz, k⟩ := mkL_post h M (r1.rep _)
          obtain ⟨l1, l2⟩ := small62_of hs
          refine .inl (.inr ⟨_, _, _, rfl, rfl, h1, by omega, by omega, ?_, k⟩)
          rw [List.length_flatten, List.map_replicate, List.sum_replicate_nat] at hz
          rw [Nat.mul_comm]; exact hz
        · exact absurd h id
      · exact absurd h id
    · exact absurd h id
  | fdiv =>
    refine OpR.imp op_fdivW fun x y H Q h => ?_
    obtain ⟨w, m, a, b, xw, M, ra, rb, h⟩ := h
    obtain ⟨i, j, h1, h2, hd, q⟩ := arD_rel h M ra rb
    unfold divOk at hd
    simp only [Bool.and_eq_true, decide_eq_true_eq] at hd
    have hd2 := Nat.le_of_ble_eq_true hd.2
    exact ⟨i, j, h1, h2, ⟨hd.1, by omega⟩, q⟩
  | mod =>
    refine OpR.imp op_mod fun x y H Q h => ?_
    obtain ⟨w, m, a, b, xw, M, ra, rb, h⟩ := h
    obtain ⟨i, j, h1, h2, hd, q⟩ := arD_rel h M ra rb
    exact ⟨i, j, h1, h2, of_decide_eq_true hd, q⟩
  | pow =>
    refine OpR.imp op_pow fun x y H Q h => ?_
    obtain ⟨w, m, a, b, xw, M, ra, rb, h⟩ := h
    obtain ⟨i, j, h1, h2, hd, q⟩ := arD_rel h M ra rb
    unfold powOk at hd
    simp only [Bool.and_eq_true, decide_eq_true_eq] at hd
    have hd2 := Nat.le_of_ble_eq_true hd.1.2
    have hd3 := Nat.le_of_ble_eq_true hd.2
    exact ⟨i, j, h1, h2, ⟨hd.1.1, by omega, by omega⟩, q⟩

/-! ### comparisons -/
def Cm.py : Cm → CmpOp
  | .eq => .Eq | .ne => .NotEq | .lt => .Lt | .le => .LtE | .gt => .Gt | .ge => .GtE
def rCmp (g : Gm) (c : Cm) : R2 := fun x y H Q => ∃ w m a b k, Mem g w H m ∧ Rv g w a x ∧ Rv g w b y ∧ cmpD c m a b = some k ∧ Q (.bl k) H
theorem eqD_rel {a b : D} {x y : V} {k : Bool} (M : Mem g w H m) (ra : Rv g w a x) (rb : Rv g w b y) (e : eqD m a b = some k) :
    (scal x y = true ∧ decide (x = y) = k) ∨ ∃ d e, Dp g.K H x d ∧ Dp g.K H y e ∧ SeqAt.shaped d = true ∧ SeqAt.shaped e = true ∧ PyData.eqv d e = k := by
  unfold eqD at e
  split at e
  · cases ra; cases rb
    cases e
    exact .inl ⟨rfl, dec_int⟩
  · cases ra; cases rb
    cases e
    refine .inl ⟨rfl, ?_⟩
    rename_i s t
    by_cases z : s = t
    · subst z; simp
    · rw [decide_eq_false z, decide_eq_false fun q => z (V.str.inj q)]
  · split at e
    · rename_i p q e1 e2
      split at e
      · rename_i hs
        cases e
        exact .inr ⟨p, q, toP_rel M 9 ra e1, toP_rel M 9 rb e2, hs.1, hs.2, rfl⟩
      · cases e
    · cases e
theorem ltT_some {xs ys : List D} {k : Bool} (e : ltT xs ys = some k) : ∃ ks ls, keysD xs = some ks ∧ keysD ys = some ls ∧ ltK ks ls = some k := by
  unfold ltT at e
  split at e
  · rename_i ks ls e1 e2
    exact ⟨ks, ls, e1, e2, e⟩
  · cases e
theorem keys_rel : ∀ {ds : List D} {ks : List Key} {vs : List V}, keysD ds = some ks → Rvs g w ds vs → vs = ks.map kV
  | [], ks, _, e, .nil => by
    simp [keysD] at e
    subst e
    rfl
  | d :: ds, ks, _, e, .cons h r => by
    cases q : keysD ds with
    | none => rw [keysD, q] at e; cases z : isKey d <;> rw [z] at e <;> cases e
    | some ls =>
      rw [keysD, q] at e
      cases h <;> simp [isKey] at e
      · subst e
        rw [keys_rel q r]; rfl
      · subst e
        rw [keys_rel q r]; rfl
theorem op_cmp (hu : X.A.units + 64 < cLine) (hK : X.K = g.K) (c : Cm) : OpR X (compareOp c.py) (rCmp g c) := by
  cases c with
  | eq =>
    refine OpR.imp (OpR.or op_eq (op_eqD hu)) fun x y H Q h => ?_
    obtain ⟨w, m, a, b, k, M, ra, rb, e, q⟩ := h
    rw [hK]
    rcases eqD_rel M ra rb e with ⟨h1, h2⟩ | ⟨d, e, h1, h2, h3, h4, h5⟩
    · exact .inl ⟨h1, by rw [h2]; exact q⟩
    · exact .inr ⟨d, e, h1, h2, h3, h4, by rw [h5]; exact q⟩
  | ne =>
    refine OpR.imp (OpR.or op_ne (op_neD hu)) fun x y H Q h => ?_
    obtain ⟨w, m, a, b, k, M, ra, rb, e, q⟩ := h
    rw [hK]
    have e1 : (eqD m a b).map not = some k := e
    rw [Option.map_eq_some_iff] at e1
    obtain ⟨k', e2, rfl⟩ := e1
    rcases eqD_rel M ra rb e2 with ⟨h1, h2⟩ | ⟨d, e, h1, h2, h3, h4, h5⟩
    · exact .inl ⟨h1, by rw [h2]; exact q⟩
    · exact .inr ⟨d, e, h1, h2, h3, h4, by rw [h5]; exact q⟩
  | lt =>
    refine OpR.imp (OpR.or (OpR.or op_lt op_lt_str) (op_ltX (by omega))) fun x y H Q h => ?_
    obtain ⟨w, m, a, b, k, M, ra, rb, e, q⟩ := h
    unfold cmpD at e
    dsimp only at e
    split at e
    · cases ra; cases rb; cases e
      exact .inl (.inl ⟨_, _, rfl, rfl, q⟩)
    · cases ra; cases rb; cases e
      exact .inl (.inr ⟨_, _, rfl, rfl, q⟩)
    · obtain ⟨ks, ls, e1, e2, e3⟩ := ltT_some e
      cases ra with
      | tup s1 r1 => cases rb with
        | tup s2 r2 =>
          rw [hK]
          exact .inr ⟨_, _, ks, ls, k, rfl, rfl, sqT_mono M.fr (keys_rel e1 r1 ▸ s1), sqT_mono M.fr (keys_rel e2 r2 ▸ s2), e3, q⟩
    · cases e
  | le =>
    refine OpR.imp (OpR.or op_le op_le_str) fun x y H Q h => ?_
    obtain ⟨w, m, a, b, k, M, ra, rb, e, q⟩ := h
    unfold cmpD at e
    dsimp only at e
    split at e
    · cases ra; cases rb; cases e
      exact .inl ⟨_, _, rfl, rfl, q⟩
    · cases ra; cases rb; cases e
      exact .inr ⟨_, _, rfl, rfl, q⟩
    · cases e
  | gt =>
    refine OpR.imp (OpR.or (OpR.or op_gt op_gt_str) (op_gtX (by omega))) fun x y H Q h => ?_
    obtain ⟨w, m, a, b, k, M, ra, rb, e, q⟩ := h
    unfold cmpD at e
    dsimp only at e
    split at e
    · cases ra; cases rb; cases e
      exact .inl (.inl ⟨_, _, rfl, rfl, q⟩)
    · cases ra; cases rb; cases e
      exact .inl (.inr ⟨_, _, rfl, rfl, q⟩)
    · obtain ⟨ks, ls, e1, e2, e3⟩ := ltT_some e
      cases ra with
      | tup s1 r1 => cases rb with
        | tup s2 r2 =>
          rw [hK]
          exact .inr ⟨_, _, ls, ks, k, rfl, rfl, sqT_mono M.fr (keys_rel e2 r1 ▸ s1), sqT_mono M.fr (keys_rel e1 r2 ▸ s2), e3, q⟩
    · cases e
  | ge =>
    refine OpR.imp (OpR.or op_ge op_ge_str) fun x y H Q h => ?_
    obtain ⟨w, m, a, b, k, M, ra, rb, e, q⟩ := h
    unfold cmpD at e
    dsimp only at e
    split at e
    · cases ra; cases rb; cases e
      exact .inl ⟨_, _, rfl, rfl, q⟩
    · cases ra; cases rb; cases e
      exact .inr ⟨_, _, rfl, rfl, q⟩
    · cases e

/-! ### truth -/
theorem truthD_rel {d : D} {v : V} {k : Bool} (M : Mem g w H m) (r : Rv g w d v) (e : truthD m d = some k) : TruV g.K v H k := by
  have sq : ∀ {d : D} {v : V}, Rv g w d v → (lstOf m d).map (fun xs => !xs.isEmpty) = some k → TruV g.K v H k := fun {d v} r e1 => by
    rw [Option.map_eq_some_iff] at e1
    obtain ⟨xs, e2, e3⟩ := e1
    obtain ⟨a, vs, rfl, h, rv⟩ := lstOf_rel M r e2
    refine .inl ⟨vs, h, ?_⟩
    rw [← e3]
    cases rv <;> rfl
  cases r with
  | non => cases e; rfl
  | bl b => cases e; rfl
  | int i => cases e; rfl
  | tup h r =>
    cases e
    refine .inr (.inl ⟨_, sqT_mono M.fr h, ?_⟩)
    cases r <;> rfl
  | str x => exact sq (.str x) e
  | lst h r => exact sq (.lst h r) e
  | scr h r => exact sq (.scr h r) e
  | dct h r => exact sq (.dct h r) e
  | ins hc h r => exact sq (.ins hc h r) e
  | ref n h => exact sq (.ref n h) e

/-! ### items -/
/-! ### dicts -/
theorem Rkv.length : ∀ {kvs : List (Key × D)} {kvs' : List (Key × V)}, Rkv g w kvs kvs' → kvs.length = kvs'.length
  | _, _, .nil => rfl
  | _, _, .cons _ r => congrArg (· + 1) (Rkv.length r)
theorem Rkv.keys : ∀ {kvs : List (Key × D)} {kvs' : List (Key × V)}, Rkv g w kvs kvs' → kvs'.map (·.1) = kvs.map (·.1)
  | _, _, .nil => rfl
  | _, _, .cons _ r => by rw [List.map_cons, List.map_cons, Rkv.keys r]
theorem Rkv.val (k : Key) : ∀ {kvs : List (Key × D)} {kvs' : List (Key × V)}, Rkv g w kvs kvs' → (∀ d, valD kvs k = some d → ∃ v, valV kvs' k = some v ∧ Rv g w d v) ∧ (valD kvs k = none → valV kvs' k = none)
  | _, _, .nil => ⟨fun d e => (by cases e), fun _ => rfl⟩
  | _, _, .cons (k := j) (v := v) h r => by
    have ih := Rkv.val k r
    by_cases q : j = k
    · rw [valV_pos (p := (j, v)) q]
      refine ⟨fun d e => ?_, fun e => ?_⟩
      · rw [valD, if_pos q] at e
        cases e
        exact ⟨v, rfl, h⟩
      · rw [valD, if_pos q] at e; cases e
    · rw [valV_neg (p := (j, v)) q, valD, if_neg q]
      exact ih
theorem Rkv.any (k : Key) : ∀ {kvs : List (Key × D)} {kvs' : List (Key × V)}, Rkv g w kvs kvs' → (kvs'.any fun kv => decide (kv.1 = k)) = kvs.any fun kv => decide (kv.1 = k)
  | _, _, .nil => rfl
  | _, _, .cons _ r => by rw [List.any_cons, List.any_cons, Rkv.any k r]
theorem Rkv.snoc {k : Key} {d : D} {v : V} (h : Rv g w d v) : ∀ {kvs : List (Key × D)} {kvs' : List (Key × V)}, Rkv g w kvs kvs' → Rkv g w (kvs ++ [(k, d)]) (kvs' ++ [(k, v)])
  | _, _, .nil => .cons h .nil
  | _, _, .cons q r => .cons q (Rkv.snoc h r)
theorem Rkv.over {k : Key} {d : D} {v : V} (h : Rv g w d v) : ∀ {kvs : List (Key × D)} {kvs' : List (Key × V)}, Rkv g w kvs kvs' → Rkv g w (kvs.map fun kv => if kv.1 = k then (kv.1, d) else kv) (kvs'.map fun kv => if kv.1 = k then (kv.1, v) else kv)
  | _, _, .nil => .nil
  | _, _, .cons (k := j) q r => by
    rw [List.map_cons, List.map_cons]
    by_cases z : j = k
    · rw [if_pos z, if_pos z]; exact .cons h (Rkv.over h r)
    · rw [if_neg z, if_neg z]; exact .cons q (Rkv.over h r)
theorem Rkv.put {k : Key} {d : D} {v : V} {kvs : List (Key × D)} {kvs' : List (Key × V)} (r : Rkv g w kvs kvs') (h : Rv g w d v) : Rkv g w (putD kvs k d) (putK kvs' k v) := by
  unfold putD putK
  rw [r.any k]
  split
  · exact r.over h
  · exact r.snoc h
theorem dctOf_rel (M : Mem g w H m) {d : D} {v : V} {kvs : List (Key × D)} (r : Rv g w d v) (e : dctOf m d = some kvs) : ∃ a kvs', v = .ref a ∧ Rd H a (.dK kvs') ∧ Rkv g w kvs kvs' := by
  cases r with
  | dct h r =>
    cases e
    exact ⟨_, _, rfl, .inl (M.fr _ _ h), r⟩
  | ref n hn =>
    unfold dctOf at e
    dsimp only at e
    split at e
    · rename_i q
      cases e
      obtain ⟨kvs', h1, r1⟩ := M.ob n _ q
      exact ⟨_, _, rfl, .inl h1, r1⟩
    · rename_i q
      cases e
      obtain ⟨od, kvs', h1, r1⟩ := M.ob n _ q
      exact ⟨_, _, rfl, .inr ⟨od, M.gr _ _ h1⟩, r1⟩
    · cases e
  | _ => cases e
theorem isKey_rel {d : D} {v : V} {k : Key} (r : Rv g w d v) (e : isKey d = some k) : v = kV k := by
  cases r <;> cases e <;> rfl
theorem atD_rel (M : Mem g w H m) {a b : D} {x y : V} {r : Option D} (ra : Rv g w a x) (rb : Rv g w b y) (e : atD m a b = some r) : ∃ p o, x = .ref p ∧ DGet H p y o ∧ (∀ d, r = some d → ∃ v, o = some v ∧ Rv g w d v) ∧ (r = none → o = none) := by
  unfold atD at e
  split at e
  · rename_i kvs k e1 e2
    cases e
    obtain ⟨p, kvs', rfl, h, rr⟩ := dctOf_rel M ra e1
    rw [isKey_rel rb e2]
    exact ⟨p, valV kvs' k, rfl, .inl ⟨kvs', k, h, rfl, rfl⟩, (rr.val k).1, (rr.val k).2⟩
  · cases e
theorem ix_dct (hu : X.A.units + 1 < cLine) : IxR X (fun x y H Q => ∃ a kvs k v, x = .ref a ∧ Rd H a (.dK kvs) ∧ y = kV k ∧ valV kvs k = some v ∧ Q v H) := by
  intro value slice pins s σ H x y v u Q I rx ry h hs
  obtain ⟨a, kvs, k, z, rfl, e, rfl, l, q⟩ := h
  cases rx
  obtain ⟨_, hd, vs, rel, dd⟩ := dk_rd I.hok e
  obtain ⟨w', hw, rw'⟩ := RelO.some_of (v := z) (o := PySem.valueAt vs k) (by rw [← l]; exact rel.val k)
  exact subscriptTail_builtinR (x := w') dd.typeIs PySem.F.slot_dict_getitem.lookup (wpAny_getItem_of (kV_is ry) dd.mapOf hw ⟨rfl, ⟨z, H, I.tok _, rw', q⟩⟩) hs
theorem op_dIn (hu : X.A.units + 1 < cLine) : OpR X (compareOp .In) (fun x y H Q => ∃ a o, y = .ref a ∧ DGet H a x o ∧ Q (.bl o.isSome) H) := by
  intro pins s σ H x y v u Q I rx ry h
  obtain ⟨a, o, rfl, g, q⟩ := h
  cases ry
  exact d_in hu I g rx fun s' I' => ⟨.bl _, H, I', rfl, q⟩
theorem op_dNotIn (hu : X.A.units + 1 < cLine) : OpR X (compareOp .NotIn) (fun x y H Q => ∃ a o, y = .ref a ∧ DGet H a x o ∧ Q (.bl (!o.isSome)) H) := by
  intro pins s σ H x y v u Q I rx ry h
  obtain ⟨a, o, rfl, g, q⟩ := h
  cases ry
  exact d_notIn hu I g rx fun s' I' => ⟨.bl _, H, I', rfl, q⟩
def rIdx (g : Gm) : R2 := fun x y H Q => ∃ w m a b d, Mem g w H m ∧ Rv g w a x ∧ Rv g w b y ∧ idxD m a b = some d ∧ ∀ v, Rv g w d v → Q v H
theorem IxR.imp {r r' : R2} (h : IxR X r) (k : ∀ x y H Q, r' x y H Q → r x y H Q) : IxR X r' :=
  fun a b pins s σ H x y v u Q I rx ry q => h a b pins s σ H x y v u Q I rx ry (k _ _ _ _ q)
theorem ix_idx (hu : X.A.units + 1 < cLine) (hK : X.K = g.K) : IxR X (rIdx g) := by
  refine IxR.imp (IxR.or (IxR.or (IxR.or ix_list ix_tup) ix_str) (ix_dct hu)) fun x y H Q h => ?_
  rw [hK]
  obtain ⟨w, m, a, b, d, M, ra, rb, e, q⟩ := h
  unfold idxD at e
  split at e
  · cases ra; cases rb
    split at e
    · rename_i hz
      rw [Option.map_eq_some_iff] at e
      obtain ⟨c, e1, rfl⟩ := e
      exact .inl (.inr ⟨_, _, c, rfl, rfl, szOk_le hz, e1, q _ (.str _)⟩)
    · cases e
  · split at e
    · rename_i xs z
      cases rb
      obtain ⟨p, vs, rfl, h, r⟩ := seqOf_rel M ra z
      obtain ⟨v, e1, r1⟩ := r.atI e
      rcases h with h | h
      · exact .inl (.inl (.inl ⟨p, vs, _, v, rfl, rfl, h, e1, q v r1⟩))
      · exact .inl (.inl (.inr ⟨p, vs, _, v, rfl, rfl, h, e1, q v r1⟩))
    · split at e
      · rename_i kvs z
        cases rb
        obtain ⟨p, kvs', rfl, h, rr⟩ := dctOf_rel M ra z
        obtain ⟨v, e1, r1⟩ := (rr.val (.inl _)).1 _ e
        exact .inr ⟨p, kvs', .inl _, v, rfl, h, rfl, e1, q v r1⟩
      · cases e
  · split at e
    · rename_i kvs z
      cases rb
      obtain ⟨p, kvs', rfl, h, rr⟩ := dctOf_rel M ra z
      obtain ⟨v, e1, r1⟩ := (rr.val (.inr _)).1 _ e
      exact .inr ⟨p, kvs', .inr _, v, rfl, h, rfl, e1, q v r1⟩
    · cases e
  · cases e

/-! ### slices -/
def rSlc (g : Gm) (obj : Bool) : V → Option Int → Option Int → Hp → VK → Prop := fun x lo hi H Q => ∃ w m a xw, Mem g w H m ∧ Rv g w a x ∧ PostE g w xw Q (slcD obj m a lo hi)
theorem SlR.imp {r r' : V → Option Int → Option Int → Hp → VK → Prop} (h : SlR X r) (k : ∀ x l u H Q, r' x l u H Q → r x l u H Q) : SlR X r' :=
  fun pins s σ H x v vl vu lo hi sl Q I rx hs pl pu q => h pins s σ H x v vl vu lo hi sl Q I rx hs pl pu (k _ _ _ _ _ q)
theorem Rvs.cut {ds : List D} {vs : List V} (r : Rvs g w ds vs) (l u : Option Int) : Rvs g w (cutD ds l u) (cutV vs l u) := by
  unfold cutD cutV
  rw [r.length]
  exact (r.drop _).take _
theorem sIx_le' {n : Nat} {o : Option Int} {d : Nat} (hd : d ≤ n) : HT.sIx n d o ≤ n := HT.sIx_le _ _ hd _
theorem cut_whole {vs : List V} {l u : Option Int} (h : HT.sIx vs.length 0 l = 0 ∧ HT.sIx vs.length vs.length u = vs.length) : cutV vs l u = vs := by
  unfold cutV
  rw [h.1, h.2, List.drop_zero, Nat.sub_zero, List.take_length]
theorem sl_slc (hK : X.K = g.K) (obj : Bool) : SlR X (rSlc g obj) := by
  refine SlR.imp (SlR.or (SlR.or sl_list sl_tupA) sl_str) fun x l u H Q h => ?_
  obtain ⟨w, m, a, xw, M, ra, h⟩ := h
  unfold slcD at h
  split at h
  · cases ra with
    | tup hq r =>
      refine .inl (.inr ⟨_, _, rfl, by rw [hK]; exact sqT_mono M.fr hq, fun e => ?_, fun _ p hp => ?_⟩)
      · have q := r.cut l u
        rw [cut_whole e] at q
        exact ok_same h M (.tup hq q)
      · obtain ⟨le, M'⟩ := M.laid (p := p) hp
        exact h _ _ _ le M' (.tup (SqT.of upd_same) ((r.cut l u).mono le))
  · cases ra
    split at h
    · rename_i hz
      exact .inr ⟨_, rfl, szOk_le hz, ok_same h M (.str _)⟩
    · exact absurd h id
  · split at h
    · rename_i xs ex
      obtain ⟨p, vs, rfl, hq, rs⟩ := lstOf_rel M ra ex
      exact .inl (.inl ⟨p, vs, rfl, by rw [hK]; exact hq, (mkL_post h M (rs.cut l u)).2⟩)
    · exact absurd h id

/-! ### x in xs -/
theorem flatD_rel {d : D} {v u : V} (r : Rv g w d v) (e : flatD d = some u) : v = u ∧ flatV v = true := by
  cases r <;> simp only [flatD, Option.some.injEq] at e <;> first
    | (subst e; exact ⟨rfl, rfl⟩)
    | cases e
theorem flatsD_rel : ∀ {ds : List D} {vs us : List V}, Rvs g w ds vs → flatsD ds = some us → vs = us ∧ vs.all flatV = true
  | [], _, us, .nil, e => by
    simp only [flatsD, Option.some.injEq] at e
    subst e
    exact ⟨rfl, rfl⟩
  | d :: ds, _, us, .cons h r, e => by
    simp only [flatsD, Option.bind_eq_some_iff, Option.map_eq_some_iff] at e
    obtain ⟨v, e1, vs, e2, rfl⟩ := e
    obtain ⟨rfl, f1⟩ := flatD_rel h e1
    obtain ⟨rfl, f2⟩ := flatsD_rel r e2
    exact ⟨rfl, by rw [List.all_cons, f1, f2]; rfl⟩
def memOp : Bool → CmpOp
  | true => .NotIn | false => .In
def rMem (g : Gm) (ng : Bool) : R2 := fun x y H Q => ∃ w m a b k, Mem g w H m ∧ Rv g w a x ∧ Rv g w b y ∧ memD m a b = some k ∧ Q (.bl (if ng = true then !k else k)) H
theorem memD_rel {a b : D} {x y : V} {k : Bool} (M : Mem g w H m) (ra : Rv g w a x) (rb : Rv g w b y) (e : memD m a b = some k) :
    (∃ p xs, y = .ref p ∧ (SqL g.K H p xs ∨ SqT g.K H p xs) ∧ flatV x = true ∧ xs.all flatV = true ∧ inV x xs = k) ∨
    (∃ d ds, Dp g.K H x d ∧ Dp g.K H y (.list ds) ∧ SeqAt.shaped d = true ∧ SeqAt.shaped (.list ds) = true ∧ (ds.any fun z => PyData.eqv z d) = k) ∨
    ∃ p o, y = .ref p ∧ DGet H p x o ∧ o.isSome = k := by
  unfold memD at e
  split at e
  · rename_i xs e1
    split at e
    · rename_i v vs e2 e3
      cases e
      obtain ⟨p, us, rfl, hq, rs⟩ := seqOf_rel M rb e1
      obtain ⟨rfl, f1⟩ := flatD_rel ra e2
      obtain ⟨rfl, f2⟩ := flatsD_rel rs e3
      exact .inl ⟨p, us, rfl, hq, f1, f2, rfl⟩
    · split at e
      · rename_i ys e2
        split at e
        · rename_i p ps e3 e4
          split at e
          · rename_i hs
            cases e
            obtain ⟨q, us, rfl, hq, rs⟩ := lstOf_rel M rb e2
            exact .inr (.inl ⟨p, ps, toP_rel M 9 ra e3, .lst hq (toPs_rel M 9 rs e4), hs.1, hs.2, rfl⟩)
          · cases e
        · cases e
      · cases e
  · split at e
    · rename_i r e1
      cases e
      obtain ⟨p, o, rfl, g1, g2, g3⟩ := atD_rel M rb ra e1
      refine .inr (.inr ⟨p, o, rfl, g1, ?_⟩)
      cases r with
      | none => rw [g3 rfl]; rfl
      | some d =>
        obtain ⟨v, z, _⟩ := g2 d rfl
        rw [z]; rfl
    · cases e
theorem op_mem (hu : X.A.units + 65 < cLine) (hK : X.K = g.K) (ng : Bool) : OpR X (compareOp (memOp ng)) (rMem g ng) := by
  cases ng with
  | true =>
    refine OpR.imp (OpR.or (OpR.or op_notIn_seq (op_notInD hu)) (op_dNotIn (by omega))) fun x y H Q h => ?_
    obtain ⟨w, m, a, b, k, M, ra, rb, e, q⟩ := h
    rw [hK]
    rcases memD_rel M ra rb e with ⟨p, xs, h1, h2, h3, h4, h5⟩ | ⟨d, ds, h1, h2, h3, h4, h5⟩ | ⟨p, o, h1, h2, h3⟩
    · exact .inl (.inl ⟨p, xs, h1, h2, h3, h4, by rw [if_pos rfl, h5]; exact q⟩)
    · exact .inl (.inr ⟨d, ds, h1, h2, h3, h4, by rw [h5]; exact q⟩)
    · exact .inr ⟨p, o, h1, h2, by rw [h3]; exact q⟩
  | false =>
    refine OpR.imp (OpR.or (OpR.or op_in_seq (op_inD hu)) (op_dIn (by omega))) fun x y H Q h => ?_
    obtain ⟨w, m, a, b, k, M, ra, rb, e, q⟩ := h
    rw [hK]
    rcases memD_rel M ra rb e with ⟨p, xs, h1, h2, h3, h4, h5⟩ | ⟨d, ds, h1, h2, h3, h4, h5⟩ | ⟨p, o, h1, h2, h3⟩
    · exact .inl (.inl ⟨p, xs, h1, h2, h3, h4, by rw [if_neg Bool.false_ne_true, h5]; exact q⟩)
    · exact .inl (.inr ⟨d, ds, h1, h2, h3, h4, by rw [h5]; exact q⟩)
    · exact .inr ⟨p, o, h1, h2, by rw [h3]; exact q⟩
end R

/-! RSnd3: built-in functions, methods, fields. -/
namespace R
open PySem PySem.Spec PyProof.Rows L2
variable {g : Gm} {w : Wd} {H : Hp} {m : Mm} {X : Cx}

theorem CallR.imp {f : Value} {r r' : List V → Hp → VK → Prop} (h : CallR X f r) (k : ∀ xs H Q, r' xs H Q → r xs H Q) : CallR X f r' :=
  fun pins s σ H xs us Q I rs q => h pins s σ H xs us Q I rs (k _ _ _ q)
def Bt.val : Bt → Value
  | .len => .builtin "len" | .int_ => .type "int" | .abs_ => .builtin "abs" | .min2 => .builtin "min" | .max2 => .builtin "max" | .min1 => .builtin "min" | .max1 => .builtin "max"
  | .sum_ => .builtin "sum" | .list_ => .type "list" | .tuple_ => .type "tuple" | .str_ => .type "str" | .ord_ => .builtin "ord" | .repr_ => .builtin "repr" | .any_ => .builtin "any" | .sorted_ => .builtin "sorted"
/-- what is known at a call -/
def rBlt (g : Gm) (b : Bt) (obj : Bool) : List V → Hp → VK → Prop := fun vs H Q => ∃ w m as xw, Mem g w H m ∧ Rvs g w as vs ∧ PostE g w xw Q (bltD b obj as m)

theorem Rvs.strs : ∀ {ds : List D} {ns : List Str} {vs : List V}, strsOf ds = some ns → Rvs g w ds vs → vs = ns.map V.str
  | [], ns, _, e, .nil => by
    simp [strsOf] at e
    subst e
    rfl
  | d :: ds, ns, _, e, .cons h r => by
    unfold strsOf at e
    rw [List.mapM_cons] at e
    cases d with
    | str i =>
      cases q : ds.mapM isStr with
      | none => rw [q] at e; simp [isStr] at e
      | some ms =>
        rw [q] at e
        simp [isStr] at e
        subst e
        cases h
        rw [List.map_cons, Rvs.strs (ds := ds) q r]
    | _ => simp [isStr] at e
theorem Rvs.bls : ∀ {ds : List D} {ns : List Bool} {vs : List V}, blsOf ds = some ns → Rvs g w ds vs → vs = ns.map V.bl
  | [], ns, _, e, .nil => by
    simp [blsOf] at e
    subst e
    rfl
  | d :: ds, ns, _, e, .cons h r => by
    unfold blsOf at e
    rw [List.mapM_cons] at e
    cases d with
    | bl i =>
      cases q : ds.mapM isBl with
      | none => rw [q] at e; simp [isBl] at e
      | some ms =>
        rw [q] at e
        simp [isBl] at e
        subst e
        cases h
        rw [List.map_cons, Rvs.bls (ds := ds) q r]
    | _ => simp [isBl] at e
theorem minI_mem : ∀ {ns : List Int}, ns.length ≠ 0 → minI ns ∈ ns
  | [], h => absurd rfl h
  | [x], _ => by simp [minI]
  | x :: y :: r, _ => by
    have ih := minI_mem (ns := y :: r) (by simp)
    show min x (minI (y :: r)) ∈ _
    rcases Int.le_total x (minI (y :: r)) with h | h
    · rw [Int.min_eq_left h]; exact List.mem_cons_self
    · rw [Int.min_eq_right h]; exact List.mem_cons_of_mem _ ih
theorem minI_le : ∀ {ns : List Int} {y : Int}, y ∈ ns → minI ns ≤ y
  | [], _, h => by cases h
  | [x], y, h => by
    have e := List.mem_singleton.mp h
    subst e
    exact Int.le_refl _
  | x :: z :: r, y, h => by
    show min x (minI (z :: r)) ≤ y
    rcases List.mem_cons.mp h with e | h
    · rw [e]; exact Int.min_le_left _ _
    · exact Int.le_trans (Int.min_le_right _ _) (minI_le h)
theorem maxI_mem : ∀ {ns : List Int}, ns.length ≠ 0 → maxI ns ∈ ns
  | [], h => absurd rfl h
  | [x], _ => by simp [maxI]
  | x :: y :: r, _ => by
    have ih := maxI_mem (ns := y :: r) (by simp)
    show max x (maxI (y :: r)) ∈ _
    rcases Int.le_total x (maxI (y :: r)) with h | h
    · rw [Int.max_eq_right h]; exact List.mem_cons_of_mem _ ih
    · rw [Int.max_eq_left h]; exact List.mem_cons_self
theorem maxI_le : ∀ {ns : List Int} {y : Int}, y ∈ ns → y ≤ maxI ns
  | [], _, h => by cases h
  | [x], y, h => by
    have e := List.mem_singleton.mp h
    subst e
    exact Int.le_refl _
  | x :: z :: r, y, h => by
    show y ≤ max x (maxI (z :: r))
    rcases List.mem_cons.mp h with e | h
    · rw [e]; exact Int.le_max_left _ _
    · exact Int.le_trans (maxI_le h) (Int.le_max_right _ _)

theorem call_blt (hK : X.K = g.K) (hc : X.calm = true) (b : Bt) (obj : Bool) : CallR X b.val (rBlt g b obj) := by
  cases b with
  | len =>
    refine CallR.imp (CallR.or call_len_seq call_len_str) fun vs H Q h => ?_
    rw [hK]
    obtain ⟨w, m, as, xw, M, r, h⟩ := h
    unfold bltD at h
    split at h
    all_goals first
      | (rename_i hh; cases hh; done)
      | skip
    · obtain ⟨v, rfl, rv⟩ := r.one
      cases rv
      split at h
      · rename_i hz
        exact .inr ⟨_, rfl, szOk_le hz, ok_same h M (.int _)⟩
      · exact absurd h id
    · obtain ⟨v, rfl, rv⟩ := r.one
      split at h
      · rename_i xs e
        obtain ⟨a, us, rfl, h1, r1⟩ := seqOf_rel M rv e
        refine .inl ⟨a, us, rfl, h1, ?_⟩
        rw [← r1.length]
        exact ok_same h M (.int _)
      · exact absurd h id
    · exact absurd h id
  | int_ =>
    refine CallR.imp call_int1 fun vs H Q h => ?_
    obtain ⟨w, m, as, xw, M, r, h⟩ := h
    unfold bltD at h
    split at h
    all_goals first
      | (rename_i hh; cases hh; done)
      | skip
    · obtain ⟨v, rfl, rv⟩ := r.one
      cases rv
      exact .inl ⟨_, rfl, ok_same h M (.int _)⟩
    · obtain ⟨v, rfl, rv⟩ := r.one
      cases rv
      exact .inr ⟨_, rfl, ok_same h M (.int _)⟩
    · exact absurd h id
  | abs_ =>
    refine CallR.imp call_abs fun vs H Q h => ?_
    obtain ⟨w, m, as, xw, M, r, h⟩ := h
    unfold bltD at h
    split at h
    all_goals first
      | (rename_i hh; cases hh; done)
      | skip
    · obtain ⟨v, rfl, rv⟩ := r.one
      cases rv
      exact ⟨_, rfl, ok_same h M (.int _)⟩
    · exact absurd h id
  | min2 =>
    refine CallR.imp (call_min2 hc) fun vs H Q h => ?_
    obtain ⟨w, m, as, xw, M, r, h⟩ := h
    unfold bltD at h
    split at h
    all_goals first
      | (rename_i hh; cases hh; done)
      | skip
    · obtain ⟨v, u, rfl, rv, ru⟩ := r.two
      cases rv; cases ru
      exact ⟨_, _, rfl, ok_same h M (.int _)⟩
    · exact absurd h id
  | max2 =>
    refine CallR.imp (call_max2 hc) fun vs H Q h => ?_
    obtain ⟨w, m, as, xw, M, r, h⟩ := h
    unfold bltD at h
    split at h
    all_goals first
      | (rename_i hh; cases hh; done)
      | skip
    · obtain ⟨v, u, rfl, rv, ru⟩ := r.two
      cases rv; cases ru
      exact ⟨_, _, rfl, ok_same h M (.int _)⟩
    · exact absurd h id
  | min1 =>
    refine CallR.imp (cr_min hc) fun vs H Q h => ?_
    rw [hK]
    obtain ⟨w, m, as, xw, M, r, h⟩ := h
    unfold bltD at h
    split at h
    all_goals first
      | (rename_i hh; cases hh; done)
      | skip
    · obtain ⟨v, rfl, rv⟩ := r.one
      split at h
      · rename_i xs e
        split at h
        · rename_i ns e2
          split at h
          · exact absurd h id
          · rename_i hn
            obtain ⟨a, us, rfl, h1, r1⟩ := lstOf_rel M rv e
            have e3 := Rvs.ints e2 r1
            subst e3
            refine ⟨a, ns, rfl, h1, by omega, fun k hk hl => ?_⟩
            have e4 : k = minI ns := Int.le_antisymm (hl _ (minI_mem hn)) (minI_le hk)
            rw [e4]
            exact ok_same h M (.int _)
        · exact absurd h id
      · exact absurd h id
    · exact absurd h id
  | max1 =>
    refine CallR.imp (cr_max hc) fun vs H Q h => ?_
    rw [hK]
    obtain ⟨w, m, as, xw, M, r, h⟩ := h
    unfold bltD at h
    split at h
    all_goals first
      | (rename_i hh; cases hh; done)
      | skip
    · obtain ⟨v, rfl, rv⟩ := r.one
      split at h
      · rename_i xs e
        split at h
        · rename_i ns e2
          split at h
          · exact absurd h id
          · rename_i hn
            obtain ⟨a, us, rfl, h1, r1⟩ := lstOf_rel M rv e
            have e3 := Rvs.ints e2 r1
            subst e3
            refine ⟨a, ns, rfl, h1, by omega, fun k hk hl => ?_⟩
            have e4 : k = maxI ns := Int.le_antisymm (maxI_le hk) (hl _ (maxI_mem hn))
            rw [e4]
            exact ok_same h M (.int _)
        · exact absurd h id
      · exact absurd h id
    · exact absurd h id
  | sum_ =>
    refine CallR.imp (cr_sum hc) fun vs H Q h => ?_
    rw [hK]
    obtain ⟨w, m, as, xw, M, r, h⟩ := h
    unfold bltD at h
    split at h
    all_goals first
      | (rename_i hh; cases hh; done)
      | skip
    · obtain ⟨v, rfl, rv⟩ := r.one
      split at h
      · rename_i xs e
        split at h
        · rename_i ns e2
          obtain ⟨a, us, rfl, h1, r1⟩ := lstOf_rel M rv e
          have e3 := Rvs.ints e2 r1
          subst e3
          exact ⟨a, ns, rfl, h1, ok_same h M (.int _)⟩
        · exact absurd h id
      · exact absurd h id
    · exact absurd h id
  | list_ =>
    refine CallR.imp call_list_of fun vs H Q h => ?_
    rw [hK]
    obtain ⟨w, m, as, xw, M, r, h⟩ := h
    unfold bltD at h
    split at h
    all_goals first
      | (rename_i hh; cases hh; done)
      | skip
    · obtain ⟨v, rfl, rv⟩ := r.one
      split at h
      · rename_i xs e
        obtain ⟨a, us, rfl, h1, r1⟩ := seqOf_rel M rv e
        exact ⟨a, us, rfl, h1, (mkL_post h M r1).2⟩
      · exact absurd h id
    · exact absurd h id
  | tuple_ =>
    refine CallR.imp call_tuple_of fun vs H Q h => ?_
    rw [hK]
    obtain ⟨w, m, as, xw, M, r, h⟩ := h
    unfold bltD at h
    split at h
    all_goals first
      | (rename_i hh; cases hh; done)
      | skip
    · obtain ⟨v, rfl, rv⟩ := r.one
      split at h
      · rename_i xs e
        obtain ⟨a, us, rfl, h1, r1⟩ := lstOf_rel M rv e
        exact ⟨a, us, rfl, .inl ⟨h1, (mkT_post h M r1).2⟩⟩
      · exact absurd h id
    · exact absurd h id
  | str_ =>
    refine CallR.imp call_str_int fun vs H Q h => ?_
    obtain ⟨w, m, as, xw, M, r, h⟩ := h
    unfold bltD at h
    split at h
    all_goals first
      | (rename_i hh; cases hh; done)
      | skip
    · obtain ⟨v, rfl, rv⟩ := r.one
      cases rv
      split at h
      · rename_i hz
        exact ⟨_, rfl, Nat.le_of_ble_eq_true hz, ok_same h M (.str _)⟩
      · exact absurd h id
    · exact absurd h id
  | ord_ =>
    refine CallR.imp call_ord fun vs H Q h => ?_
    obtain ⟨w, m, as, xw, M, r, h⟩ := h
    unfold bltD at h
    split at h
    all_goals first
      | (rename_i hh; cases hh; done)
      | skip
    · obtain ⟨v, rfl, rv⟩ := r.one
      cases rv
      split at h
      · rename_i hz
        exact ⟨_, rfl, Nat.eq_of_beq_eq_true hz, ok_same h M (.int _)⟩
      · exact absurd h id
    · exact absurd h id
  | any_ =>
    refine CallR.imp (cr_any hc) fun vs H Q h => ?_
    rw [hK]
    obtain ⟨w, m, as, xw, M, r, h⟩ := h
    unfold bltD at h
    split at h
    all_goals first
      | (rename_i hh; cases hh; done)
      | skip
    · obtain ⟨v, rfl, rv⟩ := r.one
      split at h
      · rename_i xs e
        split at h
        · rename_i ns e2
          obtain ⟨a, us, rfl, h1, r1⟩ := lstOf_rel M rv e
          have e3 := Rvs.bls e2 r1
          subst e3
          exact ⟨a, ns, rfl, h1, ok_same h M (.bl _)⟩
        · exact absurd h id
      · exact absurd h id
    · exact absurd h id
  | repr_ =>
    intro pins s σ H xs us Q I rs h
    obtain ⟨w, m, as, xw, M, r, h⟩ := h
    unfold bltD at h
    split at h
    all_goals first
      | (rename_i hh; cases hh; done)
      | skip
    · exact absurd h id
  | sorted_ =>
    intro pins s σ H xs us Q I rs h
    obtain ⟨w, m, as, xw, M, r, h⟩ := h
    unfold bltD at h
    split at h
    all_goals first
      | (rename_i hh; cases hh; done)
      | skip
    · exact absurd h id

/-! ### methods of lists -/
def Bm.ty : Bm → String
  | .append => "list" | .index => "list" | .extend => "list" | .insert => "list" | .join => "str" | .sindex => "str"
def Bm.nm : Bm → Str
  | .append => "append" | .index => "index" | .extend => "extend" | .insert => "insert" | .join => "join" | .sindex => "index"
def Bm.id : Bm → String
  | .append => "list.append" | .index => "list.index" | .extend => "list.extend" | .insert => "list.insert" | .join => "str.join" | .sindex => "str.index"
def rBm (g : Gm) (b : Bm) (obj : Bool) : V → List V → Hp → VK → Prop := fun x vs H Q => ∃ w m o as xw, Mem g w H m ∧ Rv g w o x ∧ Rvs g w as vs ∧ PostE g w xw Q (bmD b obj o as m)
theorem MtR.imp {id : String} {r r' : V → List V → Hp → VK → Prop} (h : MtR X id r) (k : ∀ x xs H Q, r' x xs H Q → r x xs H Q) : MtR X id r' :=
  fun pins s σ H x xs v us Q I rx rs q => h pins s σ H x xs v us Q I rx rs (k _ _ _ _ q)
theorem szOk_lt {n : Nat} (h : szOk (n + 1) = true) : n < sizeLine := sl_szOk h
theorem intsOf_cons {d : D} {ds : List D} {ns : List Int} (e : intsOf (d :: ds) = some ns) : ∃ i ms, d = .int i ∧ intsOf ds = some ms ∧ ns = i :: ms := by
  unfold intsOf at e
  rw [List.mapM_cons] at e
  cases d with
  | int i =>
    cases q : ds.mapM isInt with
    | none => rw [q] at e; simp [isInt] at e
    | some ms =>
      rw [q] at e
      simp [isInt] at e
      exact ⟨i, ms, rfl, q, e.symm⟩
  | _ => simp [isInt] at e
theorem flat_ints (ns : List Int) : (ns.map V.int).all flatV = true := by
  rw [List.all_eq_true]
  intro x hx
  obtain ⟨i, _, rfl⟩ := List.mem_map.mp hx
  rfl
theorem flat_strs' (ns : List Str) : (ns.map V.str).all flatV = true := by
  rw [List.all_eq_true]
  intro x hx
  obtain ⟨i, _, rfl⟩ := List.mem_map.mp hx
  rfl
theorem mt_bm (hK : X.K = g.K) (b : Bm) (obj : Bool) : MtR X b.id (rBm g b obj) := by
  cases b with
  | append =>
    refine MtR.imp (r := rAppend) mt_append fun x vs H Q h => ?_
    obtain ⟨w, m, o, as, xw, M, ro, r, h⟩ := h
    unfold bmD at h
    split at h
    all_goals first
      | (rename_i hh; cases hh; done)
      | skip
    · obtain ⟨v, rfl, rv⟩ := r.one
      cases ro with
      | ref n hn =>
        split at h
        · rename_i xs e
          split at h
          · rename_i hz
            obtain ⟨us, h1, r1⟩ := M.ob _ _ e
            refine ⟨_, us, v, rfl, rfl, h1, by rw [← r1.length]; exact szOk_lt hz, ?_⟩
            have M' := M.write (o := .lst (us ++ [v])) (u := .lst (xs ++ [_])) e trivial trivial ⟨us ++ [v], upd_same, r1.append (.cons rv .nil)⟩
            exact h w .non _ (Wd.le.refl w) M' .non
          · exact absurd h id
        · exact absurd h id
    · exact absurd h id
  | index =>
    refine MtR.imp mt_index fun x vs H Q h => ?_
    rw [hK]
    obtain ⟨w, m, o, as, xw, M, ro, r, h⟩ := h
    unfold bmD at h
    split at h
    all_goals first
      | (rename_i hh; cases hh; done)
      | skip
    · obtain ⟨v, rfl, rv⟩ := r.one
      cases rv
      rename_i i hh0
      split at h
      · rename_i xs e
        split at h
        · rename_i ns e2
          split at h
          · rename_i k e3
            obtain ⟨a, us, rfl, h1, r1⟩ := lstOf_rel M ro e
            have e4 := Rvs.strs e2 r1
            subst e4
            obtain ⟨hk, hb, hn⟩ := List.findIdx?_eq_some_iff_getElem.mp e3
            have hi : ns[k] = i := by simpa using hb
            refine ⟨a, _, .str i, k, .str i, rfl, rfl, h1, rfl, flat_strs' ns, ?_, by simp [eqV], ?_, ok_same h M (.int _)⟩
            · rw [List.getElem?_map, List.getElem?_eq_getElem hk, hi]; rfl
            · intro j z hj hz
              rw [List.getElem?_map] at hz
              have hjl : j < ns.length := Nat.lt_trans hj hk
              rw [List.getElem?_eq_getElem hjl] at hz
              cases hz
              have := hn j hj
              simpa [eqV] using this
          · exact absurd h id
        · exact absurd h id
      · exact absurd h id
    · obtain ⟨v, rfl, rv⟩ := r.one
      cases rv
      rename_i i hh0
      split at h
      · rename_i xs e
        split at h
        · rename_i ns e2
          split at h
          · rename_i k e3
            obtain ⟨a, us, rfl, h1, r1⟩ := lstOf_rel M ro e
            have e4 := Rvs.ints e2 r1
            subst e4
            obtain ⟨hk, hb, hn⟩ := List.findIdx?_eq_some_iff_getElem.mp e3
            have hi : ns[k] = i := by simpa using hb
            refine ⟨a, _, .int i, k, .int i, rfl, rfl, h1, rfl, flat_ints ns, ?_, by simp [eqV], ?_, ok_same h M (.int _)⟩
            · rw [List.getElem?_map, List.getElem?_eq_getElem hk, hi]; rfl
            · intro j z hj hz
              rw [List.getElem?_map] at hz
              have hjl : j < ns.length := Nat.lt_trans hj hk
              rw [List.getElem?_eq_getElem hjl] at hz
              cases hz
              have := hn j hj
              simpa [eqV] using this
          · exact absurd h id
        · exact absurd h id
      · exact absurd h id
    · exact absurd h id

  | extend =>
    refine MtR.imp (MtR.or (r := rExtend) (r' := rExtendT X.K) mt_extend mt_extendT) fun x vs H Q h => ?_
    obtain ⟨w, m, o, as, xw, M, ro, r, h⟩ := h
    unfold bmD at h
    split at h
    all_goals first
      | (rename_i hh; cases hh; done)
      | skip
    · obtain ⟨v, rfl, rv⟩ := r.one
      cases ro with
      | ref n hn =>
        split at h
        · rename_i xs e
          split at h
          · rename_i hz
            obtain ⟨us, h1, r1⟩ := M.ob _ _ e
            cases rv with
            | tup s2 r2 =>
              refine .inr ⟨_, _, us, _, rfl, rfl, h1, by rw [hK]; exact sqT_mono M.fr s2, by rw [← r1.length, ← r2.length]; exact szOk_le hz, ?_⟩
              have M' := M.write (o := .lst (us ++ _)) (u := .lst (xs ++ _)) e trivial trivial ⟨us ++ _, upd_same, r1.append r2⟩
              exact h w .non _ (Wd.le.refl w) M' .non
          · exact absurd h id
        · exact absurd h id
    · obtain ⟨v, rfl, rv⟩ := r.one
      cases ro with
      | ref n hn =>
        split at h
        · rename_i xs ys e e2
          split at h
          · rename_i hz
            obtain ⟨us, h1, r1⟩ := M.ob _ _ e
            obtain ⟨p, zs, rfl, h2, r2⟩ := lstW_rel M rv e2
            refine .inl ⟨_, p, us, zs, rfl, rfl, h1, h2, by rw [← r1.length, ← r2.length]; exact szOk_le hz, ?_⟩
            have M' := M.write (o := .lst (us ++ zs)) (u := .lst (xs ++ ys)) e trivial trivial ⟨us ++ zs, upd_same, r1.append r2⟩
            exact h w .non _ (Wd.le.refl w) M' .non
          · exact absurd h id
        · exact absurd h id
    · exact absurd h id
  | insert =>
    refine MtR.imp mt_insert fun x vs H Q h => ?_
    obtain ⟨w, m, o, as, xw, M, ro, r, h⟩ := h
    unfold bmD at h
    split at h
    all_goals first
      | (rename_i hh; cases hh; done)
      | skip
    · obtain ⟨v, u, rfl, rv, ru⟩ := r.two
      rename_i i _ _
      cases rv
      cases ro with
      | ref n hn =>
        split at h
        · rename_i xs e
          split at h
          · rename_i hz
            simp only [Bool.and_eq_true, decide_eq_true_eq] at hz
            obtain ⟨us, h1, r1⟩ := M.ob _ _ e
            have sm := small62_of hz.2
            refine ⟨_, us, _, u, rfl, rfl, h1, by rw [← r1.length]; exact szOk_lt hz.1.1, hz.1.2, by omega, ?_⟩
            have r2 := ((r1.take i.toNat).append (.cons ru .nil)).append (r1.drop i.toNat)
            have M' := M.write (o := .lst (us.take i.toNat ++ [u] ++ us.drop i.toNat)) (u := .lst (xs.take i.toNat ++ [_] ++ xs.drop i.toNat)) e trivial trivial ⟨_, upd_same, r2⟩
            exact h w .non _ (Wd.le.refl w) M' .non
          · exact absurd h id
        · exact absurd h id
    · exact absurd h id
  | join =>
    refine MtR.imp mt_join fun x vs H Q h => ?_
    rw [hK]
    obtain ⟨w, m, o, as, xw, M, ro, r, h⟩ := h
    unfold bmD at h
    split at h
    all_goals first
      | (rename_i hh; cases hh; done)
      | skip
    · obtain ⟨v, rfl, rv⟩ := r.one
      cases ro
      split at h
      · rename_i xs e
        split at h
        · rename_i ys e2
          split at h
          · rename_i hz
            obtain ⟨a, us, rfl, h1, r1⟩ := seqOf_rel M rv e
            have e3 := Rvs.strs e2 r1
            subst e3
            have hz := Nat.le_of_ble_eq_true hz
            exact ⟨_, a, ys, rfl, rfl, h1, hz, ok_same h M (.str _)⟩
          · exact absurd h id
        · exact absurd h id
      · exact absurd h id
    · exact absurd h id
  | sindex =>
    refine MtR.imp mt_sindex fun x vs H Q h => ?_
    obtain ⟨w, m, o, as, xw, M, ro, r, h⟩ := h
    unfold bmD at h
    split at h
    all_goals first
      | (rename_i hh; cases hh; done)
      | skip
    · obtain ⟨v, rfl, rv⟩ := r.one
      cases ro
      cases rv
      split at h
      · rename_i i rest e
        exact ⟨_, _, i, rest, rfl, rfl, e, ok_same h M (.int _)⟩
      · exact absurd h id
    · exact absurd h id
end R

/-! RSnd4: expressions: what R does with a tree is what the model does with the row's tree. -/
namespace R
open PySem PySem.Spec PyProof.Rows L2

/-- the names of a program's functions, classes, attributes, methods -/
structure Cf where
  fnl : List (Option Str)
  cnl : List (Option Str)
  mnl : List Str
  atl : List Str
  ctl : List (Option Str) := []
def Cf.fnm (c : Cf) (f : Nat) : Option Str := c.fnl.getD f none
def Cf.cnm (c : Cf) (f : Nat) : Option Str := c.cnl.getD f none
def Cf.mnm (c : Cf) (f : Nat) : Str := c.mnl.getD f ""
def Cf.natt (c : Cf) : Nat := c.atl.length
/-- the attributes' names; beyond them such as no text of a program has -/
def attOf (l : List Str) (n : Nat) : Str := l.getD n ⟨#[n + 2000000]⟩
def Cn.v : Cn → V
  | .non => .non | .bl b => .bl b | .int i => .int i | .str x => .str x
/-- all that stays -/
structure En where
  g : Gm
  cf : Cf
  p : Pg
  c : Calls
  lv : Nat
  P : Program
  w : World
  base : Heap

theorem cn_rel {g : Gm} {w : Wd} (k : Cn) : Rv g w k.d k.v := by
  cases k with
  | non => exact .non
  | bl b => exact .bl b
  | int i => exact .int i
  | str x => exact .str x
def Bt.nm : Bt → Str
  | .len => "len" | .int_ => "int" | .abs_ => "abs" | .min2 => "min" | .max2 => "max" | .min1 => "min" | .max1 => "max"
  | .sum_ => "sum" | .list_ => "list" | .tuple_ => "tuple" | .str_ => "str" | .ord_ => "ord" | .repr_ => "repr" | .any_ => "any" | .sorted_ => "sorted"
def Bt.isTy : Bt → Bool
  | .int_ | .list_ | .tuple_ | .str_ => true
  | _ => false
theorem Bt.boot (b : Bt) : bootBuiltins b.nm = some b.val := by cases b <;> decide +kernel

/-- flat data -/
def FlatV : D → V → Prop
  | .non, v => v = .non
  | .bl b, v => v = .bl b
  | .int i, v => v = .int i
  | .str x, v => v = .str x
  | _, _ => False
inductive FlatVs : List D → List V → Prop where
  | nil : FlatVs [] []
  | cons {d : D} {v : V} {ds : List D} {vs : List V} : FlatV d v → FlatVs ds vs → FlatVs (d :: ds) (v :: vs)
/-- a module's constant -/
def CnOk (K : PySem.W.Frag) : D → Value → Prop
  | .non, u => RelV .non u
  | .bl b, u => RelV (.bl b) u
  | .int i, u => RelV (.int i) u
  | .str x, u => RelV (.str x) u
  | .tup xs, u => ∃ a od its n sl vs, u = .ref a ∧ K.lookup a = some ⟨.type "tuple", od, .seq its n, sl⟩ ∧ od = none ∧ its.size ≤ sizeLine ∧ Vals vs its.toList ∧ FlatVs xs vs
  | .scr xs, u => ∃ a its n vs, u = .ref a ∧ K.lookup a = some { cls := .type "list", data := .seq its n } ∧ its.size ≤ sizeLine ∧ Vals vs its.toList ∧ FlatVs xs vs
  | _, _ => False
theorem FlatV.rv {g : Gm} {w : Wd} {d : D} {v : V} (h : FlatV d v) : Rv g w d v := by
  cases d <;> simp only [FlatV] at h <;> first
    | (subst h; first | exact .non | exact .bl _ | exact .int _ | exact .str _)
    | exact h.elim
theorem FlatVs.rv {g : Gm} {w : Wd} : ∀ {ds : List D} {vs : List V}, FlatVs ds vs → Rvs g w ds vs
  | _, _, .nil => .nil
  | _, _, .cons h r => .cons h.rv r.rv
theorem CnOk.rv {g : Gm} {d : D} {u : Value} (h : CnOk g.K d u) : ∃ v, RelV v u ∧ ∀ w, Rv g w d v := by
  cases d with
  | non => exact ⟨.non, h, fun _ => .non⟩
  | bl b => exact ⟨.bl b, h, fun _ => .bl b⟩
  | int i => exact ⟨.int i, h, fun _ => .int i⟩
  | str x => exact ⟨.str x, h, fun _ => .str x⟩
  | tup xs =>
    obtain ⟨a, od, its, n, sl, vs, rfl, hk, _, hz, r, f⟩ := h
    exact ⟨.ref a, rfl, fun _ => .tup (.inr ⟨_, its, n, hk, rfl, rfl, hz, r⟩) f.rv⟩
  | scr xs =>
    obtain ⟨a, its, n, vs, rfl, hk, hz, r, f⟩ := h
    exact ⟨.ref a, rfl, fun _ => .scr (.inr ⟨_, its, n, hk, rfl, rfl, rfl, hz, r⟩) f.rv⟩
  | _ => exact h.elim
/-- a def's promise: what R says of it -/
def spR (E : En) (f : Nat) : Sp := fun vs H Q xk => ∃ w m as, Mem E.g w H m ∧ Rvs E.g w as vs ∧ PostE E.g w xk Q (E.c f as m)
structure FnR (E : En) (f : Nat) (fa : Addr) : Prop where
  ok : ∃ (fd : FuncData) (ps : List Str), Binds E.g.K fd ps [] ∧ FnOk E.P E.w E.g.K E.g.mg E.base (L2.CX E.P E.w) E.lv fa fd ps (spR E f)
structure Gok (E : En) : Prop where
  att : E.g.att = attOf E.cf.atl
  inj : ∀ a b, E.g.att a = E.g.att b → a = b
  blt : ∀ b : Bt, E.g.mg b.nm = none
  rng : E.g.mg "range" = none
  zip : E.g.mg "zip" = none
  enum : E.g.mg "enumerate" = none
  isi : E.g.mg "isinstance" = none
  bool : E.g.mg "bool" = none
  con : ∀ (i : Nat) (x : Str) (d : D), E.cf.ctl[i]? = some (some x) → E.p.cns[i]? = some d → ∃ u, E.g.mg x = some u ∧ CnOk E.g.K d u
  fn : ∀ f x, E.cf.fnm f = some x → ∃ fa, E.g.mg x = some (.ref fa) ∧ PySem.W.keepIn E.g.K (.ref fa) = true ∧ FnR E f fa
  cls : ∀ C, C < E.g.ncls → Cls E.g.K (E.g.cad C) ∧ ∀ f, f < E.cf.natt → NoAttr E.g.K (E.g.cad C) (E.g.att f)
  ncl : ∀ C cd, E.p.cls[C]? = some cd → C < E.g.ncls
  mth : ∀ C cd k f, E.p.cls[C]? = some cd → cd.meths.lookup k = some f → ∃ fa, Meth E.g.K (E.g.cad C) (E.cf.mnm k) fa ∧ FnR E f fa
  mat : ∀ a k, E.g.att a ≠ E.cf.mnm k
  mkc : ∀ C cd x, E.p.cls[C]? = some cd → E.cf.cnm C = some x → ∃ fa, E.g.mg x = some (.ref (E.g.cad C)) ∧ Mk E.g.K (E.g.cad C) fa ∧ FnR E cd.init fa
structure Cok (E : En) (N : List Str) (sc : Scope) (X : Cx) : Prop where
  K : X.K = E.g.K
  mg : X.mg = E.g.mg
  P : X.prog = E.P
  w : X.w = E.w
  base : X.base = E.base
  Ns : X.N = N
  sc : X.env.scope = sc
  nd : N.Nodup
  room : Room (E.lv + 1) X.A
  calm : X.calm = true
variable {E : En} {N : List Str} {sc : Scope} {X : Cx} {W : WX}

theorem Cok.blk (C : Cok E N sc X) {s : Shared} {H : Hp} {scope : Scope} {cl : List (Str × Addr)} {A : Addr} {fp : List Addr} : Cok E N (relS scope sc) (X.blk s H scope (compEnvC scope cl A X.env) fp) :=
  ⟨C.K, C.mg, C.P, C.w, C.base, C.Ns, by rw [← C.sc]; rfl, C.nd, C.room, C.calm⟩

/-! ### readings -/
abbrev xwOf (W : WX) (σ : L2.St) : XW := fun cls d H => W cls d σ H
def rdOf {α β : Type} (Rl : Wd → α → β → Prop) (E : En) (W : WX) (f : List (Option D) → Mm → Res Mm α) : L2.St → Hp → (β → Hp → Prop) → Prop := fun σ H Q =>
  ∃ w sl m, Mem E.g w H m ∧ Slr E.g w sl σ ∧ Post Rl E.g w (xwOf W σ) Q (f sl m)
abbrev rdE (E : En) (W : WX) (e : ME) : TE := rdOf (Rv E.g) E W (evalE E.p E.c e)
abbrev rdEs (E : En) (W : WX) (es : List ME) : TA := rdOf (Rvs E.g) E W (evalEs E.p E.c es)
abbrev rdO (E : En) (W : WX) (o : Option ME) : TO := rdOf (fun _ (a b : Option Int) => a = b) E W (evalO E.p E.c o)
def evalT (p : Pg) (c : Calls) (e : ME) (sl : List (Option D)) (h : Mm) : Res Mm Bool := (evalE p c e sl h).bind fun x h => match truthD h x with | some b => .ok b h | none => .bad
abbrev rdT (E : En) (W : WX) (e : ME) : TT := rdOf (fun _ (a b : Bool) => a = b) E W (evalT E.p E.c e)
def JE (E : En) (N : List Str) (sc : Scope) (me : ME) (e : Expr) : Prop := ∀ (X : Cx) (W : WX), Cok E N sc X → Takes X W → PE X e (rdE E W me)
def JT (E : En) (N : List Str) (sc : Scope) (me : ME) (e : Expr) : Prop := ∀ (X : Cx) (W : WX), Cok E N sc X → Takes X W → PT X e (rdT E W me)
def JEs (E : En) (N : List Str) (sc : Scope) (me : List ME) (e : List Expr) : Prop := ∀ (X : Cx) (W : WX), Cok E N sc X → Takes X W → PA X e (rdEs E W me)
def JO (E : En) (N : List Str) (sc : Scope) (me : Option ME) (e : Option Expr) : Prop := ∀ (X : Cx) (W : WX), Cok E N sc X → Takes X W → PO X e (rdO E W me)

theorem PE.imp {e : Expr} {t t' : TE} (h : PE X e t) (k : ∀ σ H Q, t' σ H Q → t σ H Q) : PE X e t' := ⟨fun pins s σ H Q I q => h.run pins s σ H Q I (k _ _ _ q)⟩
theorem PT.imp {e : Expr} {t t' : TT} (h : PT X e t) (k : ∀ σ H Q, t' σ H Q → t σ H Q) : PT X e t' := ⟨fun pins s σ H Q I q => h.run pins s σ H Q I (k _ _ _ q)⟩
theorem PA.imp {e : List Expr} {t t' : TA} (h : PA X e t) (k : ∀ σ H Q, t' σ H Q → t σ H Q) : PA X e t' := ⟨fun pos pins s σ H Q I q => h.run pos pins s σ H Q I (k _ _ _ q)⟩
theorem PO.imp {e : Option Expr} {t t' : TO} (h : PO X e t) (k : ∀ σ H Q, t' σ H Q → t σ H Q) : PO X e t' := ⟨fun pins s σ H Q I q => h.run pins s σ H Q I (k _ _ _ q)⟩

/-- the reading of one part, what follows taken up -/
theorem rd_bind {α β γ δ : Type} {Rl : Wd → α → β → Prop} {Rl' : Wd → γ → δ → Prop} {σ : L2.St} {H : Hp} {Q : β → Hp → Prop} {Q' : δ → Hp → Prop} {w : Wd} {sl : List (Option D)} {m : Mm} {r : List (Option D) → Mm → Res Mm γ} {f : γ → Mm → Res Mm α}
    (M : Mem E.g w H m) (S : Slr E.g w sl σ) (h : Post Rl E.g w (xwOf W σ) Q ((r sl m).bind f))
    (k : ∀ d m' w' v H', w.le w' → Mem E.g w' H' m' → Slr E.g w' sl σ → Rl' w' d v → Post Rl E.g w' (xwOf W σ) Q (f d m') → Q' v H') : rdOf Rl' E W r σ H Q' :=
  ⟨w, sl, m, M, S, Post.bind h fun d m' _ w' v H' le M' rv q => k d m' w' v H' le M' (S.mono le) rv q⟩

/-! ### side conditions -/
def notStar : Expr → Bool
  | .Starred _ _ => false
  | _ => true
theorem starEach_of {e : Expr} {es : List Expr} {env : Env} (h : notStar e = true) : starEach (e :: es) env = (false, eval e env) :: starEach es env := by
  cases e <;> first | rfl | cases h
def notStars (es : List Expr) : Bool := es.all notStar
theorem plain_of : ∀ {es : List Expr} {env : Env} {pos : Pos}, notStars es = true → (backTo pos (starEach es env)).any (·.1) = false
  | [], _, _, _ => rfl
  | e :: es, env, pos, h => by
    unfold notStars at h
    rw [List.all_cons, Bool.and_eq_true] at h
    rw [starEach_of h.1]
    show (false || (backTo pos (starEach es env)).any (·.1)) = false
    rw [plain_of (es := es) h.2]; rfl
def notSuper : Expr → Bool
  | .Call (.Name _ _) [] [] _ => false
  | _ => true
theorem base_of {o : Expr} {a : Str} {env : Env} {t : Sem Value} (h : notSuper o = true) : attributeBase o a env t = t := by
  unfold attributeBase
  split
  · cases h
  · rfl
def notComp : Expr → Bool
  | .ListComp _ _ _ _ => false
  | .SetComp _ _ _ _ => false
  | .DictComp _ _ _ _ _ => false
  | _ => true
theorem swaps_of {e : Expr} {t : Option Expr} {l : Nat} {env : Env} (h : notComp e = true) : swapsWith e t l env = pure false := by
  cases e <;> first | rfl | cases h
def plainTest : Expr → Bool
  | .BoolOp _ _ _ => false
  | .Compare _ _ _ _ => false
  | .UnaryOp .Not _ _ => false
  | .IfExp _ _ _ _ => false
  | _ => true
end R

/-! RSnd5: one rule a form of expression. -/
namespace R
open PySem PySem.Spec PyProof.Rows L2
variable {E : En} {N : List Str} {sc : Scope} {a b : ME} {ea eb : Expr} {pos : Pos}

/-- what a name is, in a scope -/
def visB (sc : Scope) (x : Str) : Bool := match sc.names.lookup x with
  | some .local => true | some .cell => true | some .free => true | _ => false
theorem vis_of {sc : Scope} {x : Str} (h : visB sc x = true) : Vis sc x := by
  unfold visB at h
  unfold Vis
  split at h <;> first | (cases h; done) | skip
  · exact .inl (by assumption)
  · exact .inr (.inl (by assumption))
  · exact .inr (.inr (by assumption))
def glB (sc : Scope) (x : Str) : Bool := match sc.names.lookup x with
  | some .globalImplicit => true | _ => false
theorem gl_of {X : Cx} {x : Str} (h : glB X.env.scope x = true) : Gl X x := by
  unfold glB at h
  split at h
  · assumption
  · cases h
def nmOk (x : Str) : Bool := !(x == ("__debug__" : Str)) && !(x == ("__classdict__" : Str))
theorem nmOk_of {x : Str} (h : nmOk x = true) : (x == ("__debug__" : Str)) = false ∧ (x == ("__classdict__" : Str)) = false := by
  unfold nmOk at h
  simpa [Bool.and_eq_true] using h

theorem je_var {i : Nat} {x : Str} (h1 : N[i]? = some x) (h2 : visB sc x = true) (h3 : nmOk x = true) : JE E N sc (.var i) (.Name x pos) := fun X W C tk => by
  refine PE.imp (pe_var (X := X) (i := i) (by rw [C.Ns]; exact h1) (by rw [C.sc]; exact vis_of h2) (nmOk_of h3).1 (nmOk_of h3).2) fun σ H Q h => ?_
  obtain ⟨w, sl, m, M, S, h⟩ := h
  unfold evalE at h
  split at h
  · rename_i d e
    obtain ⟨v, hv, r⟩ := S.at_ i d e
    exact ⟨v, hv, ok_same h M r⟩
  · exact absurd h id
theorem je_non {k : Nat} : JE E N sc (.lit .non) (.Constant .none k pos) := fun X W C tk => PE.imp pe_non fun σ H Q ⟨w, sl, m, M, S, h⟩ => by
  unfold evalE at h
  exact ok_same h M .non
theorem je_bl {k : Nat} {b : Bool} : JE E N sc (.lit (.bl b)) (.Constant (.bool b) k pos) := fun X W C tk => PE.imp pe_bl fun σ H Q ⟨w, sl, m, M, S, h⟩ => by
  unfold evalE at h
  exact ok_same h M (.bl b)
theorem je_int {k : Nat} {i : Int} : JE E N sc (.lit (.int i)) (.Constant (.int i) k pos) := fun X W C tk => PE.imp pe_int fun σ H Q ⟨w, sl, m, M, S, h⟩ => by
  unfold evalE at h
  exact ok_same h M (.int i)
theorem je_str {k : Nat} {x : Str} : JE E N sc (.lit (.str x)) (.Constant (.str x) k pos) := fun X W C tk => PE.imp pe_str fun σ H Q ⟨w, sl, m, M, S, h⟩ => by
  unfold evalE at h
  exact ok_same h M (.str x)
theorem je_bin (ha : JE E N sc a ea) (hb : JE E N sc b eb) (o : Op) (obj : Bool) : JE E N sc (.bin o obj a b) (.BinOp ea o.py eb pos) := fun X W C tk => by
  refine PE.imp (pe_op (op_bin (g := E.g) C.K o obj) (ha X W C tk) (hb X W C tk)) fun σ H Q h => ?_
  obtain ⟨w, sl, m, M, S, h⟩ := h
  unfold evalE at h
  refine rd_bind M S h fun d m1 w1 v H1 le1 M1 S1 r1 h1 => ?_
  refine rd_bind M1 S1 h1 fun e m2 w2 u H2 le2 M2 S2 r2 h2 => ?_
  exact ⟨w2, m2, d, e, _, M2, r1.mono le2, r2, h2⟩
theorem je_neg (ha : JE E N sc a ea) : JE E N sc (.neg a) (.UnaryOp .USub ea pos) := fun X W C tk => by
  refine PE.imp (pe_un un_neg (ha X W C tk)) fun σ H Q h => ?_
  obtain ⟨w, sl, m, M, S, h⟩ := h
  unfold evalE at h
  refine rd_bind M S h fun d m1 w1 v H1 le1 M1 S1 r1 h1 => ?_
  split at h1
  · cases r1
    exact ⟨_, rfl, ok_same h1 M1 (.int _)⟩
  · exact absurd h1 id
theorem je_cmp (ha : JE E N sc a ea) (hb : JE E N sc b eb) (c : Cm) : JE E N sc (.cmp c a b) (.Compare ea [c.py] [eb] pos) := fun X W C tk => by
  have hu : X.A.units + 64 < cLine := C.room.units
  have hm : behindInMarks c.py eb = false := by
    cases c <;> exact nomark _ (by decide) (by decide)
  refine PE.imp (pe_cmpR (op_cmp (g := E.g) hu C.K c) (ha X W C tk) (hb X W C tk) hm) fun σ H Q h => ?_
  obtain ⟨w, sl, m, M, S, h⟩ := h
  unfold evalE at h
  refine rd_bind M S h fun d m1 w1 v H1 le1 M1 S1 r1 h1 => ?_
  refine rd_bind M1 S1 h1 fun e m2 w2 u H2 le2 M2 S2 r2 h2 => ?_
  split at h2
  · rename_i k ek
    exact ⟨w2, m2, d, e, k, M2, r1.mono le2, r2, ek, ok_same h2 M2 (.bl k)⟩
  · exact absurd h2 id
theorem jt_cmp (ha : JE E N sc a ea) (hb : JE E N sc b eb) (c : Cm) : JT E N sc (.cmp c a b) (.Compare ea [c.py] [eb] pos) := fun X W C tk => by
  have hu : X.A.units + 64 < cLine := C.room.units
  have hm : behindInMarks c.py eb = false := by
    cases c <;> exact nomark _ (by decide) (by decide)
  refine PT.imp (pt_cmpR (op_cmp (g := E.g) hu C.K c) (ha X W C tk) (hb X W C tk) hm) fun σ H Q h => ?_
  obtain ⟨w, sl, m, M, S, h⟩ := h
  have h : Post _ _ _ _ _ ((evalE E.p E.c (.cmp c a b) sl m).bind _) := h
  unfold evalE at h
  cases q1 : evalE E.p E.c a sl m with
  | bad => rw [q1] at h; exact absurd h id
  | exn C p m1 =>
    rw [q1] at h
    exact ⟨w, sl, m, M, S, by rw [q1]; exact h⟩
  | ok d m1 =>
    rw [q1] at h
    refine ⟨w, sl, m, M, S, ?_⟩
    rw [q1]
    intro w1 v H1 le1 M1 r1
    cases q2 : evalE E.p E.c b sl m1 with
    | bad => rw [Res.bind_ok, q2] at h; exact absurd h id
    | exn C p m2 =>
      rw [Res.bind_ok, q2] at h
      exact ⟨w1, sl, m1, M1, S.mono le1, by rw [q2]; exact Post.mono le1 h⟩
    | ok e m2 =>
      rw [Res.bind_ok, q2, Res.bind_ok] at h
      refine ⟨w1, sl, m1, M1, S.mono le1, ?_⟩
      rw [q2]
      intro w2 u H2 le2 M2 r2
      cases q3 : cmpD c m2 d e with
      | none => rw [q3] at h; exact absurd h id
      | some k =>
        rw [q3] at h
        exact ⟨w2, m2, d, e, k, M2, r1.mono le2, r2, q3, k, rfl, h w2 k H2 (le1.trans le2) M2 rfl⟩
theorem je_isn (ha : JE E N sc a ea) {k : Nat} {p : Pos} : JE E N sc (.isn false a) (.Compare ea [.Is] [.Constant .none k p] pos) := fun X W C tk => by
  refine PE.imp (pe_cmp (pc_isN (ha X W C tk)) rfl) fun σ H Q h => ?_
  obtain ⟨w, sl, m, M, S, h⟩ := h
  unfold evalE at h
  refine rd_bind M S h fun d m1 w1 v H1 le1 M1 S1 r1 h1 => ?_
  cases r1 <;> exact ok_same h1 M1 (.bl _)
theorem je_isnn (ha : JE E N sc a ea) {k : Nat} {p : Pos} : JE E N sc (.isn true a) (.Compare ea [.IsNot] [.Constant .none k p] pos) := fun X W C tk => by
  refine PE.imp (pe_cmp (pc_notN (ha X W C tk)) rfl) fun σ H Q h => ?_
  obtain ⟨w, sl, m, M, S, h⟩ := h
  unfold evalE at h
  refine rd_bind M S h fun d m1 w1 v H1 le1 M1 S1 r1 h1 => ?_
  cases r1 <;> exact ok_same h1 M1 (.bl _)
theorem jt_of_bl (h : ∀ X W, Cok E N sc X → Takes X W → PT X ea (fun σ H Q => rdE E W a σ H fun x H1 => ∃ k, x = .bl k ∧ Q k H1)) (hb : ∀ sl m d m1, evalE E.p E.c a sl m = .ok d m1 → ∃ k, d = .bl k) : JT E N sc a ea := fun X W C tk => by
  refine PT.imp (h X W C tk) fun σ H Q h => ?_
  obtain ⟨w, sl, m, M, S, h⟩ := h
  have h : Post _ _ _ _ _ ((evalE E.p E.c a sl m).bind _) := h
  refine ⟨w, sl, m, M, S, ?_⟩
  cases q1 : evalE E.p E.c a sl m with
  | bad => rw [q1] at h; exact absurd h id
  | exn C p m1 => rw [q1] at h; exact h
  | ok d m1 =>
    rw [q1] at h
    intro w1 v H1 le1 M1 r1
    obtain ⟨k, rfl⟩ := hb sl m d m1 q1
    cases r1
    exact ⟨k, rfl, h w1 k H1 le1 M1 rfl⟩
theorem isn_bl {ng : Bool} : ∀ sl m d m1, evalE E.p E.c (.isn ng a) sl m = .ok d m1 → ∃ k, d = .bl k := fun sl m d m1 h => by
  unfold evalE at h
  cases q : evalE E.p E.c a sl m with
  | bad => rw [q] at h; cases h
  | exn C p m1 => rw [q] at h; cases h
  | ok x m1 =>
    rw [q, Res.bind_ok] at h
    split at h <;> (cases h; exact ⟨_, rfl⟩)
theorem jt_isn (ha : JE E N sc a ea) {k : Nat} {p : Pos} : JT E N sc (.isn false a) (.Compare ea [.Is] [.Constant .none k p] pos) :=
  jt_of_bl (fun X W C tk => PT.imp (pt_cmp (pc_isN (ha X W C tk)) rfl) fun σ H Q h => by
    obtain ⟨w, sl, m, M, S, h⟩ := h
    unfold evalE at h
    refine rd_bind M S h fun d m1 w1 v H1 le1 M1 S1 r1 h1 => ?_
    cases r1 <;> exact ok_same (Q := fun x H1 => ∃ k, x = .bl k ∧ Q k H1) h1 M1 (.bl _)) isn_bl
theorem jt_isnn (ha : JE E N sc a ea) {k : Nat} {p : Pos} : JT E N sc (.isn true a) (.Compare ea [.IsNot] [.Constant .none k p] pos) :=
  jt_of_bl (fun X W C tk => PT.imp (pt_cmp (pc_notN (ha X W C tk)) rfl) fun σ H Q h => by
    obtain ⟨w, sl, m, M, S, h⟩ := h
    unfold evalE at h
    refine rd_bind M S h fun d m1 w1 v H1 le1 M1 S1 r1 h1 => ?_
    cases r1 <;> exact ok_same (Q := fun x H1 => ∃ k, x = .bl k ∧ Q k H1) h1 M1 (.bl _)) isn_bl
/-- a test by its value's truth -/
theorem plain_isTrue {e : Expr} {env : Env} (h : plainTest e = true) : ∀ whole, isTrue e env whole = (do let v ← whole; standAt e.pos; holding [v] (truthy v)) := by
  intro whole
  cases e with
  | UnaryOp op x p => cases op <;> first | rfl | cases h
  | _ => first | rfl | cases h
theorem jt_val (ha : JE E N sc a ea) (h : plainTest ea = true) : JT E N sc a ea := fun X W C tk => by
  refine PT.imp (pt_truth (ha X W C tk) (plain_isTrue h)) fun σ H Q h => ?_
  obtain ⟨w, sl, m, M, S, h⟩ := h
  refine rd_bind (f := fun x h => match truthD h x with | some b => .ok b h | none => .bad) M S h fun d m1 w1 v H1 le1 M1 S1 r1 h1 => ?_
  split at h1
  · rename_i b e
    exact ⟨b, by rw [C.K]; exact truthD_rel M1 r1 e, h1 w1 b H1 (Wd.le.refl _) M1 rfl⟩
  · exact absurd h1 id
/-- not, and, or -/
theorem je_not (ha : JE E N sc a ea) : JE E N sc (.not_ a) (.UnaryOp .Not ea pos) := fun X W C tk => by
  refine PE.imp (pe_notT (ha X W C tk)) fun σ H Q h => ?_
  obtain ⟨w, sl, m, M, S, h⟩ := h
  unfold evalE at h
  refine rd_bind M S h fun d m1 w1 v H1 le1 M1 S1 r1 h1 => ?_
  split at h1
  · rename_i b e
    exact ⟨b, by rw [C.K]; exact truthD_rel M1 r1 e, ok_same h1 M1 (.bl _)⟩
  · exact absurd h1 id
theorem jt_not (ha : JT E N sc a ea) : JT E N sc (.not_ a) (.UnaryOp .Not ea pos) := fun X W C tk => by
  refine PT.imp (pt_not (ha X W C tk)) fun σ H Q h => ?_
  obtain ⟨w, sl, m, M, S, h⟩ := h
  have h : Post _ _ _ _ _ ((evalE E.p E.c (.not_ a) sl m).bind _) := h
  unfold evalE at h
  refine ⟨w, sl, m, M, S, ?_⟩
  show Post _ _ _ _ _ (evalT E.p E.c a sl m)
  unfold evalT
  cases q1 : evalE E.p E.c a sl m with
  | bad => rw [q1] at h; exact absurd h id
  | exn C p m1 => rw [q1] at h; exact h
  | ok d m1 =>
    rw [q1, Res.bind_ok] at h
    rw [Res.bind_ok]
    cases q2 : truthD m1 d with
    | none => rw [q2] at h; exact absurd h id
    | some b =>
      rw [q2] at h
      intro w1 v H1 le1 M1 r1
      subst r1
      exact h w1 (!b) H1 le1 M1 rfl
abbrev boOp : Bool → BoolOp
  | true => .And | false => .Or
theorem je_bop1 {conj : Bool} (ha : JE E N sc a ea) : JE E N sc (.bop conj [a]) (.BoolOp (boOp conj) [ea] pos) := fun X W C tk => by
  refine PE.imp (pe_one (ha X W C tk)) fun σ H Q h => ?_
  obtain ⟨w, sl, m, M, S, h⟩ := h
  refine ⟨w, sl, m, M, S, ?_⟩
  unfold evalE evalB at h
  exact h
theorem je_bop {conj : Bool} {b : ME} {es : List ME} {eb : Expr} {ees : List Expr} (ha : JE E N sc a ea) (hb : JE E N sc (.bop conj (b :: es)) (.BoolOp (boOp conj) (eb :: ees) pos)) :
    JE E N sc (.bop conj (a :: b :: es)) (.BoolOp (boOp conj) (ea :: eb :: ees) pos) := fun X W C tk => by
  have core : ∀ (σ : L2.St) (H : Hp) (Q : VK), rdE E W (.bop conj (a :: b :: es)) σ H Q → rdE E W a σ H fun x H1 => ∃ k, TruV X.K x H1 k ∧ if k = conj then rdE E W (.bop conj (b :: es)) σ H1 Q else Q x H1 := by
    intro σ H Q h
    obtain ⟨w, sl, m, M, S, h⟩ := h
    unfold evalE evalB at h
    refine rd_bind M S h fun d m1 w1 v H1 le1 M1 S1 r1 h1 => ?_
    split at h1
    · rename_i k e
      refine ⟨k, by rw [C.K]; exact truthD_rel M1 r1 e, ?_⟩
      by_cases hk : k = conj
      · rw [if_pos hk] at h1 ⊢
        exact ⟨w1, sl, m1, M1, S1, by unfold evalE; exact h1⟩
      · rw [if_neg hk] at h1 ⊢
        exact ok_same h1 M1 r1
    · exact absurd h1 id
  have up : ∀ (σ : L2.St) (H : Hp) (Q Q' : VK), (∀ v H, Q v H → Q' v H) → rdE E W a σ H Q → rdE E W a σ H Q' := fun σ H Q Q' k ⟨w, sl, m, M, S, h⟩ => ⟨w, sl, m, M, S, Post.imp k h⟩
  cases conj with
  | true =>
    refine PE.imp (pe_andT (ha X W C tk) (hb X W C tk)) fun σ H Q h => up σ H _ _ (fun v H1 ⟨k, t, q⟩ => ⟨k, t, q⟩) (core σ H Q h)
  | false =>
    refine PE.imp (pe_orT (ha X W C tk) (hb X W C tk)) fun σ H Q h => up σ H _ _ (fun v H1 ⟨k, t, q⟩ => ⟨k, t, ?_⟩) (core σ H Q h)
    cases k with
    | true => exact q
    | false => exact q
theorem jt_bop1 {conj : Bool} (ha : JT E N sc a ea) : ∀ X W, Cok E N sc X → Takes X W → PW X (.BoolOp (boOp conj) [ea] pos) (rdT E W (.bop conj [a])) := fun X W C tk => by
  have up : ∀ (σ : L2.St) (H : Hp) (Q : Bool → Hp → Prop), rdT E W (.bop conj [a]) σ H Q → rdT E W a σ H Q := fun σ H Q ⟨w, sl, m, M, S, h⟩ => ⟨w, sl, m, M, S, by
    unfold evalT at h ⊢
    unfold evalE evalB at h
    exact h⟩
  cases conj with
  | true => exact ⟨fun wh pins s σ H Q I h => (pw_and1 (ha X W C tk)).run wh pins s σ H Q I (up σ H Q h)⟩
  | false => exact ⟨fun wh pins s σ H Q I h => (pw_or1 (ha X W C tk)).run wh pins s σ H Q I (up σ H Q h)⟩
theorem jt_bop {conj : Bool} {b : ME} {es : List ME} {eb : Expr} {ees : List Expr} (ha : JT E N sc a ea) (hb : ∀ X W, Cok E N sc X → Takes X W → PW X (.BoolOp (boOp conj) (eb :: ees) pos) (rdT E W (.bop conj (b :: es)))) :
    ∀ X W, Cok E N sc X → Takes X W → PW X (.BoolOp (boOp conj) (ea :: eb :: ees) pos) (rdT E W (.bop conj (a :: b :: es))) := fun X W C tk => by
  have core : ∀ (σ : L2.St) (H : Hp) (Q : Bool → Hp → Prop), rdT E W (.bop conj (a :: b :: es)) σ H Q → rdT E W a σ H fun k H1 => if k = conj then rdT E W (.bop conj (b :: es)) σ H1 Q else Q k H1 := by
    intro σ H Q h
    obtain ⟨w, sl, m, M, S, h⟩ := h
    refine ⟨w, sl, m, M, S, ?_⟩
    have h : Post _ _ _ _ _ ((evalE E.p E.c (.bop conj (a :: b :: es)) sl m).bind _) := h
    unfold evalE evalB at h
    show Post _ _ _ _ _ (evalT E.p E.c a sl m)
    unfold evalT
    cases q1 : evalE E.p E.c a sl m with
    | bad => rw [q1] at h; exact absurd h id
    | exn C p m1 => rw [q1] at h; exact h
    | ok d m1 =>
      rw [q1, Res.bind_ok] at h
      rw [Res.bind_ok]
      cases q2 : truthD m1 d with
      | none => rw [q2] at h; exact absurd h id
      | some k =>
        rw [q2] at h
        intro w1 v H1 le1 M1 r1
        subst r1
        dsimp only at h
        by_cases hk : k = conj
        · rw [if_pos hk] at h ⊢
          refine ⟨w1, sl, m1, M1, S.mono le1, Post.mono le1 ?_⟩
          unfold evalT evalE
          exact h
        · rw [if_neg hk, Res.bind_ok, q2] at h
          rw [if_neg hk]
          exact h w1 k H1 le1 M1 rfl
  have up : ∀ (σ : L2.St) (H : Hp) (Q Q' : Bool → Hp → Prop), (∀ v H, Q v H → Q' v H) → rdT E W a σ H Q → rdT E W a σ H Q' := fun σ H Q Q' k ⟨w, sl, m, M, S, h⟩ => ⟨w, sl, m, M, S, Post.imp k h⟩
  cases conj with
  | true => exact ⟨fun wh pins s σ H Q I h => (pw_and (ha X W C tk) (hb X W C tk)).run wh pins s σ H Q I (up σ H _ _ (fun k H1 q => by cases k <;> exact q) (core σ H Q h))⟩
  | false => exact ⟨fun wh pins s σ H Q I h => (pw_or (ha X W C tk) (hb X W C tk)).run wh pins s σ H Q I (up σ H _ _ (fun k H1 q => by cases k <;> exact q) (core σ H Q h))⟩
theorem je_ife {k : ME} {ek : Expr} (hk : JT E N sc k ek) (ha : JE E N sc a ea) (hb : JE E N sc b eb) : JE E N sc (.ife k a b) (.IfExp ek ea eb pos) := fun X W C tk => by
  refine PE.imp (pe_ifExp (hk X W C tk) (ha X W C tk) (hb X W C tk)) fun σ H Q h => ?_
  obtain ⟨w, sl, m, M, S, h⟩ := h
  unfold evalE at h
  refine ⟨w, sl, m, M, S, ?_⟩
  show Post _ _ _ _ _ (evalT E.p E.c k sl m)
  unfold evalT
  cases q1 : evalE E.p E.c k sl m with
  | bad => rw [q1] at h; exact absurd h id
  | exn C p m1 => rw [q1] at h; exact h
  | ok d m1 =>
    rw [q1, Res.bind_ok] at h
    rw [Res.bind_ok]
    cases q2 : truthD m1 d with
    | none => rw [q2] at h; exact absurd h id
    | some t =>
      rw [q2] at h
      intro w1 v H1 le1 M1 r1
      subst r1
      cases t with
      | true => exact ⟨w1, sl, m1, M1, S.mono le1, Post.mono le1 h⟩
      | false => exact ⟨w1, sl, m1, M1, S.mono le1, Post.mono le1 h⟩
/-! ### lists of expressions -/
theorem jes_nil : JEs E N sc [] [] := fun X W C tk => PA.imp pa_nil fun σ H Q ⟨w, sl, m, M, S, h⟩ => by
  unfold evalEs at h
  exact h w [] H (Wd.le.refl _) M .nil
theorem jes_cons {es : List ME} {ees : List Expr} (ha : JE E N sc a ea) (hs : notStar ea = true) (hr : JEs E N sc es ees) : JEs E N sc (a :: es) (ea :: ees) := fun X W C tk => by
  refine PA.imp (pa_cons (ha X W C tk) (hr X W C tk) (starEach_of hs)) fun σ H Q h => ?_
  obtain ⟨w, sl, m, M, S, h⟩ := h
  unfold evalEs at h
  refine rd_bind M S h fun d m1 w1 v H1 le1 M1 S1 r1 h1 => ?_
  refine rd_bind M1 S1 h1 fun ds m2 w2 vs H2 le2 M2 S2 r2 h2 => ?_
  exact h2 w2 _ H2 (Wd.le.refl _) M2 (.cons (r1.mono le2) r2)
theorem je_tup {es : List ME} {ees : List Expr} {k : Nat} (h : JEs E N sc es ees) : JE E N sc (.tup es) (.Tuple ees k pos) := fun X W C tk => by
  refine PE.imp (pe_tup (h X W C tk)) fun σ H Q h => ?_
  obtain ⟨w, sl, m, M, S, h⟩ := h
  unfold evalE at h
  refine rd_bind M S h fun ds m1 w1 vs H1 le1 M1 S1 r1 h1 => ?_
  exact mkT_post h1 M1 r1
theorem je_lst {es : List ME} {ees : List Expr} {obj : Bool} (h : JEs E N sc es ees) : JE E N sc (.lst obj es) (.List ees pos) := fun X W C tk => by
  refine PE.imp (pe_lst (h X W C tk)) fun σ H Q h => ?_
  obtain ⟨w, sl, m, M, S, h⟩ := h
  unfold evalE at h
  refine rd_bind M S h fun ds m1 w1 vs H1 le1 M1 S1 r1 h1 => ?_
  exact mkL_post h1 M1 r1
/-! ### items, slices -/
def plainIxB : Expr → Bool
  | .Slice _ _ _ _ => false
  | .Tuple _ _ _ => false
  | _ => true
theorem plainIx_of {e : Expr} (h : plainIxB e = true) : PlainIx e := by
  intro o i
  cases e <;> first | rfl | cases h
def noSlB : Expr → Bool
  | .Name _ _ => true
  | .Constant _ _ _ => true
  | .Subscript _ _ _ => true
  | .BinOp _ _ _ _ => true
  | .Call _ _ _ _ => true
  | .Attribute _ _ _ => true
  | .Tuple _ _ _ => true
  | _ => false
theorem noSl_of {e : Expr} (h : noSlB e = true) : NoSl e := by
  cases e <;> first | (cases h; done) | exact fun _ _ => rfl
theorem je_idx (ha : JE E N sc a ea) (hb : JE E N sc b eb) (hp : plainIxB eb = true) : JE E N sc (.idx a b) (.Subscript ea eb pos) := fun X W C tk => by
  refine PE.imp (pe_ix (ix_idx (g := E.g) (by have : X.A.units + 64 < cLine := C.room.units; omega) C.K) (ha X W C tk) (hb X W C tk) (plainIx_of hp)) fun σ H Q h => ?_
  obtain ⟨w, sl, m, M, S, h⟩ := h
  unfold evalE at h
  refine rd_bind M S h fun d m1 w1 v H1 le1 M1 S1 r1 h1 => ?_
  refine rd_bind M1 S1 h1 fun e m2 w2 u H2 le2 M2 S2 r2 h2 => ?_
  split at h2
  · rename_i x ex
    exact ⟨w2, m2, d, e, x, M2, r1.mono le2, r2, ex, fun v' rv => ok_same h2 M2 rv⟩
  · exact absurd h2 id
theorem jo_none : JO E N sc none none := fun X W C tk => PO.imp po_none fun σ H Q ⟨w, sl, m, M, S, h⟩ => by
  unfold evalO at h
  exact h w none H (Wd.le.refl _) M rfl
theorem jo_some (ha : JE E N sc a ea) : JO E N sc (some a) (some ea) := fun X W C tk => PO.imp (po_some (ha X W C tk)) fun σ H Q ⟨w, sl, m, M, S, h⟩ => by
  unfold evalO at h
  refine rd_bind M S h fun d m1 w1 v H1 le1 M1 S1 r1 h1 => ?_
  split at h1
  · cases r1
    exact ⟨_, rfl, h1 w1 (some _) H1 (Wd.le.refl _) M1 rfl⟩
  · exact absurd h1 id
theorem je_slc {lo hi : Option ME} {elo ehi : Option Expr} {obj : Bool} {p2 : Pos} (ha : JE E N sc a ea) (hl : JO E N sc lo elo) (hh : JO E N sc hi ehi) : JE E N sc (.slc obj a lo hi) (.Subscript ea (.Slice elo ehi none p2) pos) := fun X W C tk => by
  refine PE.imp (pe_slice (sl_slc (g := E.g) C.K obj) (ha X W C tk) (hl X W C tk) (hh X W C tk)) fun σ H Q h => ?_
  obtain ⟨w, sl, m, M, S, h⟩ := h
  unfold evalE at h
  refine rd_bind M S h fun d m1 w1 v H1 le1 M1 S1 r1 h1 => ?_
  refine rd_bind (Rl' := fun _ (a b : Option Int) => a = b) M1 S1 h1 fun l m2 w2 l' H2 le2 M2 S2 r2 h2 => ?_
  refine rd_bind (Rl' := fun _ (a b : Option Int) => a = b) M2 S2 h2 fun u m3 w3 u' H3 le3 M3 S3 r3 h3 => ?_
  subst r2
  subst r3
  exact ⟨w3, m3, d, _, M3, r1.mono (le2.trans le3), h3⟩
theorem je_rev {obj : Bool} {k : Nat} {p1 p2 p3 : Pos} (ha : JE E N sc a ea) : JE E N sc (.rev obj a) (.Subscript ea (.Slice none none (some (.UnaryOp .USub (.Constant (.int 1) k p1) p2)) p3) pos) := fun X W C tk => by
  refine PE.imp (pe_revL (ha X W C tk)) fun σ H Q h => ?_
  obtain ⟨w, sl, m, M, S, h⟩ := h
  unfold evalE at h
  refine rd_bind M S h fun d m1 w1 v H1 le1 M1 S1 r1 h1 => ?_
  split at h1
  · rename_i xs ex
    obtain ⟨p, vs, rfl, hq, rs⟩ := lstOf_rel M1 r1 ex
    exact ⟨p, vs, rfl, by rw [C.K]; exact hq, (mkL_post h1 M1 rs.reverse).2⟩
  · exact absurd h1 id
/-! ### x in xs -/
theorem memB_bl {ng : Bool} {sl : List (Option D)} {m : Mm} {d : D} {m1 : Mm} (h : evalE E.p E.c (.mem ng a b) sl m = .ok d m1) : ∃ k, d = .bl k := by
  unfold evalE at h
  cases q : evalE E.p E.c a sl m with
  | bad => rw [q] at h; cases h
  | exn C p m1 => rw [q] at h; cases h
  | ok x m2 =>
    rw [q, Res.bind_ok] at h
    cases q2 : evalE E.p E.c b sl m2 with
    | bad => rw [q2] at h; cases h
    | exn C p m1 => rw [q2] at h; cases h
    | ok y m3 =>
      rw [q2, Res.bind_ok] at h
      split at h
      · cases h; exact ⟨_, rfl⟩
      · cases h
theorem mem_rd {ng : Bool} {W : WX} {σ : L2.St} {H : Hp} {Q : VK} (h : rdE E W (.mem ng a b) σ H Q) : tOp (rMem E.g ng) (rdE E W a) (rdE E W b) σ H Q := by
  obtain ⟨w, sl, m, M, S, h⟩ := h
  unfold evalE at h
  refine rd_bind M S h fun d m1 w1 v H1 le1 M1 S1 r1 h1 => ?_
  refine rd_bind M1 S1 h1 fun e m2 w2 u H2 le2 M2 S2 r2 h2 => ?_
  split at h2
  · rename_i k ek
    exact ⟨w2, m2, d, e, k, M2, r1.mono le2, r2, ek, ok_same h2 M2 (.bl _)⟩
  · exact absurd h2 id
/-- what is no mark of texts or sets behind in -/
def inOk (ng : Bool) (e : Expr) : Bool := !behindInMarks (memOp ng) e
theorem je_mem {ng : Bool} (ha : JE E N sc a ea) (hb : JE E N sc b eb) (hi : inOk ng eb = true) : JE E N sc (.mem ng a b) (.Compare ea [memOp ng] [eb] pos) := fun X W C tk =>
  PE.imp (pe_cmpR (op_mem (g := E.g) (by have := C.room.un; omega) C.K ng) (ha X W C tk) (hb X W C tk) (by unfold inOk at hi; simpa using hi)) fun σ H Q h => mem_rd h
theorem jt_mem {ng : Bool} (ha : JE E N sc a ea) (hb : JE E N sc b eb) (hi : inOk ng eb = true) : JT E N sc (.mem ng a b) (.Compare ea [memOp ng] [eb] pos) :=
  jt_of_bl (fun X W C tk => PT.imp (pt_cmpR (op_mem (g := E.g) (by have := C.room.un; omega) C.K ng) (ha X W C tk) (hb X W C tk) (by unfold inOk at hi; simpa using hi)) fun σ H Q h => mem_rd h) fun _ _ _ _ h => memB_bl h
end R

/-! RSnd6: calls. -/
namespace R
open PySem PySem.Spec PyProof.Rows L2
variable {E : En} {N : List Str} {sc : Scope} {a b : ME} {ea eb : Expr} {pos : Pos}

theorem Cok.fn {X : Cx} (C : Cok E N sc X) {f : Nat} {fa : Addr} (h : FnR E f fa) :
    ∃ (fd : FuncData) (ps : List Str), Binds X.K fd ps [] ∧ FnOk X.prog X.w X.K X.mg X.base (L2.CX X.prog X.w) E.lv fa fd ps (spR E f) := by
  obtain ⟨fd, ps, hb, F⟩ := h.ok
  refine ⟨fd, ps, by rw [C.K]; exact hb, ?_⟩
  rw [C.P, C.w, C.K, C.mg, C.base]
  exact F
theorem Cok.gl {X : Cx} (C : Cok E N sc X) {x : Str} (h : glB sc x = true) : Gl X x := gl_of (by rw [C.sc]; exact h)

/-! ### defs -/
theorem je_call (G : Gok E) {f : Nat} {x : Str} {p : Pos} {es : List ME} {e0 : Expr} {ees : List Expr} (hf : E.cf.fnm f = some x) (hg : glB sc x = true) (hn : nmOk x = true) (hs : notStars (e0 :: ees) = true) (h : JEs E N sc es (e0 :: ees)) :
    JE E N sc (.call f es) (.Call (.Name x p) (e0 :: ees) [] pos) := fun X W C tk => by
  obtain ⟨fa, hm, hk, hF⟩ := G.fn f x hf
  obtain ⟨fd, ps, hb, F⟩ := C.fn hF
  have hs2 : notStar e0 = true ∧ notStars ees = true := by
    unfold notStars at hs ⊢
    simpa [List.all_cons, Bool.and_eq_true] using hs
  refine PE.imp (pe_callS (E := fun σ => xwOf W σ) F (C.room.mono (Nat.le_succ _)) (C.gl hg) (by rw [C.mg]; exact hm) (by rw [C.K]; exact hk) hb (fun σ => passAt tk σ) (h X W C tk) (nmOk_of hn).1 (starEach_of hs2.1) (plain_of hs2.2)) fun σ H Q h => ?_
  obtain ⟨w, sl, m, M, S, h⟩ := h
  unfold evalE at h
  exact rd_bind M S h fun ds m1 w1 vs H1 le1 M1 S1 r1 h1 => ⟨w1, m1, ds, M1, r1, h1⟩
theorem je_call0 (G : Gok E) {f : Nat} {x : Str} {p : Pos} (hf : E.cf.fnm f = some x) (hg : glB sc x = true) (hn : nmOk x = true) :
    JE E N sc (.call f []) (.Call (.Name x p) [] [] pos) := fun X W C tk => by
  obtain ⟨fa, hm, hk, hF⟩ := G.fn f x hf
  obtain ⟨fd, ps, hb, F⟩ := C.fn hF
  refine ⟨fun pins s σ H Q I h => ?_⟩
  obtain ⟨w, sl, m, M, S, h⟩ := h
  unfold evalE evalEs at h
  refine wpAny_Call_Name_kw (ld_glob I (C.gl hg) (by rw [C.mg]; exact hm) ?_ (nmOk_of hn).1)
  refine PySem.W.callWith_K0 I.kIn (by rw [C.K]; exact hk) ?_
  exact run_fnS (us := []) (vs := []) (E := fun σ => xwOf W σ) F (C.room.mono (Nat.le_succ _)) hb (passAt tk σ) I .nil ⟨w, m, [], M, .nil, h⟩

/-! ### methods -/
theorem few_of {es : List Expr} {env : Env} {pos : Pos} (h : notStars es = true) (hl : es.length < 30) : methodCallForm (es.length + ([] : List Keyword).length) (backTo pos (starEach es env)) (backToKw pos (keywordEach [] env)) = true := by
  have h1 : ∀ {es : List Expr}, notStars es = true → (backTo pos (starEach es env)).all (!·.1) = true := by
    intro es
    induction es with
    | nil => intro _; rfl
    | cons e r ih =>
      intro h
      unfold notStars at h
      rw [List.all_cons, Bool.and_eq_true] at h
      rw [starEach_of h.1]
      show (true && (backTo pos (starEach r env)).all (!·.1)) = true
      rw [ih h.2]; rfl
  unfold methodCallForm
  rw [h1 h]
  show (true && true && decide (es.length + 0 + 0 < 30)) = true
  simpa using hl
theorem meth_tree {o : Expr} {m : Str} {args : List Expr} {apos pos : Pos} {env : Env} (h : notSuper o = true) (hs : notStars args = true) (hl : args.length < 30) (hp : (apos.endLine == pos.line) = true) : eval (.Call (.Attribute o m apos) args [] pos) env = (do
      let ov ← eval o env
      standAt apos.atName
      let (f, first) ← holding [ov] (getMethod ov m (do return (← importBound o env).getD true))
      callWith pos f first (backTo pos (starEach args env)) (backToKw pos (keywordEach [] env))) := by
  have e1 : eval (.Call (.Attribute o m apos) args [] pos) env = (do
      let ov ← attributeBase o m env (eval o env)
      standAt apos.atName
      methodCall o m apos pos env ov (args.length + ([] : List Keyword).length) (backTo pos (starEach args env)) (backToKw pos (keywordEach [] env))) := rfl
  rw [e1, base_of h]
  unfold methodCall
  rw [few_of hs hl]
  unfold methodCallPos
  rw [hp]
  rfl

/-- the arguments, then the call -/
theorem call_args {X : Cx} {pins : List (Addr × Obj)} {σ : L2.St} {H : Hp} {s : Shared} {Q : VK} {f : Value} {first : List Value} {e : Expr} {es : List Expr} {t : TA} (I : Inv X pins σ H s) (hk : PySem.W.keepIn X.K f = true) (hs : notStars (e :: es) = true) (ha : PA X (e :: es) t)
    (h : t σ H fun vs H2 => ∀ us s2, Inv X pins σ H2 s2 → Vals vs us → wpAny (model X.prog X.w) X.A (call f (first ++ us)) (EP X pins σ Q) X.xe s2) :
    wpAny (model X.prog X.w) X.A (callWith pos f first (backTo pos (starEach (e :: es) X.env)) (backToKw pos (keywordEach [] X.env))) (EP X pins σ Q) X.xe s := by
  have run := ha.run pos pins s σ H _ I h
  have hs2 : notStar e = true ∧ notStars es = true := by
    unfold notStars at hs ⊢
    simpa [List.all_cons, Bool.and_eq_true] using hs
  exact PySem.W.callWith_K (first := first) (h₀ := X.base) I.ok.mod.kin hk (thn run fun us s2 ⟨vs, H2, I2, r, q⟩ => ⟨I2.kIn, q us s2 I2 r⟩) (starEach_of hs2.1) (plain_of hs2.2)
/-- what the receiver of an own method is -/
def MethAt (E : En) (k f : Nat) (d : D) (x : V) (H : Hp) : Prop :=
  ∃ Ci p dx fvs fa, x = .ref p ∧ H p = some (.ins (E.g.cad Ci) dx fvs) ∧ fvs.lookup (E.cf.mnm k) = none ∧ Cls E.g.K (E.g.cad Ci) ∧ Meth E.g.K (E.g.cad Ci) (E.cf.mnm k) fa ∧ FnR E f fa
theorem meth_at (G : Gok E) {w : Wd} {H : Hp} {m : Mm} {k f Ci : Nat} {cd : CD} {d : D} {x : V} (M : Mem E.g w H m) (r : Rv E.g w d x) (ec : clsD m d = some Ci) (ecd : E.p.cls[Ci]? = some cd) (ef : cd.meths.lookup k = some f) : MethAt E k f d x H := by
  obtain ⟨hcl, _⟩ := G.cls Ci (G.ncl Ci cd ecd)
  obtain ⟨fa, hme, hF⟩ := G.mth Ci cd k f ecd ef
  cases r with
  | ins hc hi rf =>
    simp only [clsD] at ec
    cases ec
    exact ⟨_, _, _, _, fa, rfl, M.fr _ _ hi, rf.none G.inj fun a => G.mat a k, hcl, hme, hF⟩
  | ref n hn =>
    simp only [clsD] at ec
    split at ec
    · rename_i C' fs' em
      cases ec
      obtain ⟨_, dx, fvs, h1', rf⟩ := M.ob _ _ em
      exact ⟨_, _, dx, fvs, fa, rfl, h1', rf.none G.inj fun a => G.mat a k, hcl, hme, hF⟩
    · cases ec
  | _ => simp [clsD] at ec
/-- the receiver, then what follows -/
theorem meth_pre (G : Gok E) {k : Nat} {o : ME} {eo : Expr} {apos : Pos} {es : List ME} {ees : List Expr} (hso : notSuper eo = true) (hs : notStars ees = true) (hl : ees.length < 30) (hp : (apos.endLine == pos.line) = true) (ho : JE E N sc o eo)
    {X : Cx} {W : WX} (C : Cok E N sc X) (tk : Takes X W) {pins : List (Addr × Obj)} {s : Shared} {σ : L2.St} {H : Hp} {Q : VK} (I : Inv X pins σ H s) (hh : rdE E W (.meth o k es) σ H Q)
    (cont : ∀ w1 sl m1 d H1 s1 p f fa (fd : FuncData) (ps : List Str), Inv X pins σ H1 s1 → Mem E.g w1 H1 m1 → Slr E.g w1 sl σ → Rv E.g w1 d (.ref p) → Binds X.K fd ps [] → FnOk X.prog X.w X.K X.mg X.base (L2.CX X.prog X.w) E.lv fa fd ps (spR E f) → PySem.W.keepIn X.K (.ref fa) = true →
      PostE E.g w1 (xwOf W σ) Q ((evalEs E.p E.c es sl m1).bind fun xs h => E.c f (d :: xs) h) →
      wpAny (model X.prog X.w) X.A (callWith pos (.ref fa) [.ref p] (backTo pos (starEach ees X.env)) (backToKw pos (keywordEach [] X.env))) (EP X pins σ Q) X.xe s1) :
    wpAny (model X.prog X.w) X.A (eval (.Call (.Attribute eo (E.cf.mnm k) apos) ees [] pos) X.env) (EP X pins σ Q) X.xe s := by
  obtain ⟨w, sl, m, M, S, hh⟩ := hh
  unfold evalE at hh
  have first : rdE E W o σ H fun x H1 => ∃ w1 m1 d f, Mem E.g w1 H1 m1 ∧ Slr E.g w1 sl σ ∧ Rv E.g w1 d x ∧ MethAt E k f d x H1 ∧ PostE E.g w1 (xwOf W σ) Q ((evalEs E.p E.c es sl m1).bind fun xs h => E.c f (d :: xs) h) :=
    rd_bind M S hh fun d m1 w1 v H1 le1 M1 S1 r1 h1 => by
      split at h1
      · rename_i Ci ec
        split at h1
        · rename_i cd ecd
          split at h1
          · rename_i f ef
            exact ⟨w1, m1, d, f, M1, S1, r1, meth_at G M1 r1 ec ecd ef, h1⟩
          · exact absurd h1 id
        · exact absurd h1 id
      · exact absurd h1 id
  refine PySem.W.methodCall_KW (thn ((ho X W C tk).run pins s σ H _ I first) fun u s1 ⟨x, H1, I1, rx, w1, m1, d, f, M1, S1, r1, ma, h1⟩ => ?_) (meth_tree hso hs hl hp)
  obtain ⟨Ci, p, dx, fvs, fa, rfl, hpi, hlk, hcl, hme, hF⟩ := ma
  cases rx
  obtain ⟨fd, ps, hb, F⟩ := C.fn hF
  refine getmeth_ok I1 hpi (by rw [C.K]; exact hcl) (by rw [C.K]; exact hme) hlk ?_
  exact cont w1 sl m1 d H1 s1 p f fa fd ps I1 M1 S1 r1 hb F (by rw [C.K]; exact hme.kp) h1
theorem je_meth0 (G : Gok E) {k : Nat} {o : ME} {eo : Expr} {apos : Pos} (hso : notSuper eo = true) (hp : (apos.endLine == pos.line) = true) (ho : JE E N sc o eo) :
    JE E N sc (.meth o k []) (.Call (.Attribute eo (E.cf.mnm k) apos) [] [] pos) := fun X W C tk => ⟨fun pins s σ H Q I hh =>
  meth_pre G hso rfl (by decide) hp ho C tk I hh fun w1 sl m1 d H1 s1 p f fa fd ps I1 M1 S1 r1 hb F hk h1 => by
    unfold evalEs at h1
    exact PySem.W.callWith_K0 (first := [.ref p]) I1.kIn hk (run_fnS (us := [.ref p]) (vs := [.ref p]) (E := fun σ => xwOf W σ) F (C.room.mono (Nat.le_succ _)) hb (passAt tk σ) I1 (.cons rfl .nil) ⟨w1, m1, [d], M1, .cons r1 .nil, h1⟩)⟩
theorem je_meth (G : Gok E) {k : Nat} {o : ME} {eo e0 : Expr} {apos : Pos} {es : List ME} {ees : List Expr} (hso : notSuper eo = true) (hs : notStars (e0 :: ees) = true) (hl : (e0 :: ees).length < 30) (hp : (apos.endLine == pos.line) = true) (ho : JE E N sc o eo) (h : JEs E N sc es (e0 :: ees)) :
    JE E N sc (.meth o k es) (.Call (.Attribute eo (E.cf.mnm k) apos) (e0 :: ees) [] pos) := fun X W C tk => ⟨fun pins s σ H Q I hh =>
  meth_pre G hso hs hl hp ho C tk I hh fun w1 sl m1 d H1 s1 p f fa fd ps I1 M1 S1 r1 hb F hk h1 =>
    call_args (first := [.ref p]) I1 hk hs (h X W C tk) (rd_bind M1 S1 h1 fun ds m2 w2 vs H2 le2 M2 S2 r2 h2 => fun us s2 I2 rv =>
      run_fnS (us := .ref p :: us) (vs := .ref p :: vs) (E := fun σ => xwOf W σ) F (C.room.mono (Nat.le_succ _)) hb (passAt tk σ) I2 (.cons rfl rv) ⟨w2, m2, d :: ds, M2, .cons (r1.mono le2) r2, h2⟩)⟩

/-! ### classes -/
theorem make_run {X : Cx} {W : WX} {k : Nat} {f C : Addr} {fd : FuncData} {ps : List Str} {sp : Sp} {pins : List (Addr × Obj)} {σ : L2.St} {H : Hp} {s : Shared} {Q : VK} {us : List Value} {vs : List V} (M : Mk X.K C f)
    (F : FnOk X.prog X.w X.K X.mg X.base (L2.CX X.prog X.w) k f fd ps sp) (hr : Room (k + 1) X.A) (hb : Binds X.K fd ps []) (tk : Takes X W) (I : Inv X pins σ H s) (r : Vals vs us)
    (h : ∀ x dx, H x = none → H dx = none → dx ≠ x → sp (.ref x :: vs) (upd (upd H dx (.own x)) x (.ins C dx [])) (fun v H2 => v = .non ∧ Q (.ref x) H2) (xwOf W σ)) :
    wpAny (model X.prog X.w) X.A (call (.ref C) us) (EP X pins σ Q) X.xe s := by
  generalize hn : s.heap.objs.size = n at h
  have I2 := Inv.made (C := C) I
  rw [hn] at I2
  have hq := h (n + 1) n (I.hok.fresh (by rw [hn]; exact Nat.le_succ _)) (I.hok.fresh (by rw [hn]; exact Nat.le_refl _)) (Nat.ne_of_lt (Nat.lt_succ_self _))
  have r2 : Vals (V.ref (n + 1) :: vs) (Value.ref (n + 1) :: us) := .cons rfl r
  have len : (Value.ref (n + 1) :: us ++ []).length = ps.length := by
    rw [List.append_nil, ← r2.length]; exact F.len _ _ _ _ hq
  have bnd := fun s' (K : X.K.In s'.heap) => hb s' (Value.ref (n + 1) :: us) K len
  refine wpAny_call (make_map (f := f) I.kIn M.makes M.init (beq_iff_eq.mp M.fn) ?_)
  rw [hn]
  refine codeAny_mono (F.run _ X.stack _ _ ⟨Value.ref (n + 1) :: us, []⟩ (Value.ref (n + 1) :: us) _ _ _ (hr.make C us []) (I2.env0.make C us []) (by have z := bnd _ I2.kIn; rw [List.append_nil] at z; exact z) r2 hq) fun r s' hq' => ?_
  cases r with
  | error e => exact passAt tk σ pins _ _ e s' I2 hq'
  | ok fl =>
    cases fl with
    | ret u =>
      obtain ⟨v, H', I3, rv, ev, q3⟩ := I2.after hq'
      subst ev
      exact ⟨rv, ⟨V.ref (n + 1), H', I3, rfl, q3⟩⟩
    | _ => exact hq'.elim
/-- a new instance's place, then its __init__ -/
theorem make_sp (G : Gok E) {Ci f : Nat} {d : D} {w : Wd} {H : Hp} {m : Mm} {ds : List D} {vs : List V} {xw : XW} {Q : VK} (hC : Ci < E.g.ncls) (M : Mem E.g w H m) (r : Rvs E.g w ds vs)
    (h : PostE E.g w xw Q ((E.c f (.ref m.length :: ds) (m ++ [.ins Ci []])).bind fun r h' => match r with | .non => .ok (.ref m.length) h' | _ => .bad)) :
    ∀ x dx, H x = none → H dx = none → dx ≠ x → spR E f (.ref x :: vs) (upd (upd H dx (.own x)) x (.ins (E.g.cad Ci) dx [])) (fun v H2 => v = .non ∧ Q (.ref x) H2) xw := by
  intro x dx hx hdx hne
  -- the own dict stands beside, for good
  obtain ⟨le1, M1⟩ := M.laid (p := dx) (o := .own x) hdx
  have hx1 : upd H dx (.own x) x = none := by rw [upd_ne (Ne.symm hne)]; exact hx
  have hob : ObR E.g ((w.fz dx (.own x)).one x) (upd (upd H dx (.own x)) x (.ins (E.g.cad Ci) dx [])) (w.fz dx (.own x)).len (.ins Ci []) := ⟨hC, dx, [], by
    show upd (upd H dx (.own x)) x _ (if w.len = w.len then x else w.ρ w.len) = _
    rw [if_pos rfl, upd_same], .nil⟩
  obtain ⟨le2, M2⟩ := M1.new hx1 hob
  have rr : Rv E.g ((w.fz dx (.own x)).one x) (.ref w.len) (.ref x) := by
    have z := Rv.ref (g := E.g) (w := (w.fz dx (.own x)).one x) w.len (Nat.lt_succ_self _)
    have e : ((w.fz dx (.own x)).one x).ρ w.len = x := if_pos rfl
    rw [e] at z; exact z
  have le := le1.trans le2
  rw [← M.len] at h
  refine ⟨(w.fz dx (.own x)).one x, m ++ [.ins Ci []], .ref w.len :: ds, M2, .cons rr (r.mono le), Post.bind (Post.mono le h) fun d m' _ w' v H' le' M' rv q => ?_⟩
  split at q
  · cases rv
    refine ⟨rfl, q w' (.ref x) H' (Wd.le.refl _) M' ?_⟩
    exact rr.mono le'
  · exact absurd q id
theorem je_make (G : Gok E) {Ci : Nat} {cd : CD} {x : Str} {p : Pos} {es : List ME} {e0 : Expr} {ees : List Expr} (hcd : E.p.cls[Ci]? = some cd) (hf : E.cf.cnm Ci = some x) (hg : glB sc x = true) (hn : nmOk x = true) (hs : notStars (e0 :: ees) = true) (h : JEs E N sc es (e0 :: ees)) :
    JE E N sc (.make Ci es) (.Call (.Name x p) (e0 :: ees) [] pos) := fun X W C tk => by
  obtain ⟨fa, hm, hk, hF⟩ := G.mkc Ci cd x hcd hf
  obtain ⟨fd, ps, hb, F⟩ := C.fn hF
  refine ⟨fun pins s σ H Q I hh => ?_⟩
  obtain ⟨w, sl, m, M, S, hh⟩ := hh
  unfold evalE at hh
  refine wpAny_Call_Name_kw (ld_glob I (C.gl hg) (by rw [C.mg]; exact hm) ?_ (nmOk_of hn).1)
  refine call_args (first := []) I (by rw [C.K]; exact hk.kp) hs (h X W C tk) (rd_bind M S hh fun ds m2 w2 vs H2 le2 M2 S2 r2 h2 => fun us s2 I2 rv => ?_)
  rw [hcd] at h2
  exact make_run (by rw [C.K]; exact hk) F C.room hb tk I2 rv (make_sp G (d := .non) (G.ncl Ci cd hcd) M2 r2 h2)
theorem je_make0 (G : Gok E) {Ci : Nat} {cd : CD} {x : Str} {p : Pos} (hcd : E.p.cls[Ci]? = some cd) (hf : E.cf.cnm Ci = some x) (hg : glB sc x = true) (hn : nmOk x = true) :
    JE E N sc (.make Ci []) (.Call (.Name x p) [] [] pos) := fun X W C tk => by
  obtain ⟨fa, hm, hk, hF⟩ := G.mkc Ci cd x hcd hf
  obtain ⟨fd, ps, hb, F⟩ := C.fn hF
  refine ⟨fun pins s σ H Q I hh => ?_⟩
  obtain ⟨w, sl, m, M, S, hh⟩ := hh
  unfold evalE evalEs at hh
  rw [Res.bind_ok, hcd] at hh
  refine wpAny_Call_Name_kw (ld_glob I (C.gl hg) (by rw [C.mg]; exact hm) ?_ (nmOk_of hn).1)
  exact PySem.W.callWith_K0 (first := []) I.kIn (by rw [C.K]; exact hk.kp) (make_run (us := []) (by rw [C.K]; exact hk) F C.room hb tk I .nil (make_sp G (d := .non) (G.ncl Ci cd hcd) M .nil hh))

/-! ### built-in functions and types -/
theorem je_blt (G : Gok E) {b : Bt} {obj : Bool} {p : Pos} {es : List ME} {e0 : Expr} {ees : List Expr} (hg : glB sc b.nm = true) (hs : notStars (e0 :: ees) = true) (h : JEs E N sc es (e0 :: ees)) :
    JE E N sc (.blt b obj es) (.Call (.Name b.nm p) (e0 :: ees) [] pos) := fun X W C tk => by
  have hs2 : notStar e0 = true ∧ notStars ees = true := by
    unfold notStars at hs ⊢
    simpa [List.all_cons, Bool.and_eq_true] using hs
  have hm : X.mg b.nm = none := by rw [C.mg]; exact G.blt b
  have n1 : b.nm ≠ "__name__" := by cases b <;> decide +kernel
  have n2 : (b.nm == ("__debug__" : Str)) = false := by cases b <;> decide +kernel
  have rd : ∀ (σ : L2.St) (H : Hp) (Q : VK), rdE E W (.blt b obj es) σ H Q → tCB (rBlt E.g b obj) (rdEs E W es) σ H Q := fun σ H Q hh => by
    obtain ⟨w, sl, m, M, S, hh⟩ := hh
    unfold evalE at hh
    exact rd_bind M S hh fun ds m2 w2 vs H2 le2 M2 S2 r2 h2 => ⟨w2, m2, ds, _, M2, r2, h2⟩
  have hc := call_blt (X := X) (g := E.g) C.K C.calm b obj
  by_cases ty : b.isTy = true
  · obtain ⟨T, eT⟩ : ∃ T, b.val = .type T := by cases b <;> first | exact ⟨_, rfl⟩ | cases ty
    rw [eT] at hc
    exact PE.imp (pe_callTy hc (C.gl hg) hm (by rw [b.boot, eT]) (h X W C tk) n1 n2 (starEach_of hs2.1) (plain_of hs2.2)) rd
  · obtain ⟨T, eT⟩ : ∃ T, b.val = .builtin T := by cases b <;> first | exact ⟨_, rfl⟩ | exact absurd rfl ty
    rw [eT] at hc
    exact PE.imp (pe_callB hc (C.gl hg) hm (by rw [b.boot, eT]) (h X W C tk) n1 n2 (starEach_of hs2.1) (plain_of hs2.2)) rd

/-! ### methods of lists -/
theorem je_bm {b : Bm} {obj : Bool} {o : ME} {eo : Expr} {apos : Pos} {es : List ME} {e0 : Expr} {ees : List Expr} (hso : notSuper eo = true) (hs : notStars (e0 :: ees) = true) (hl : (e0 :: ees).length < 30) (hp : (apos.endLine == pos.line) = true) (ho : JE E N sc o eo) (h : JEs E N sc es (e0 :: ees)) :
    JE E N sc (.bm b obj o es) (.Call (.Attribute eo b.nm apos) (e0 :: ees) [] pos) := fun X W C tk => by
  have hs2 : notStar e0 = true ∧ notStars ees = true := by
    unfold notStars at hs ⊢
    simpa [List.all_cons, Bool.and_eq_true] using hs
  have few := few_of (env := X.env) (pos := pos) hs hl
  have slot : Slot b.ty b.nm b.id := by
    cases b with
    | append => exact PySem.F.slot_list_append
    | index => exact PySem.F.slot_list_index
    | extend => exact PySem.F.slot_list_extend
    | insert => exact PySem.F.slot_list_insert
    | join => exact PySem.F.slot_str_join
    | sindex => exact PySem.F.slot_str_index
  have pa : PlainAttrs b.ty := by
    cases b with
    | join => exact PySem.F.plainAttrs_str
    | sindex => exact PySem.F.plainAttrs_str
    | _ => exact PySem.F.plainAttrs_list
  have ty : typeOf (.builtin b.id) = pure (.type "method_descriptor") := by
    cases b with
    | append => exact PySem.F.type_list_append
    | index => exact PySem.F.type_list_index
    | extend => exact PySem.F.type_list_extend
    | insert => exact PySem.F.type_list_insert
    | join => exact PySem.F.type_str_join
    | sindex => exact PySem.F.type_str_index
  refine PE.imp (pe_bm pa slot ty (mt_bm (X := X) (g := E.g) C.K b obj) (ho X W C tk) (h X W C tk) (base_of hso) few hp (starEach_of hs2.1) (plain_of hs2.2)) fun σ H Q hh => ?_
  obtain ⟨w, sl, m, M, S, hh⟩ := hh
  unfold evalE at hh
  refine rd_bind M S hh fun d m1 w1 v H1 le1 M1 S1 r1 h1 => ?_
  by_cases ht : bmTy b m1 d = true
  · rw [if_pos ht] at h1
    refine ⟨?_, rd_bind M1 S1 h1 fun ds m2 w2 vs H2 le2 M2 S2 r2 h2 => ⟨w2, m2, d, ds, _, M2, r1.mono le2, r2, h2⟩⟩
    rw [C.K]
    have ls : (lstOf m1 d).isSome = true → tyV E.g.K "list" v H1 := fun ht => by
      obtain ⟨xs, e⟩ := Option.isSome_iff_exists.mp ht
      obtain ⟨p, us, rfl, hq, _⟩ := lstOf_rel M1 r1 e
      exact .inl ⟨rfl, us, hq⟩
    cases b with
    | append => exact ls ht
    | index => exact ls ht
    | extend => exact ls ht
    | insert => exact ls ht
    | join =>
      unfold bmTy at ht
      dsimp only at ht
      split at ht
      · cases r1; rfl
      · cases ht
    | sindex =>
      unfold bmTy at ht
      dsimp only at ht
      split at ht
      · cases r1; rfl
      · cases ht
  · rw [if_neg ht] at h1
    exact absurd h1 id
/-! ### fields -/
/-- an instance as it stands -/
theorem inst_at {w : Wd} {H : Hp} {m : Mm} {d : D} {x : V} {f : Nat} {y : D} (G : Gok E) (M : Mem E.g w H m) (r : Rv E.g w d x) (e : fldD m f d = some y) :
    ∃ p Ci dx fvs v, x = .ref p ∧ H p = some (.ins (E.g.cad Ci) dx fvs) ∧ Ci < E.g.ncls ∧ fvs.lookup (E.g.att f) = some v ∧ Rv E.g w y v ∧ clsD m d = some Ci := by
  cases r with
  | ins hc hi rf =>
    simp only [fldD] at e
    obtain ⟨v, h1, h2⟩ := rf.look G.inj e
    exact ⟨_, _, _, _, v, rfl, M.fr _ _ hi, hc, h1, h2, rfl⟩
  | ref n hn =>
    simp only [fldD] at e
    split at e
    · rename_i C' fs' em
      obtain ⟨hc, dx, fvs, h1', rf⟩ := M.ob _ _ em
      obtain ⟨v, h1, h2⟩ := rf.look G.inj e
      exact ⟨_, _, _, _, v, rfl, h1', hc, h1, h2, by simp only [clsD, em]⟩
    · cases e
  | _ => simp [fldD] at e
theorem je_fld (G : Gok E) {o : ME} {eo : Expr} {f : Nat} (hso : notSuper eo = true) (hf : f < E.cf.natt) (ho : JE E N sc o eo) : JE E N sc (.fld o f) (.Attribute eo (E.g.att f) pos) := fun X W C tk => by
  refine PE.imp (pe_fld (ho X W C tk) (base_of hso)) fun σ H Q hh => ?_
  obtain ⟨w, sl, m, M, S, hh⟩ := hh
  unfold evalE at hh
  refine rd_bind M S hh fun d m1 w1 v H1 le1 M1 S1 r1 h1 => ?_
  split at h1
  · rename_i y ey
    obtain ⟨p, Ci, dx, fvs, u, rfl, h2, hc, h3, h4, _⟩ := inst_at G M1 r1 ey
    obtain ⟨c1, c2⟩ := G.cls Ci hc
    exact ⟨p, _, dx, fvs, u, rfl, h2, by rw [C.K]; exact c1, by rw [C.K]; exact c2 f hf, h3, ok_same h1 M1 h4⟩
  · exact absurd h1 id

/-! ### isinstance -/
theorem tyN_rel {g : Gm} {w : Wd} {H : Hp} {m : Mm} {d : D} {v : V} {n : String} (M : Mem g w H m) (r : Rv g w d v) (e : tyN m d = some n) : TyX g.K H v (.type n) := by
  cases r with
  | non => cases e; exact .base .non
  | bl b => cases e; exact .base (.bl b)
  | int i => cases e; exact .base (.int i)
  | str x => cases e; exact .base (.str x)
  | tup h r =>
    cases e
    rcases h with (h | ⟨o, h⟩) | ⟨o, its, k, h1, h2, _⟩
    · exact .base (.tup (M.fr _ _ h))
    · exact .fTuple (M.fr _ _ h)
    · exact .kTuple h1 h2
  | lst h r => cases e; exact .base (.lst (M.fr _ _ h))
  | scr h r =>
    cases e
    rcases h with (h | ⟨o, h⟩) | ⟨o, its, k, h1, h2, _⟩
    · exact .base (.lst (M.fr _ _ h))
    · exact .base (.frz (M.fr _ _ h))
    · exact .kList h1 h2
  | dct h r => cases e; exact .base (.dK (M.fr _ _ h))
  | ins hc h r => cases e
  | ref k hk =>
    simp only [tyN] at e
    split at e
    · rename_i xs en
      cases e
      obtain ⟨vs, hv, _⟩ := M.ob k _ en
      exact .base (.lst hv)
    · rename_i xs en
      cases e
      obtain ⟨vs, hv, _⟩ := M.ob k _ en
      exact .base (.dK hv)
    · cases e
theorem tyN_in {m : Mm} {d : D} {n : String} (e : tyN m d = some n) : n ∈ ["NoneType", "bool", "int", "str", "tuple", "list", "dict"] := by
  cases d <;> simp only [tyN] at e <;> first
    | (cases e; decide)
    | (cases e; done)
    | (split at e <;> first | (cases e; decide) | cases e)
theorem isi_kit (t : Ty) (n : String) (h : n ∈ ["NoneType", "bool", "int", "str", "tuple", "list", "dict"]) : kitB n t.nm = some (isiB t n) := by
  simp only [List.mem_cons, List.not_mem_nil, or_false] at h
  rcases h with rfl | rfl | rfl | rfl | rfl | rfl | rfl <;> cases t <;> decide +kernel
theorem ty_boot (t : Ty) : bootBuiltins (Str.ofString t.nm) = some (.type t.nm) := by cases t <;> decide +kernel
theorem je_isi (G : Gok E) {t : Ty} {p p2 : Pos} (ha : JE E N sc a ea) (hs : notStar ea = true) (hg : glB sc "isinstance" = true) (hg2 : glB sc (Str.ofString t.nm) = true) :
    JE E N sc (.isi t a) (.Call (.Name "isinstance" p) [ea, .Name (Str.ofString t.nm) p2] [] pos) := fun X W C tk => by
  have hm : X.mg "isinstance" = none := by rw [C.mg]; exact G.isi
  have hm2 : X.mg (Str.ofString t.nm) = none := by
    rw [C.mg]
    cases t with
    | int_ => exact G.blt .int_
    | bool_ => exact G.bool
    | str_ => exact G.blt .str_
    | tup_ => exact G.blt .tuple_
    | lst_ => exact G.blt .list_
  have pt : PE X (.Name (Str.ofString t.nm) p2) (tC (.ty t.nm)) := pe_bltn (gl_of (by rw [C.sc]; exact hg2)) hm2 (ty_boot t) (show RelV (.ty t.nm) (.type t.nm) from rfl) (by cases t <;> decide +kernel) (by cases t <;> decide +kernel)
  refine PE.imp (pe_callB call_isi (gl_of (by rw [C.sc]; exact hg)) hm (by decide +kernel) (pa_cons (hs := starEach_of hs) (ha X W C tk) (pa_cons pt pa_nil)) (by decide +kernel) (by decide +kernel) (starEach_of hs) (plain_of (by unfold notStars; simp only [List.all_cons, hs, List.all_nil, Bool.and_true]; rfl))) fun σ H Q h => ?_
  obtain ⟨w, sl, m, M, S, h⟩ := h
  unfold evalE at h
  refine rd_bind M S h fun d m1 w1 v H1 le1 M1 S1 r1 h1 => ?_
  split at h1
  · rename_i n en
    exact ⟨v, .ty t.nm, _, _, isiB t n, rfl, .ty _, by rw [C.K]; exact tyN_rel M1 r1 en, kit_ty (isi_kit t n (tyN_in en)), ok_same h1 M1 (.bl _)⟩
  · exact absurd h1 id

/-! ### a module's constants; chained comparisons -/
theorem je_isit (G : Gok E) {t u : Ty} {p p2 p3 p4 : Pos} {kk : Nat} (ha : JE E N sc a ea) (hs : notStar ea = true) (hg : glB sc "isinstance" = true) (hg2 : glB sc (Str.ofString t.nm) = true) (hg3 : glB sc (Str.ofString u.nm) = true) :
    JE E N sc (.isit t u a) (.Call (.Name "isinstance" p) [ea, .Tuple [.Name (Str.ofString t.nm) p2, .Name (Str.ofString u.nm) p3] kk p4] [] pos) := fun X W C tk => by
  have hm : X.mg "isinstance" = none := by rw [C.mg]; exact G.isi
  have hm2 : ∀ t : Ty, X.mg (Str.ofString t.nm) = none := fun t => by
    rw [C.mg]
    cases t with
    | int_ => exact G.blt .int_
    | bool_ => exact G.bool
    | str_ => exact G.blt .str_
    | tup_ => exact G.blt .tuple_
    | lst_ => exact G.blt .list_
  have pt : ∀ (t : Ty) (p2 : Pos), glB sc (Str.ofString t.nm) = true → PE X (.Name (Str.ofString t.nm) p2) (tC (.ty t.nm)) := fun t p2 hg2 => pe_bltn (gl_of (by rw [C.sc]; exact hg2)) (hm2 t) (ty_boot t) (show RelV (.ty t.nm) (.type t.nm) from rfl) (by cases t <;> decide +kernel) (by cases t <;> decide +kernel)
  refine PE.imp (pe_callB call_isiT (gl_of (by rw [C.sc]; exact hg)) hm (by decide +kernel) (pa_cons (hs := starEach_of hs) (ha X W C tk) (pa_cons (pe_tup (pa_cons (pt t p2 hg2) (pa_cons (pt u p3 hg3) pa_nil))) pa_nil)) (by decide +kernel) (by decide +kernel) (starEach_of hs) (plain_of (by unfold notStars; simp only [List.all_cons, hs, List.all_nil, Bool.and_true]; rfl))) fun σ H Q h => ?_
  obtain ⟨w, sl, m, M, S, h⟩ := h
  unfold evalE at h
  refine rd_bind M S h fun d m1 w1 v H1 le1 M1 S1 r1 h1 => ?_
  split at h1
  · rename_i n en
    refine ⟨by show 2 ≤ sizeLine; rw [sizeLine_eq]; decide, fun q hq => ?_⟩
    obtain ⟨le2, M2⟩ := M1.laid (p := q) (o := .tup [.ty t.nm, .ty u.nm]) hq
    refine ⟨v, q, _, _, [.type t.nm, .type u.nm], isiB t n || isiB u n, rfl, upd_same, .cons (.ty _) (.cons (.ty _) .nil), by rw [C.K]; exact tyN_rel M2 (r1.mono le2) en, ?_, h1 _ _ _ le2 M2 (.bl _)⟩
    have k1 := kit_ty (K := X.K) (isi_kit t n (tyN_in en))
    have k2 := kit_ty (K := X.K) (isi_kit u n (tyN_in en))
    refine kitAny_cons k1 (r := isiB t n || isiB u n) (fun e => ?_) (fun e => by rw [e]; rfl)
    rw [e, Bool.false_or]
    exact kitAny_cons k2 (r := isiB u n) (fun e => by rw [e]; rfl) (fun e => e)
  · exact absurd h1 id
theorem je_glb (G : Gok E) {i : Nat} {x : Str} {k : D} (h1 : E.cf.ctl[i]? = some (some x)) (h2 : E.p.cns[i]? = some k) (hg : glB sc x = true) (hd : nmOk x = true) : JE E N sc (.glb i) (.Name x pos) := fun X W C tk => by
  obtain ⟨u, e1, e2⟩ := G.con i x k h1 h2
  obtain ⟨v, e2, rv⟩ := e2.rv
  refine PE.imp (pe_glob (gl_of (by rw [C.sc]; exact hg)) (by rw [C.mg]; exact e1) e2 (nmOk_of hd).1) fun σ H Q h => ?_
  obtain ⟨w, sl, m, M, S, h⟩ := h
  unfold evalE at h
  rw [h2] at h
  exact ok_same h M (rv w)
/-- a constant list + e -/
def rKcat (g : Gm) (xs : List V) (k : Addr) : R2 := fun x y H Q => ∃ b zs, x = .ref k ∧ y = .ref b ∧ H b = some (.lst zs) ∧ xs.length + zs.length ≤ sizeLine ∧ ∀ p, H p = none → Q (.ref p) (upd H p (.lst (xs ++ zs)))
theorem op_kcat {X : Cx} {g : Gm} {xs : List V} {k : Addr} {its : Array Value} {n : Nat} (hk : X.K.lookup k = some { cls := .type "list", data := .seq its n }) (hz : its.size ≤ sizeLine) (r : Vals xs its.toList) : OpR X (binaryOp .Add) (rKcat g xs k) := by
  intro pins s σ H x y v u Q I rx ry h
  obtain ⟨b, zs, rfl, rfl, hB, hl0, q⟩ := h
  cases rx
  cases ry
  have e := I.kIn k _ hk
  obtain ⟨z2, its2, n2, r2, hl2, e2⟩ := I.lstM hB
  have hl := r.length
  refine PySem.P.add_list e e2 ?_ (by simp only [List.size_toArray, Array.length_toList] at hl ⊢; omega)
  have ea : its ++ its2.toArray = (its.toList ++ its2).toArray := by simp
  rw [ea]
  exact ⟨.ref _, _, I.lnew (t' := s.toks) (r.append r2) (by rw [List.length_append]; omega), rfl, q _ I.fresh⟩
theorem je_kcat (G : Gok E) {i : Nat} {obj : Bool} {x : Str} {xs : List D} {p : Pos} (h1 : E.cf.ctl[i]? = some (some x)) (h2 : E.p.cns[i]? = some (.scr xs)) (hg : glB sc x = true) (hd : nmOk x = true) (ha : JE E N sc a ea) :
    JE E N sc (.kcat i obj a) (.BinOp (.Name x p) .Add ea pos) := fun X W C tk => by
  obtain ⟨u, e1, e2⟩ := G.con i x _ h1 h2
  obtain ⟨a0, its, n, vs, rfl, hk, hz, r, f⟩ := e2
  refine PE.imp (pe_op (op_kcat (g := E.g) (by rw [C.K]; exact hk) hz r) (pe_glob (v := .ref a0) (gl_of (by rw [C.sc]; exact hg)) (by rw [C.mg]; exact e1) rfl (nmOk_of hd).1) (ha X W C tk)) fun σ H Q h => ?_
  obtain ⟨w, sl, m, M, S, h⟩ := h
  unfold evalE at h
  show rdE E W a σ H _
  refine rd_bind M S h fun d m1 w1 v H1 le1 M1 S1 r1 h1 => ?_
  rw [h2] at h1
  split at h1
  · rename_i zs ys e3 e4
    cases e3
    obtain ⟨b, us, rfl, hb, rb⟩ := lstW_rel M1 r1 e4
    obtain ⟨hz2, kk⟩ := mkL_post h1 M1 ((f.rv (w := w1)).append rb)
    exact ⟨b, us, rfl, rfl, hb, by rw [List.length_append] at hz2; exact hz2, kk⟩
  · exact absurd h1 id
theorem je_kidx (G : Gok E) {i : Nat} {x : Str} {xs : List D} {p apos : Pos} (h1 : E.cf.ctl[i]? = some (some x)) (h2 : E.p.cns[i]? = some (.tup xs)) (hg : glB sc x = true) (hd : nmOk x = true) (hs : notStar ea = true) (hp : (apos.endLine == pos.line) = true) (ha : JE E N sc a ea) :
    JE E N sc (.kidx i a) (.Call (.Attribute (.Name x p) "index" apos) [ea] [] pos) := fun X W C tk => by
  obtain ⟨u, e1, e2⟩ := G.con i x _ h1 h2
  obtain ⟨a0, od, its, n, slo, vs, rfl, hk, rfl, hz, r, f⟩ := e2
  have hs2 : notStars [ea] = true := by unfold notStars; simp [hs]
  refine PE.imp (pe_bm PySem.F.plainAttrs_tuple PySem.F.slot_tuple_index PySem.F.type_tuple_index mt_tup_index (pe_glob (v := .ref a0) (gl_of (by rw [C.sc]; exact hg)) (by rw [C.mg]; exact e1) rfl (nmOk_of hd).1)
    (pa_cons (hs := starEach_of hs) (ha X W C tk) pa_nil) (base_of rfl) (few_of hs2 (by simp)) hp (starEach_of hs) (plain_of rfl)) fun σ H Q h => ?_
  obtain ⟨w, sl, m, M, S, h⟩ := h
  unfold evalE at h
  have hkx : X.K.lookup a0 = some ⟨.type "tuple", none, .seq its n, slo⟩ := by rw [C.K]; exact hk
  refine ⟨.inr (.inl ⟨rfl, _, hkx, rfl, rfl⟩), ?_⟩
  show rdE E W a σ H _
  refine rd_bind M S h fun d m1 w1 v H1 le1 M1 S1 r1 h1 => ?_
  rw [h2] at h1
  split at h1
  · rename_i zs z e3
    cases e3
    cases r1
    split at h1
    · rename_i ns e4
      split at h1
      · rename_i k e5
        have ev := Rvs.strs (g := E.g) (w := w1) e4 f.rv
        obtain ⟨hkk, hb, hn⟩ := List.findIdx?_eq_some_iff_getElem.mp e5
        have hi : ns[k] = z := by simpa using hb
        refine ⟨a0, ns, z, k, rfl, rfl, .inr ⟨_, its, n, hkx, rfl, rfl, hz, by rw [← ev]; exact r⟩, by rw [List.getElem?_eq_getElem hkk, hi], fun j hj hz => ?_, ok_same h1 M1 (.int _)⟩
        have hjl : j < ns.length := Nat.lt_trans hj hkk
        rw [List.getElem?_eq_getElem hjl] at hz
        have := hn j hj
        rw [Option.some.inj hz] at this
        simp at this
      · exact absurd h1 id
    · exact absurd h1 id
  · exact absurd h1 id
theorem je_cmp2 {b' : ME} {c : ME} {ec : Expr} (ha : JE E N sc a ea) (hb : JE E N sc b' eb) (hc : JE E N sc c ec) (k l : Cm) : JE E N sc (.cmp2 k l a b' c) (.Compare ea [k.py, l.py] [eb, ec] pos) := fun X W C tk => by
  have hu : X.A.units + 64 < cLine := C.room.units
  refine PE.imp (pe_chain (op_cmp (g := E.g) hu C.K k) (op_cmp (g := E.g) hu C.K l) (ha X W C tk) (hb X W C tk) (hc X W C tk) (by cases k <;> cases l <;> exact nomark _ (by decide) (by decide))) fun σ H Q h => ?_
  obtain ⟨w, sl, m, M, S, h⟩ := h
  unfold evalE at h
  refine rd_bind M S h fun d m1 w1 v H1 le1 M1 S1 r1 h1 => ?_
  refine rd_bind M1 S1 h1 fun e m2 w2 u H2 le2 M2 S2 r2 h2 => ?_
  split at h2
  · rename_i ek
    refine ⟨w2, m2, d, e, true, M2, r1.mono le2, r2, ek, true, rfl, ?_⟩
    rw [if_pos rfl]
    refine rd_bind M2 S2 h2 fun f m3 w3 z H3 le3 M3 S3 r3 h3 => ?_
    split at h3
    · rename_i q eq
      exact ⟨w3, m3, e, f, q, M3, r2.mono le3, r3, eq, ok_same h3 M3 (.bl q)⟩
    · exact absurd h3 id
  · rename_i ek
    refine ⟨w2, m2, d, e, false, M2, r1.mono le2, r2, ek, false, rfl, ?_⟩
    rw [if_neg Bool.false_ne_true]
    exact ok_same h2 M2 (.bl false)
  · exact absurd h2 id
theorem cmp2_read {b' c : ME} {k l : Cm} {X : Cx} {W : WX} (hK : X.K = E.g.K) {ta tb tc : TE} (h1 : ∀ σ H Q, rdE E W a σ H Q → ta σ H Q) (h2 : ∀ σ H Q, rdE E W b' σ H Q → tb σ H Q) (h3 : ∀ σ H Q, rdE E W c σ H Q → tc σ H Q) (σ : L2.St) (H : Hp) (Q : VK) (h : rdE E W (.cmp2 k l a b' c) σ H Q) :
    tChain (rCmp E.g k) (rCmp E.g l) ta tb tc σ H Q := by
  obtain ⟨w, sl, m, M, S, h⟩ := h
  unfold evalE at h
  refine h1 _ _ _ (rd_bind M S h fun d m1 w1 v H1 le1 M1 S1 r1 h1 => ?_)
  refine h2 _ _ _ (rd_bind M1 S1 h1 fun e m2 w2 u H2 le2 M2 S2 r2 h2 => ?_)
  split at h2
  · rename_i ek
    refine ⟨w2, m2, d, e, true, M2, r1.mono le2, r2, ek, true, rfl, ?_⟩
    rw [if_pos rfl]
    refine h3 _ _ _ (rd_bind M2 S2 h2 fun f m3 w3 z H3 le3 M3 S3 r3 h3 => ?_)
    split at h3
    · rename_i q eq
      exact ⟨w3, m3, e, f, q, M3, r2.mono le3, r3, eq, ok_same h3 M3 (.bl q)⟩
    · exact absurd h3 id
  · rename_i ek
    refine ⟨w2, m2, d, e, false, M2, r1.mono le2, r2, ek, false, rfl, ?_⟩
    rw [if_neg Bool.false_ne_true]
    exact ok_same h2 M2 (.bl false)
  · exact absurd h2 id
theorem cmp2_bl {p : Pg} {cc : Calls} {b' c : ME} {k l : Cm} (sl : List (Option D)) (m : Mm) (d : D) (m1 : Mm) (h : evalE p cc (.cmp2 k l a b' c) sl m = .ok d m1) : ∃ q, d = .bl q := by
  unfold evalE at h
  cases q1 : evalE p cc a sl m with
  | bad => rw [q1] at h; cases h
  | exn C p m1 => rw [q1] at h; cases h
  | ok x m2 =>
    rw [q1, Res.bind_ok] at h
    cases q2 : evalE p cc b' sl m2 with
    | bad => rw [q2] at h; cases h
    | exn C p m1 => rw [q2] at h; cases h
    | ok y m3 =>
      rw [q2, Res.bind_ok] at h
      split at h
      · cases q3 : evalE p cc c sl m3 with
        | bad => rw [q3] at h; cases h
        | exn C p m1 => rw [q3] at h; cases h
        | ok z m4 =>
          rw [q3, Res.bind_ok] at h
          split at h
          · cases h; exact ⟨_, rfl⟩
          · cases h
      · cases h; exact ⟨_, rfl⟩
      · cases h
theorem jt_cmp2 {b' : ME} {c : ME} {ec : Expr} (ha : JE E N sc a ea) (hb : JE E N sc b' eb) (hc : JE E N sc c ec) (k l : Cm) : JT E N sc (.cmp2 k l a b' c) (.Compare ea [k.py, l.py] [eb, ec] pos) :=
  jt_of_bl (fun X W C tk => by
    have hu : X.A.units + 64 < cLine := C.room.units
    exact PT.imp (pt_chain (op_cmp (g := E.g) hu C.K k) (op_cmp (g := E.g) hu C.K l) (ha X W C tk) (hb X W C tk) (hc X W C tk) (by cases k <;> cases l <;> exact nomark _ (by decide) (by decide))) fun σ H Q h =>
      cmp2_read C.K (fun _ _ _ h => h) (fun _ _ _ h => h) (fun _ _ _ h => h) σ H _ h) cmp2_bl
/-! ### a written dict, looked up at once -/
def mKd : List Str → List Int → List (Option Expr) → List Expr → Bool
  | [], [], [], [] => true
  | k :: ks, v :: vs, some (.Constant (.str x) _ _) :: es, .Constant (.int i) _ _ :: fs => decide (k = x) && decide (v = i) && mKd ks vs es fs
  | _, _, _, _ => false
theorem kd_pps {X : Cx} {pos : Pos} : ∀ (ks : List Str) (vs : List Int) (es : List (Option Expr)) (fs : List Expr), mKd ks vs es fs = true →
    ∃ trs, PPs X pos es fs trs ∧ es.all (·.isSome) = true ∧ es.length = fs.length ∧ (kdL ks vs).length = es.length ∧ ∀ (σ : L2.St) (H : Hp) (Q : List (V × V) → Hp → Prop), Q ((kdL ks vs).map fun kv => (kV kv.1, kv.2)) H → tPairs trs σ H Q
  | [], vs, es, fs, h => by
    cases vs <;> cases es <;> cases fs <;> first | exact ⟨[], pps_nil, rfl, rfl, rfl, fun σ H Q q => q⟩ | (unfold mKd at h; cases h)
  | k :: ks, [], es, fs, h => by unfold mKd at h; cases h
  | k :: ks, v :: vs, [], fs, h => by unfold mKd at h; cases h
  | k :: ks, v :: vs, none :: es, fs, h => by unfold mKd at h; cases h
  | k :: ks, v :: vs, some e :: es, [], h => by cases e <;> first | (unfold mKd at h; cases h; done) | (rename_i c _ _; cases c <;> (unfold mKd at h; cases h))
  | k :: ks, v :: vs, some e :: es, f :: fs, h => by
    cases e <;> first | (unfold mKd at h; cases h; done) | skip
    rename_i c j1 p1
    cases c <;> first | (unfold mKd at h; cases h; done) | skip
    rename_i x
    cases f <;> first | (unfold mKd at h; cases h; done) | skip
    rename_i c2 j2 p2
    cases c2 <;> first | (unfold mKd at h; cases h; done) | skip
    rename_i i
    simp only [mKd, Bool.and_eq_true, decide_eq_true_eq] at h
    obtain ⟨⟨h1, h2⟩, h3⟩ := h
    subst h1 h2
    obtain ⟨trs, a1, a2, a3, a4, a5⟩ := kd_pps (X := X) (pos := pos) ks vs es fs h3
    exact ⟨_, pps_cons pe_str pe_int a1, by simpa using a2, by simp [a3], by simp [kdL, a4], fun σ H Q q => a5 σ H _ q⟩
theorem je_kd {ks : List Str} {vs : List Int} {es : List (Option Expr)} {fs : List Expr} {dp : Pos} (h : mKd ks vs es fs = true) (h0 : es.isEmpty = false) (h15 : es.length ≤ 15) (hp : noSlB ea = true) (ha : JE E N sc a ea) :
    JE E N sc (.kd ks vs a) (.Subscript (.Dict es fs dp) ea pos) := fun X W C tk => by
  have hu : X.A.units + 1 < cLine := by have : X.A.units + 64 < cLine := C.room.units; omega
  obtain ⟨trs, a1, a2, a3, a4, a5⟩ := kd_pps (X := X) (pos := dp) ks vs es fs h
  refine PE.imp (pe_dget hu (pe_disp a1 a2 a3 (fun z => by rw [z] at h0; cases h0) h15) (ha X W C tk) (noSl_of hp)) fun σ H Q h => ?_
  obtain ⟨w, sl, m, M, S, h⟩ := h
  unfold evalE at h
  intro p hp
  refine a5 _ _ _ ⟨upd_same, kdL ks vs, rfl, by rw [a4]; exact h15, ?_⟩
  rw [upd_upd]
  obtain ⟨le0, M0⟩ := M.beside (o := .dK (mergeK [] (kdL ks vs))) hp
  refine rd_bind M0 (S.mono le0) (Post.mono le0 h) fun d m1 w1 v H1 le1 M1 S1 r1 h1 => ?_
  split at h1
  · rename_i z
    split at h1
    · rename_i i e
      cases r1
      unfold kdAt at e
      split at e
      · rename_i j e2
        cases e
        have hd : H1 p = some (.dK (mergeK [] (kdL ks vs))) := M1.gr _ _ (le1.gr _ _ upd_same)
        exact ⟨p, .int i, rfl, by rw [← e2]; exact DGet.k (k := .inr z) hd, ok_same h1 M1 (.int i)⟩
      · cases e
    · exact absurd h1 id
  · exact absurd h1 id
/-! ### dicts -/
theorem je_dnew : JE E N sc .dnew (.Dict [] [] pos) := fun X W C tk => by
  refine PE.imp pe_dnewK fun σ H Q h => ?_
  obtain ⟨w, sl, m, M, S, h⟩ := h
  unfold evalE at h
  intro p hp
  obtain ⟨le, M'⟩ := M.new (p := p) (o := .dK []) (u := .dct []) hp ⟨[], by
    show upd H p (.dK []) (if w.len = w.len then p else w.ρ w.len) = _
    rw [if_pos rfl, upd_same], .nil⟩
  have q : Rv E.g (w.one p) (.ref w.len) (.ref (if w.len = w.len then p else w.ρ w.len)) := Rv.ref (w := w.one p) w.len (Nat.lt_succ_self _)
  rw [if_pos rfl] at q
  rw [← M.len] at h
  exact h _ (.ref p) _ le M' q
theorem isD_rel {g : Gm} {w : Wd} {H : Hp} {m : Mm} (M : Mem g w H m) {d : D} {v : V} (r : Rv g w d v) (e : (dctOf m d).isSome = true) : ∃ a, v = .ref a ∧ IsD H a := by
  obtain ⟨kvs, z⟩ := Option.isSome_iff_exists.mp e
  obtain ⟨a, kvs', rfl, h, _⟩ := dctOf_rel M r z
  exact ⟨a, rfl, .inl ⟨kvs', h⟩⟩
theorem m2_of {X : Cx} {o e f : Expr} {x : Str} {apos cpos : Pos} (hso : notSuper o = true) (h1 : notStar e = true) (h2 : notStar f = true) (hp : (apos.endLine == cpos.line) = true) : M2 X o x apos e f cpos where
  base := base_of hso
  few := few_of (by unfold notStars; simp [h1, h2]) (by simp)
  line := hp
  trees := by rw [starEach_of h1, starEach_of h2]; rfl
theorem je_dget2 {o i a : ME} {eo ei ea : Expr} {apos : Pos} (hso : notSuper eo = true) (h1 : notStar ei = true) (h2 : notStar ea = true) (hp : (apos.endLine == pos.line) = true) (ho : JE E N sc o eo) (hi : JE E N sc i ei) (ha : JE E N sc a ea) :
    JE E N sc (.dget2 o i a) (.Call (.Attribute eo "get" apos) [ei, ea] [] pos) := fun X W C tk => by
  refine PE.imp (pe_dget2 (by have : X.A.units + 64 < cLine := C.room.units; omega) (ho X W C tk) (hi X W C tk) (ha X W C tk) (m2_of hso h1 h2 hp)) fun σ H Q h => ?_
  obtain ⟨w, sl, m, M, S, h⟩ := h
  unfold evalE at h
  refine rd_bind M S h fun d m1 w1 v H1 le1 M1 S1 r1 h1 => ?_
  split at h1
  · rename_i hd
    obtain ⟨p, rfl, isd⟩ := isD_rel M1 r1 hd
    refine ⟨p, rfl, isd, ?_⟩
    refine rd_bind M1 S1 h1 fun y m2 w2 u H2 le2 M2 S2 r2 h2 => ?_
    refine rd_bind M2 S2 h2 fun z m3 w3 t H3 le3 M3 S3 r3 h3 => ?_
    split at h3
    · rename_i r e
      obtain ⟨q, oo, ep, g1, g2, g3⟩ := atD_rel M3 ((r1.mono le2).mono le3) (r2.mono le3) e
      cases ep
      refine ⟨oo, g1, ?_⟩
      cases r with
      | none => rw [g3 rfl]; exact ok_same h3 M3 r3
      | some d =>
        obtain ⟨v, ev, rv⟩ := g2 d rfl
        rw [ev]; exact ok_same h3 M3 rv
    · exact absurd h3 id
  · exact absurd h1 id
theorem je_dsetd {o i a : ME} {eo ei ea : Expr} {apos : Pos} (hso : notSuper eo = true) (h1 : notStar ei = true) (h2 : notStar ea = true) (hp : (apos.endLine == pos.line) = true) (ho : JE E N sc o eo) (hi : JE E N sc i ei) (ha : JE E N sc a ea) :
    JE E N sc (.dsetd o i a) (.Call (.Attribute eo "setdefault" apos) [ei, ea] [] pos) := fun X W C tk => by
  refine PE.imp (pe_dsetd (ho X W C tk) (hi X W C tk) (ha X W C tk) (m2_of hso h1 h2 hp)) fun σ H Q h => ?_
  obtain ⟨w, sl, m, M, S, h⟩ := h
  unfold evalE at h
  refine rd_bind M S h fun d m1 w1 v H1 le1 M1 S1 r1 h1 => ?_
  split at h1
  · rename_i hd
    obtain ⟨p, rfl, isd⟩ := isD_rel M1 r1 hd
    refine ⟨p, rfl, isd, ?_⟩
    refine rd_bind M1 S1 h1 fun y m2 w2 u H2 le2 M2 S2 r2 h2 => ?_
    refine rd_bind M2 S2 h2 fun z m3 w3 t H3 le3 M3 S3 r3 h3 => ?_
    replace r1 := (r1.mono le2).mono le3
    replace r2 := r2.mono le3
    replace h3 : PostE E.g w3 _ Q (setdD d y z m3) := h3
    unfold setdD at h3
    split at h3
    · rename_i n k hk
      split at h3
      · rename_i kvs en
        split at h3
        · rename_i hz
          obtain ⟨kvs', hH, rr⟩ := M3.ob n _ en
          generalize hv : V.ref p = vp at r1
          cases r1 with
          | ref _ hn =>
            cases hv
            refine ⟨kvs', k, hH, isKey_rel r2 hk, by rw [← rr.length]; exact sl_szOk hz, fun v hv => ?_, fun hv => ?_⟩
            · cases q : valD kvs k with
              | none => rw [(rr.val k).2 q] at hv; cases hv
              | some d =>
                rw [q] at h3
                obtain ⟨u, e1, ru⟩ := (rr.val k).1 d q
                rw [hv] at e1; cases e1
                exact ok_same h3 M3 ru
            · cases q : valD kvs k with
              | some d =>
                obtain ⟨u, e1, ru⟩ := (rr.val k).1 d q
                rw [hv] at e1; cases e1
              | none =>
                rw [q] at h3
                exact h3 w3 _ _ (Wd.le.refl _) (M3.write en trivial trivial ⟨_, upd_same, rr.put r3⟩) r3
        · exact absurd h3 id
      · exact absurd h3 id
    · exact absurd h3 id
  · exact absurd h1 id
/-! a dict's texts in order -/
theorem sorted_uniq {α : Type} {le : α → α → Prop} (anti : ∀ a b, le a b → le b a → a = b) : ∀ (a b : List α), a.Perm b → a.Pairwise le → b.Pairwise le → a = b
  | [], b, h, _, _ => (List.nil_perm.mp h).symm
  | x :: xs, [], h, _, _ => absurd h.length_eq (by simp)
  | x :: xs, y :: ys, h, h1, h2 => by
    obtain ⟨a1, a2⟩ := List.pairwise_cons.mp h1
    obtain ⟨b1, b2⟩ := List.pairwise_cons.mp h2
    have e : x = y := by
      rcases List.mem_cons.mp (h.mem_iff.mp List.mem_cons_self) with e | hx
      · exact e
      · rcases List.mem_cons.mp (h.mem_iff.mpr List.mem_cons_self) with e | hy
        · exact e.symm
        · exact anti _ _ (a1 y hy) (b1 x hx)
    subst e
    rw [sorted_uniq anti xs ys (List.Perm.cons_inv h) a2 b2]
theorem strKeys_map : ∀ {kvs : List (Key × D)} {ks : List Str}, strKeys kvs = some ks → kvs.map (·.1) = ks.map Sum.inr
  | [], ks, e => by
    simp [strKeys] at e
    subst e; rfl
  | (.inl i, d) :: r, ks, e => by simp [strKeys] at e
  | (.inr x, d) :: r, ks, e => by
    simp only [strKeys, Option.map_eq_some_iff] at e
    obtain ⟨l, e1, rfl⟩ := e
    rw [List.map_cons, List.map_cons, strKeys_map e1]
end R

/-! RSnd7: targets, what is gone over, comprehensions. -/
namespace R
open PySem PySem.Spec PyProof.Rows L2
variable {E : En} {N : List Str} {sc : Scope} {a b : ME} {ea eb : Expr} {pos : Pos}

/-! ### targets -/
mutual
def Tg.ix : Tg → List Nat
  | .nm i => [i]
  | .tp ts => Tg.ixs ts
def Tg.ixs : List Tg → List Nat
  | [] => []
  | t :: ts => Tg.ix t ++ Tg.ixs ts
end
/-- nothing but the places is are other -/
def Samb (is : List Nat) (σ σ' : L2.St) : Prop := σ'.length = σ.length ∧ ∀ j, j ∉ is → σ'[j]? = σ[j]?
theorem Samb.refl (is : List Nat) (σ : L2.St) : Samb is σ σ := ⟨rfl, fun _ _ => rfl⟩
theorem Samb.trans {is js : List Nat} {σ σ' σ'' : L2.St} (h : Samb is σ σ') (k : Samb js σ' σ'') : Samb (is ++ js) σ σ'' :=
  ⟨k.1.trans h.1, fun j hj => (k.2 j fun z => hj (List.mem_append_right _ z)).trans (h.2 j fun z => hj (List.mem_append_left _ z))⟩
def rdG (E : En) (t : Tg) : TG := fun v σ H Q => ∃ w m d sl sl', Mem E.g w H m ∧ Rv E.g w d v ∧ Slr E.g w sl σ ∧ bindT t d sl = some sl' ∧ ∀ σ', Slr E.g w sl' σ' → Samb t.ix σ σ' → Q σ' H
def rdGs (E : En) (ts : List Tg) : TGs := fun vs σ H Q => ∃ w m ds sl sl', Mem E.g w H m ∧ Rvs E.g w ds vs ∧ Slr E.g w sl σ ∧ bindTs ts ds sl = some sl' ∧ ∀ σ', Slr E.g w sl' σ' → Samb (Tg.ixs ts) σ σ' → Q σ' H
def JG (E : En) (N : List Str) (sc : Scope) (fs : Str → Bool) (t : Tg) (e : Expr) : Prop := ∀ X : Cx, Cok E N sc X → X.fn = fs → PG X e (rdG E t)
def JGs (E : En) (N : List Str) (sc : Scope) (fs : Str → Bool) (t : List Tg) (e : List Expr) : Prop := ∀ X : Cx, Cok E N sc X → X.fn = fs → PGs X e (rdGs E t)
theorem PG.imp {X : Cx} {e : Expr} {t t' : TG} (h : PG X e t) (k : ∀ v σ H Q, t' v σ H Q → t v σ H Q) : PG X e t' := ⟨fun pins s σ H v u Q I r q => h.run pins s σ H v u Q I r (k _ _ _ _ q)⟩
theorem PGs.imp {X : Cx} {e : List Expr} {t t' : TGs} (h : PGs X e t) (k : ∀ v σ H Q, t' v σ H Q → t v σ H Q) : PGs X e t' := ⟨fun pins s σ H v u Q I r q => h.run pins s σ H v u Q I r (k _ _ _ _ q)⟩
/-- a name that may be stored -/
def locB (sc : Scope) (fs : Str → Bool) (x : Str) : Bool := match sc.names.lookup x with
  | some .local => true | some .cell => fs x | _ => false
theorem loc_of {sc : Scope} {fs : Str → Bool} {x : Str} (h : locB sc fs x = true) : L2.Loc sc x ∧ (fs x = true ∨ sc.names.lookup x = some .local) := by
  unfold locB at h
  unfold L2.Loc
  split at h <;> first | (cases h; done) | skip
  · exact ⟨.inl (by assumption), .inr (by assumption)⟩
  · exact ⟨.inr (by assumption), .inl h⟩
theorem jg_nm {fs : Str → Bool} {i : Nat} {x : Str} (h1 : N[i]? = some x) (h2 : locB sc fs x = true) : JG E N sc fs (.nm i) (.Name x pos) := fun X C hf => by
  have l := loc_of h2
  refine PG.imp (pg_name (X := X) (i := i) (by rw [C.Ns]; exact C.nd) (by rw [C.Ns]; exact h1) (by rw [C.sc]; exact l.1) (by rw [hf, C.sc]; exact l.2)) fun v σ H Q h => ?_
  obtain ⟨w, m, d, sl, sl', M, r, S, e, q⟩ := h
  unfold bindT at e
  cases e
  refine q _ (S.set r) ⟨by rw [List.length_set], fun j hj => ?_⟩
  have ne : i ≠ j := fun z => hj (by rw [← z]; exact List.mem_singleton.mpr rfl)
  rw [List.getElem?_set_ne ne]
theorem jgs_nil {fs : Str → Bool} : JGs E N sc fs [] [] := fun X C hf => PGs.imp pgs_nil fun v σ H Q h => by
  obtain ⟨w, m, d, sl, sl', M, r, S, e, q⟩ := h
  cases r with
  | nil =>
    unfold bindTs at e
    cases e
    exact ⟨rfl, q σ S (Samb.refl _ _)⟩
  | cons _ _ => unfold bindTs at e; cases e
theorem assignEach_of {e : Expr} {es : List Expr} {env : Env} (h : notStar e = true) : (assignEach (e :: es) env).map (·.2) = assign e env :: (assignEach es env).map (·.2) := by
  cases e <;> first | rfl | cases h
theorem assignEach_len : ∀ {es : List Expr} {env : Env}, (assignEach es env).length = es.length
  | [], _ => rfl
  | e :: es, env => by
    have ih := assignEach_len (es := es) (env := env)
    cases e <;> (show (assignEach es env).length + 1 = es.length + 1; rw [ih])
theorem assignEach_star : ∀ {es : List Expr} {env : Env}, notStars es = true → (assignEach es env).findIdx? (·.1) = none
  | [], _, _ => rfl
  | e :: es, env, h => by
    unfold notStars at h
    rw [List.all_cons, Bool.and_eq_true] at h
    have ih := assignEach_star (es := es) (env := env) h.2
    have e1 : ∃ f, assignEach (e :: es) env = (false, f) :: assignEach es env := by
      cases e <;> first | exact ⟨_, rfl⟩ | cases h.1
    obtain ⟨f, e1⟩ := e1
    rw [e1, List.findIdx?_cons]
    simp [ih]
theorem jgs_cons {fs : Str → Bool} {t : Tg} {ts : List Tg} {e : Expr} {es : List Expr} (hs : notStar e = true) (h1 : JG E N sc fs t e) (h2 : JGs E N sc fs ts es) : JGs E N sc fs (t :: ts) (e :: es) := fun X C hf =>
  PGs.imp (pgs_cons (h1 X C hf) (h2 X C hf) (assignEach_of hs)) fun v σ H Q h => by
    obtain ⟨w, m, ds, sl, sl', M, r, S, e, q⟩ := h
    cases r with
    | nil => unfold bindTs at e; cases e
    | cons r1 r2 =>
      unfold bindTs at e
      rw [Option.bind_eq_some_iff] at e
      obtain ⟨sl1, e1, e2⟩ := e
      refine ⟨_, _, rfl, w, m, _, sl, sl1, M, r1, S, e1, fun σ1 S1 b1 => ?_⟩
      exact ⟨w, m, _, sl1, sl', M, r2, S1, e2, fun σ2 S2 b2 => q σ2 S2 (b1.trans b2)⟩
theorem bindTs_len : ∀ {ts : List Tg} {ds : List D} {sl sl' : List (Option D)}, bindTs ts ds sl = some sl' → ts.length = ds.length
  | [], [], _, _, _ => rfl
  | t :: ts, d :: ds, sl, sl', h => by
    unfold bindTs at h
    rw [Option.bind_eq_some_iff] at h
    obtain ⟨sl1, _, e2⟩ := h
    rw [List.length_cons, List.length_cons, bindTs_len e2]
  | [], d :: ds, _, _, h => by unfold bindTs at h; cases h
  | t :: ts, [], _, _, h => by unfold bindTs at h; cases h
theorem jg_tp {fs : Str → Bool} {ts : List Tg} {es : List Expr} {k : Nat} (hs : notStars es = true) (hl : ts.length = es.length) (h : JGs E N sc fs ts es) : JG E N sc fs (.tp ts) (.Tuple es k pos) := fun X C hf =>
  PG.imp (pg_tup (n := es.length) C.calm (h X C hf) assignEach_len (assignEach_star hs)) fun v σ H Q h => by
    obtain ⟨w, m, d, sl, sl', M, r, S, e, q⟩ := h
    cases r with
    | tup hq rs =>
      unfold bindT at e
      refine ⟨_, _, rfl, by rw [C.K]; exact sqT_mono M.fr hq, ?_, w, m, _, sl, sl', M, rs, S, e, q⟩
      rw [← rs.length, ← bindTs_len e, hl]
    | _ => unfold bindT at e; cases e

/-! ### what is gone over -/
/-- J goes over xs -/
structure Wk (g : Gm) (w : Wd) (xs : List D) (J : L2.It) : Prop where
  go : ∀ (i : Nat) w' H m, w.le w' → Mem g w' H m → i < xs.length → J.go i H
  stop : ∀ (i : Nat) w' H m, w.le w' → Mem g w' H m → xs.length ≤ i → J.stop i H
  yld : ∀ (i : Nat) x w' H H' m, w.le w' → Mem g w' H m → i < xs.length → J.yld i H x H' → ∃ d w'', xs[i]? = some d ∧ w'.le w'' ∧ Mem g w'' H' m ∧ Rv g w'' d x
abbrev rdI (E : En) (W : WX) (it : It) : TI := rdOf (Wk E.g) E W (evalI E.p E.c it)
def JI (E : En) (N : List Str) (sc : Scope) (it : It) (tg iter : Expr) : Prop := ∀ (X : Cx) (W : WX), Cok E N sc X → Takes X W → PI X tg iter (rdI E W it)
theorem wk_list {g : Gm} {w : Wd} {a : Addr} {vs : List V} {xs : List D} (h : SqL g.K w.F a vs) (r : Rvs g w xs vs) : Wk g w xs (Itl g.K a) where
  go := fun i w' H m le M hi => by
    obtain ⟨v, hv, _⟩ := r.get (List.getElem?_eq_getElem hi)
    exact ⟨vs, v, sqL_mono M.fr (sqL_mono le.fr h), hv⟩
  stop := fun i w' H m le M hi => ⟨vs, sqL_mono M.fr (sqL_mono le.fr h), by rw [← r.length]; exact hi⟩
  yld := fun i x w' H H' m le M hi y => by
    obtain ⟨e, y⟩ := y
    subst e
    have hv := y vs (sqL_mono M.fr (sqL_mono le.fr h))
    obtain ⟨d, hd, rd⟩ := r.got hv
    exact ⟨d, w', hd, Wd.le.refl _, M, rd.mono le⟩
theorem wk_tup {g : Gm} {w : Wd} {a : Addr} {vs : List V} {xs : List D} (h : SqT g.K w.F a vs) (r : Rvs g w xs vs) : Wk g w xs (Itt g.K a) where
  go := fun i w' H m le M hi => by
    obtain ⟨v, hv, _⟩ := r.get (List.getElem?_eq_getElem hi)
    exact ⟨vs, v, sqT_mono M.fr (sqT_mono le.fr h), hv⟩
  stop := fun i w' H m le M hi => ⟨vs, sqT_mono M.fr (sqT_mono le.fr h), by rw [← r.length]; exact hi⟩
  yld := fun i x w' H H' m le M hi y => by
    obtain ⟨e, y⟩ := y
    subst e
    have hv := y vs (sqT_mono M.fr (sqT_mono le.fr h))
    obtain ⟨d, hd, rd⟩ := r.got hv
    exact ⟨d, w', hd, Wd.le.refl _, M, rd.mono le⟩
theorem wk_rng {g : Gm} {w : Wd} {n : Nat} : Wk g w ((List.range n).map fun (k : Nat) => D.int k) (Itr 0 n) where
  go := fun i w' H m le M hi => by
    show i < n
    simpa using hi
  stop := fun i w' H m le M hi => by
    show n ≤ i
    simpa using hi
  yld := fun i x w' H H' m le M hi y => by
    obtain ⟨e, y⟩ := y
    subst e
    subst y
    have hi' : i < n := by simpa using hi
    refine ⟨.int i, w', ?_, Wd.le.refl _, M, ?_⟩
    · rw [List.getElem?_map, List.getElem?_range hi']; rfl
    · rw [Int.zero_add]; exact .int _
theorem wk_rngC {g : Gm} {w : Wd} {lo c : Int} {n : Nat} : Wk g w (rngL lo n c) (Itc lo c n) where
  go := fun i w' H m le M hi => by
    show i < n
    simpa [rngL] using hi
  stop := fun i w' H m le M hi => by
    show n ≤ i
    simpa [rngL] using hi
  yld := fun i x w' H H' m le M hi y => by
    obtain ⟨e, y⟩ := y
    subst e
    subst y
    have hi' : i < n := by simpa [rngL] using hi
    refine ⟨.int (lo + (i : Int) * c), w', ?_, Wd.le.refl _, M, .int _⟩
    unfold rngL
    rw [List.getElem?_map, List.getElem?_range hi']; rfl
theorem wk_rng2 {g : Gm} {w : Wd} {lo : Int} {n : Nat} : Wk g w (rngL lo n 1) (Itr lo n) where
  go := fun i w' H m le M hi => by
    show i < n
    simpa [rngL] using hi
  stop := fun i w' H m le M hi => by
    show n ≤ i
    simpa [rngL] using hi
  yld := fun i x w' H H' m le M hi y => by
    obtain ⟨e, y⟩ := y
    subst e
    subst y
    have hi' : i < n := by simpa [rngL] using hi
    refine ⟨.int (lo + (i : Int) * 1), w', ?_, Wd.le.refl _, M, ?_⟩
    · unfold rngL
      rw [List.getElem?_map, List.getElem?_range hi']; rfl
    · rw [Int.mul_one]; exact .int _
theorem wk_zipT {g : Gm} {w : Wd} {a b : Addr} {vs us : List V} {xs ys : List D} (h : SqT g.K w.F a vs) (r : Rvs g w xs vs) (h2 : SqT g.K w.F b us) (r2 : Rvs g w ys us) : Wk g w ((xs.zip ys).map fun q => D.tup [q.1, q.2]) (RZ.ItzT g.K a b) where
  go := fun i w' H m le M hi => by
    have hi : i < xs.length ∧ i < ys.length := by simp at hi; omega
    obtain ⟨v, hv, _⟩ := r.get (List.getElem?_eq_getElem hi.1)
    obtain ⟨u, hu, _⟩ := r2.get (List.getElem?_eq_getElem hi.2)
    exact ⟨vs, us, v, u, sqT_mono M.fr (sqT_mono le.fr h), sqT_mono M.fr (sqT_mono le.fr h2), hv, hu⟩
  stop := fun i w' H m le M hi => by
    refine ⟨vs, us, sqT_mono M.fr (sqT_mono le.fr h), sqT_mono M.fr (sqT_mono le.fr h2), ?_⟩
    rw [← r.length, ← r2.length]
    simp at hi
    omega
  yld := fun i x w' H H' m le M hi y => by
    obtain ⟨T, v, u, rfl, hT, rfl, f1, f2⟩ := y
    obtain ⟨d, hd, rd⟩ := r.got (f1 vs (sqT_mono M.fr (sqT_mono le.fr h)))
    obtain ⟨e, he, re⟩ := r2.got (f2 us (sqT_mono M.fr (sqT_mono le.fr h2)))
    obtain ⟨le', M'⟩ := M.laid (p := T) (o := .tup [v, u]) hT
    refine ⟨.tup [d, e], _, ?_, le', M', .tup (SqT.of upd_same) (.cons (rd.mono (le.trans le')) (.cons (re.mono (le.trans le')) .nil))⟩
    rw [List.getElem?_map, List.getElem?_zip_eq_some (z := (d, e)) |>.mpr ⟨hd, he⟩]; rfl
theorem wk_zip {g : Gm} {w : Wd} {a b : Addr} {vs us : List V} {xs ys : List D} (h : SqL g.K w.F a vs) (r : Rvs g w xs vs) (h2 : SqL g.K w.F b us) (r2 : Rvs g w ys us) : Wk g w ((xs.zip ys).map fun q => D.tup [q.1, q.2]) (Itz g.K a b) where
  go := fun i w' H m le M hi => by
    have hi : i < xs.length ∧ i < ys.length := by simp at hi; omega
    obtain ⟨v, hv, _⟩ := r.get (List.getElem?_eq_getElem hi.1)
    obtain ⟨u, hu, _⟩ := r2.get (List.getElem?_eq_getElem hi.2)
    exact ⟨vs, us, v, u, sqL_mono M.fr (sqL_mono le.fr h), sqL_mono M.fr (sqL_mono le.fr h2), hv, hu⟩
  stop := fun i w' H m le M hi => by
    refine ⟨vs, us, sqL_mono M.fr (sqL_mono le.fr h), sqL_mono M.fr (sqL_mono le.fr h2), ?_⟩
    rw [← r.length, ← r2.length]
    simp at hi
    omega
  yld := fun i x w' H H' m le M hi y => by
    obtain ⟨T, v, u, rfl, hT, rfl, f1, f2⟩ := y
    obtain ⟨d, hd, rd⟩ := r.got (f1 vs (sqL_mono M.fr (sqL_mono le.fr h)))
    obtain ⟨e, he, re⟩ := r2.got (f2 us (sqL_mono M.fr (sqL_mono le.fr h2)))
    obtain ⟨le', M'⟩ := M.laid (p := T) (o := .tup [v, u]) hT
    refine ⟨.tup [d, e], _, ?_, le', M', .tup (SqT.of upd_same) (.cons (rd.mono (le.trans le')) (.cons (re.mono (le.trans le')) .nil))⟩
    rw [List.getElem?_map, List.getElem?_zip_eq_some (z := (d, e)) |>.mpr ⟨hd, he⟩]; rfl
theorem wk_enum {g : Gm} {w : Wd} {a : Addr} {vs : List V} {xs : List D} (h : SqL g.K w.F a vs) (r : Rvs g w xs vs) : Wk g w ((List.range xs.length).zip xs |>.map fun q => D.tup [.int q.1, q.2]) (Ite g.K a) where
  go := fun i w' H m le M hi => by
    have hi : i < xs.length := by simpa using hi
    obtain ⟨v, hv, _⟩ := r.get (List.getElem?_eq_getElem hi)
    exact ⟨vs, v, sqL_mono M.fr (sqL_mono le.fr h), hv⟩
  stop := fun i w' H m le M hi => by
    refine ⟨vs, sqL_mono M.fr (sqL_mono le.fr h), ?_⟩
    rw [← r.length]
    simpa using hi
  yld := fun i x w' H H' m le M hi y => by
    have hi : i < xs.length := by simpa using hi
    obtain ⟨T, v, rfl, hT, rfl, f1⟩ := y
    obtain ⟨d, hd, rd⟩ := r.got (f1 vs (sqL_mono M.fr (sqL_mono le.fr h)))
    obtain ⟨le', M'⟩ := M.laid (p := T) (o := .tup [.int (i : Nat), v]) hT
    refine ⟨.tup [.int i, d], _, ?_, le', M', .tup (SqT.of upd_same) (.cons (.int _) (.cons (rd.mono (le.trans le')) .nil))⟩
    rw [List.getElem?_map, List.getElem?_zip_eq_some (z := (i, d)) |>.mpr ⟨List.getElem?_range hi, hd⟩]; rfl

theorem wk_str {g : Gm} {w : Wd} {x : Str} : Wk g w (x.cps.toList.map fun c => D.str ⟨#[c]⟩) (L2.Its x) where
  go := fun i w' H m le M hi => by
    show i < x.cps.size
    simpa using hi
  stop := fun i w' H m le M hi => by
    show x.cps.size ≤ i
    simpa using hi
  yld := fun i v w' H H' m le M hi y => by
    obtain ⟨e, c, hc, rfl⟩ := y
    subst e
    refine ⟨.str ⟨#[c]⟩, w', ?_, Wd.le.refl _, M, .str _⟩
    rw [List.getElem?_map, Array.getElem?_toList, hc]; rfl
theorem ji_seq {tg : Expr} (ha : JE E N sc a ea) : JI E N sc (.seq a) tg ea := fun X W C tk => ⟨fun pins s σ H R I h => by
  obtain ⟨w, sl, m, M, S, h⟩ := h
  unfold evalI at h
  cases q : evalE E.p E.c a sl m with
  | bad => rw [q] at h; exact absurd h id
  | exn Ce p m1 =>
    rw [q] at h
    exact (pi_list (tg := tg) (ha X W C tk)).run pins s σ H R I ⟨w, sl, m, M, S, by rw [q]; exact h⟩
  | ok d m1 =>
    rw [q, Res.bind_ok] at h
    cases d with
    | tup xs =>
      refine (pi_tup (tg := tg) (ha X W C tk)).run pins s σ H R I ⟨w, sl, m, M, S, ?_⟩
      rw [q, C.K]
      intro w1 v H1 le1 M1 r1
      cases r1 with
      | tup hq rs => exact ⟨_, rfl, ⟨_, sqT_mono M1.fr hq⟩, h w1 _ H1 le1 M1 (wk_tup hq rs)⟩
    | lst xs =>
      refine (pi_list (tg := tg) (ha X W C tk)).run pins s σ H R I ⟨w, sl, m, M, S, ?_⟩
      rw [q, C.K]
      intro w1 v H1 le1 M1 r1
      cases r1 with
      | lst hq rs => exact ⟨_, rfl, ⟨_, SqL.of (M1.fr _ _ hq)⟩, h w1 _ H1 le1 M1 (wk_list (SqL.of hq) rs)⟩
    | scr xs =>
      refine (pi_list (tg := tg) (ha X W C tk)).run pins s σ H R I ⟨w, sl, m, M, S, ?_⟩
      rw [q, C.K]
      intro w1 v H1 le1 M1 r1
      cases r1 with
      | scr hq rs => exact ⟨_, rfl, ⟨_, sqL_mono M1.fr hq⟩, h w1 _ H1 le1 M1 (wk_list hq rs)⟩
    | str x =>
      refine (pi_str (tg := tg) (ha X W C tk)).run pins s σ H R I ⟨w, sl, m, M, S, ?_⟩
      rw [q]
      intro w1 v H1 le1 M1 r1
      cases r1 with
      | str => exact ⟨_, rfl, h w1 _ H1 le1 M1 wk_str⟩
    | _ => exact absurd h id⟩
theorem ji_rng1 (G : Gok E) {tg : Expr} {p : Pos} (hg : glB sc "range" = true) (hs : notStar ea = true) (ha : JE E N sc a ea) : JI E N sc (.rng1 a) tg (.Call (.Name "range" p) [ea] [] pos) := fun X W C tk => by
  have st : starEach [ea] X.env = [(false, eval ea X.env)] := starEach_of hs
  have args := jes_cons ha hs (jes_nil (E := E) (N := N) (sc := sc)) X W C tk
  refine ⟨fun pins s σ H R I h => (pi_range1 (tg := tg) (C.gl hg) (by rw [C.mg]; exact G.rng) args st).run pins s σ H R I ?_⟩
  obtain ⟨w, sl, m, M, S, h⟩ := h
  unfold evalI at h
  refine ⟨w, sl, m, M, S, ?_⟩
  simp only [evalEs]
  cases q : evalE E.p E.c a sl m with
  | bad => rw [q] at h; exact absurd h id
  | exn Ce p m1 => rw [q] at h; exact h
  | ok d m1 =>
    rw [q, Res.bind_ok] at h
    intro w1 vs H1 le1 M1 r1
    obtain ⟨v, rfl, rv⟩ := r1.one
    cases rv with
    | int j =>
      dsimp only at h
      by_cases hj : small62 j = true
      · rw [if_pos hj] at h
        exact ⟨j, rfl, (small62_of hj).1, (small62_of hj).2, h w1 _ H1 le1 M1 wk_rng⟩
      · rw [if_neg hj] at h; exact absurd h id
    | _ => exact absurd h id
theorem ji_rng2 (G : Gok E) {tg : Expr} {p : Pos} {b : ME} {eb : Expr} (hg : glB sc "range" = true) (hs : notStar ea = true) (hs2 : notStar eb = true) (ha : JE E N sc a ea) (hb : JE E N sc b eb) :
    JI E N sc (.rng2 a b) tg (.Call (.Name "range" p) [ea, eb] [] pos) := fun X W C tk => by
  have st2 : starEach [eb] X.env = [(false, eval eb X.env)] := starEach_of hs2
  have st : starEach [ea, eb] X.env = [(false, eval ea X.env), (false, eval eb X.env)] := by rw [starEach_of hs, st2]
  have args := jes_cons ha hs (jes_cons hb hs2 (jes_nil (E := E) (N := N) (sc := sc))) X W C tk
  refine ⟨fun pins s σ H R I h => (pi_range2 (tg := tg) (C.gl hg) (by rw [C.mg]; exact G.rng) args st st2).run pins s σ H R I ?_⟩
  obtain ⟨w, sl, m, M, S, h⟩ := h
  unfold evalI at h
  refine ⟨w, sl, m, M, S, ?_⟩
  simp only [evalEs]
  cases q : evalE E.p E.c a sl m with
  | bad => rw [q] at h; exact absurd h id
  | exn Ce p m1 => rw [q] at h; exact h
  | ok d m1 =>
    rw [q, Res.bind_ok] at h
    rw [Res.bind_ok]
    cases q2 : evalE E.p E.c b sl m1 with
    | bad => rw [q2] at h; exact absurd h id
    | exn Ce p m1 => rw [q2] at h; exact h
    | ok d2 m2 =>
      rw [q2, Res.bind_ok] at h
      intro w1 vs H1 le1 M1 r1
      obtain ⟨v, u, rfl, rv, ru⟩ := r1.two
      cases rv with
      | int i =>
        cases ru with
        | int j =>
          dsimp only at h
          by_cases hj : small62 i = true ∧ small62 j = true
          · rw [if_pos hj] at h
            have b1 := small62_of hj.1
            have b2 := small62_of hj.2
            exact ⟨i, j, rfl, ⟨b1.1, b1.2, b2.1, b2.2⟩, h w1 _ H1 le1 M1 wk_rng2⟩
          · rw [if_neg hj] at h; exact absurd h id
        | _ => exact absurd h id
      | _ => exact absurd h id
theorem ji_rng3 (G : Gok E) {tg : Expr} {p : Pos} {b c : ME} {eb ec : Expr} (hg : glB sc "range" = true) (hs : notStar ea = true) (hs2 : notStar eb = true) (hs3 : notStar ec = true) (ha : JE E N sc a ea) (hb : JE E N sc b eb) (hc : JE E N sc c ec) :
    JI E N sc (.rng3 a b c) tg (.Call (.Name "range" p) [ea, eb, ec] [] pos) := fun X W C tk => by
  have pl : (backTo pos (starEach [eb, ec] X.env)).any (·.1) = false := plain_of (by unfold notStars; simp [hs2, hs3])
  have args := jes_cons ha hs (jes_cons hb hs2 (jes_cons hc hs3 (jes_nil (E := E) (N := N) (sc := sc)))) X W C tk
  refine ⟨fun pins s σ H R I h => (pi_range3 (tg := tg) (C.gl hg) (by rw [C.mg]; exact G.rng) args (starEach_of hs) pl).run pins s σ H R I ?_⟩
  obtain ⟨w, sl, m, M, S, h⟩ := h
  unfold evalI at h
  refine ⟨w, sl, m, M, S, ?_⟩
  simp only [evalEs]
  cases q : evalE E.p E.c a sl m with
  | bad => rw [q] at h; exact absurd h id
  | exn Ce p m1 => rw [q] at h; exact h
  | ok d m1 =>
    rw [q, Res.bind_ok] at h
    rw [Res.bind_ok]
    cases q2 : evalE E.p E.c b sl m1 with
    | bad => rw [q2] at h; exact absurd h id
    | exn Ce p m1 => rw [q2] at h; exact h
    | ok d2 m2 =>
      rw [q2, Res.bind_ok] at h
      rw [Res.bind_ok]
      cases q3 : evalE E.p E.c c sl m2 with
      | bad => rw [q3] at h; exact absurd h id
      | exn Ce p m1 => rw [q3] at h; exact h
      | ok d3 m3 =>
        rw [q3, Res.bind_ok] at h
        intro w1 vs H1 le1 M1 r1
        cases r1 with
        | cons rv r1 =>
        cases r1 with
        | cons ru r1 =>
        cases r1 with
        | cons rw' r1 =>
        cases r1
        cases rv with
        | int i =>
          cases ru with
          | int j =>
            cases rw' with
            | int k =>
              dsimp only at h
              by_cases hj : rngOk i j k = true
              · rw [if_pos hj] at h
                unfold rngOk at hj
                simp only [Bool.and_eq_true, decide_eq_true_eq] at hj
                have h2 := Nat.le_of_ble_eq_true hj.1.1.2
                refine ⟨i, j, k, _, rfl, ⟨hj.1.1.1, by omega, hj.1.2, ?_⟩, h w1 _ H1 le1 M1 wk_rngC⟩
                rw [Int.toNat_of_nonneg hj.2]
              · rw [if_neg hj] at h; exact absurd h id
            | _ => exact absurd h id
          | _ => exact absurd h id
        | _ => exact absurd h id
theorem ji_zip (G : Gok E) {p tp : Pos} {b : ME} {eb : Expr} {elts : List Expr} {kk : Nat} (hg : glB sc "zip" = true) (hs : notStar ea = true) (hs2 : notStar eb = true) (ha : JE E N sc a ea) (hb : JE E N sc b eb) :
    JI E N sc (.zip a b) (.Tuple elts kk tp) (.Call (.Name "zip" p) [ea, eb] [] pos) := fun X W C tk => by
  have pl : (backTo pos (starEach [eb] X.env)).any (·.1) = false := plain_of (by unfold notStars; simp [hs2])
  have args := jes_cons ha hs (jes_cons hb hs2 (jes_nil (E := E) (N := N) (sc := sc))) X W C tk
  refine ⟨fun pins s σ H R I h => (RZ.pi_zipA (C.gl hg) (by rw [C.mg]; exact G.zip) args (starEach_of hs) pl).run pins s σ H R I ?_⟩
  obtain ⟨w, sl, m, M, S, h⟩ := h
  unfold evalI at h
  refine ⟨w, sl, m, M, S, ?_⟩
  simp only [evalEs]
  cases q : evalE E.p E.c a sl m with
  | bad => rw [q] at h; exact absurd h id
  | exn Ce p m1 => rw [q] at h; exact h
  | ok d m1 =>
    rw [q, Res.bind_ok] at h
    rw [Res.bind_ok]
    cases q2 : evalE E.p E.c b sl m1 with
    | bad => rw [q2] at h; exact absurd h id
    | exn Ce p m1 => rw [q2] at h; exact h
    | ok d2 m2 =>
      rw [q2, Res.bind_ok] at h
      intro w1 vs H1 le1 M1 r1
      obtain ⟨v, u, rfl, rv, ru⟩ := r1.two
      have fl : ∀ {d : D} {v : V} {xs : List D}, Rv E.g w1 d v → frzL d = some xs → ∃ a us, v = .ref a ∧ SqL E.g.K w1.F a us ∧ Rvs E.g w1 xs us := fun {d v xs} r e => by
        cases r with
        | lst hq rs => cases e; exact ⟨_, _, rfl, SqL.of hq, rs⟩
        | scr hq rs => cases e; exact ⟨_, _, rfl, hq, rs⟩
        | _ => cases e
      split at h
      · cases rv with
        | @tup a1 vs1 _ hq rs =>
          cases ru with
          | @tup a2 vs2 _ hq2 rs2 =>
            refine ⟨a1, a2, vs1, vs2, rfl, .inr ⟨?_, ?_, ?_⟩⟩
            · rw [C.K]; exact sqT_mono M1.fr hq
            · rw [C.K]; exact sqT_mono M1.fr hq2
            · rw [C.K]; exact h w1 _ H1 le1 M1 (wk_zipT hq rs hq2 rs2)
      · split at h
        · rename_i xs ys e1 e2
          obtain ⟨a1, vs1, rfl, hq, rs⟩ := fl rv e1
          obtain ⟨a2, vs2, rfl, hq2, rs2⟩ := fl ru e2
          refine ⟨a1, a2, vs1, vs2, rfl, .inl ⟨?_, ?_, ?_⟩⟩
          · rw [C.K]; exact sqL_mono M1.fr hq
          · rw [C.K]; exact sqL_mono M1.fr hq2
          · rw [C.K]; exact h w1 _ H1 le1 M1 (wk_zip hq rs hq2 rs2)
        · exact absurd h id
theorem ji_enum (G : Gok E) {p tp : Pos} {elts : List Expr} {kk : Nat} (hg : glB sc "enumerate" = true) (hs : notStar ea = true) (ha : JE E N sc a ea) :
    JI E N sc (.enum a) (.Tuple elts kk tp) (.Call (.Name "enumerate" p) [ea] [] pos) := fun X W C tk => by
  have args := jes_cons ha hs (jes_nil (E := E) (N := N) (sc := sc)) X W C tk
  refine ⟨fun pins s σ H R I h => (pi_enum (C.gl hg) (by rw [C.mg]; exact G.enum) args (starEach_of hs)).run pins s σ H R I ?_⟩
  obtain ⟨w, sl, m, M, S, h⟩ := h
  unfold evalI at h
  refine ⟨w, sl, m, M, S, ?_⟩
  simp only [evalEs]
  cases q : evalE E.p E.c a sl m with
  | bad => rw [q] at h; exact absurd h id
  | exn Ce p m1 => rw [q] at h; exact h
  | ok d m1 =>
    rw [q, Res.bind_ok] at h
    intro w1 vs H1 le1 M1 r1
    obtain ⟨v, rfl, rv⟩ := r1.one
    cases rv with
    | lst hq rs => exact ⟨_, _, rfl, by rw [C.K]; exact SqL.of (M1.fr _ _ hq), by rw [C.K]; exact h w1 _ H1 le1 M1 (wk_enum (SqL.of hq) rs)⟩
    | _ => exact absurd h id
end R

/-! RSnd8: comprehensions. -/
namespace R
open PySem PySem.Spec PyProof.Rows L2
variable {E : En} {N : List Str} {sc : Scope} {a b : ME} {ea eb : Expr} {pos : Pos}

/-! ### wiped slots -/
theorem wipe_at {σ : L2.St} {j : Nat} : ∀ {vs : List Nat}, j ∈ vs → j < σ.length → (L2.wipe σ vs)[j]? = some none
  | [], h, _ => by cases h
  | v :: vs, h, hj => by
    unfold L2.wipe
    by_cases q : v = j
    · subst q
      rw [List.getElem?_set_self (by rw [wipe_length]; exact hj)]
    · rw [List.getElem?_set_ne q]
      rcases List.mem_cons.mp h with e | h
      · exact absurd e.symm q
      · exact wipe_at h hj
theorem wipe_off {σ : L2.St} {j : Nat} : ∀ {vs : List Nat}, j ∉ vs → (L2.wipe σ vs)[j]? = σ[j]?
  | [], _ => rfl
  | v :: vs, h => by
    unfold L2.wipe
    rw [List.getElem?_set_ne fun z => h (by rw [z]; exact List.mem_cons_self)]
    exact wipe_off fun z => h (List.mem_cons_of_mem _ z)
theorem wipe_same {σ σ2 : L2.St} {is vs : List Nat} (h : Samb is (L2.wipe σ vs) σ2) (hs : ∀ i ∈ is, i ∈ vs) : L2.wipe σ2 vs = L2.wipe σ vs := by
  have hl : σ2.length = σ.length := h.1.trans (wipe_length _ _)
  apply List.ext_getElem?
  intro j
  by_cases hj : j ∈ vs
  · by_cases hlt : j < σ.length
    · rw [wipe_at hj hlt, wipe_at hj (by rw [hl]; exact hlt)]
    · rw [List.getElem?_eq_none (by rw [wipe_length, hl]; omega), List.getElem?_eq_none (by rw [wipe_length]; omega)]
  · rw [wipe_off hj, wipe_off hj, h.2 j fun z => hj (hs j z), wipe_off hj]

/-! ### the loop of a comprehension, in R -/
/-- one turn -/
def lcF (p : Pg) (c : Calls) (elt : ME) (g : Tg) (cond : Option ME) (sl0 : List (Option D)) : D → Mm → Res Mm (Option D) := fun x h =>
  match bindT g x sl0 with
  | some sl' => match cond with
    | some k => (noExn (evalE p c k sl' h)).bind fun b h => match truthD h b with
      | some true => (noExn (evalE p c elt sl' h)).bind fun y h => .ok (some y) h
      | some false => .ok none h
      | none => .bad
    | none => (noExn (evalE p c elt sl' h)).bind fun y h => .ok (some y) h
  | none => .bad
theorem evalE_lc {p : Pg} {c : Calls} {obj : Bool} {elt : ME} {g : Tg} {it : It} {cond : Option ME} {own : List Nat} {sl : List (Option D)} {h : Mm} :
    evalE p c (.lc obj elt g it cond own) sl h = (evalI p c it sl h).bind fun xs h => (mapL (lcF p c elt g cond (wipe sl own)) xs h).bind fun ys h => mkL obj ys h := by
  simp only [evalE]; rfl
theorem Post.noExn {α β γ δ : Type} {Rl : Wd → α → β → Prop} {Rl' : Wd → γ → δ → Prop} {g : Gm} {w : Wd} {xw xw' : XW} {Q : β → Hp → Prop} {Q' : δ → Hp → Prop} {r : Res Mm γ} {f : γ → Mm → Res Mm α} (h : Post Rl g w xw Q ((R.noExn r).bind f))
    (k : ∀ d m, r = .ok d m → ∀ w' v H', w.le w' → Mem g w' H' m → Rl' w' d v → Post Rl g w' xw Q (f d m) → Q' v H') : Post Rl' g w xw' Q' r := by
  cases r with
  | ok d m => exact fun w' v H' le M rv => k d m rfl w' v H' le M rv (Post.mono le h)
  | exn C p m => exact absurd h id
  | bad => exact h
theorem mapL_noexn {f : D → Mm → Res Mm (Option D)} (hf : ∀ x h C p h', f x h ≠ .exn C p h') : ∀ {xs : List D} {h : Mm} {C : Nat} {p : Option D} {h' : Mm}, mapL f xs h ≠ .exn C p h'
  | [], _, _, _, _, z => by cases z
  | x :: xs, h, C, p, h', z => by
    unfold mapL at z
    cases q : f x h with
    | bad => rw [q] at z; cases z
    | exn C' p' h1 => exact hf x h C' p' h1 q
    | ok y h1 =>
      rw [q, Res.bind_ok] at z
      cases q2 : mapL f xs h1 with
      | bad => rw [q2] at z; cases z
      | exn C' p' h2 => exact mapL_noexn hf q2
      | ok ys h2 =>
        rw [q2, Res.bind_ok] at z
        cases y <;> cases z
theorem noExn_ne {σ α : Type} {r : Res σ α} {C : Nat} {p : Option D} {s : σ} : R.noExn r ≠ .exn C p s := by
  cases r <;> (intro z; cases z)
theorem lcF_noexn {p : Pg} {c : Calls} {elt : ME} {g : Tg} {cond : Option ME} {sl0 : List (Option D)} : ∀ x h C q h', lcF p c elt g cond sl0 x h ≠ .exn C q h' := by
  have one : ∀ {r : Res Mm D} {C : Nat} {q : Option D} {h' : Mm}, ((R.noExn r).bind fun y h => (.ok (some y) h : Res Mm (Option D))) ≠ .exn C q h' := by
    intro r C q h' z
    cases r <;> cases z
  intro x h C q h' z
  unfold lcF at z
  cases hb : bindT g x sl0 with
  | none => rw [hb] at z; cases z
  | some sl' =>
    rw [hb] at z
    cases cond with
    | none => exact one z
    | some k =>
      dsimp only at z
      cases r : evalE p c k sl' h with
      | bad => rw [r] at z; cases z
      | exn C' p' h1 => rw [r] at z; cases z
      | ok d h1 =>
        rw [r] at z
        have z : (match truthD h1 d with | some true => (R.noExn (evalE p c elt sl' h1)).bind fun y h => .ok (some y) h | some false => .ok none h1 | none => .bad : Res Mm (Option D)) = .exn C q h' := z
        split at z
        · exact one z
        · cases z
        · cases z
theorem mkL_size {obj : Bool} {ds : List D} {m : Mm} {g : Gm} {w : Wd} {xw : XW} {Q : V → Hp → Prop} (h : PostE g w xw Q (mkL obj ds m)) : ds.length ≤ sizeLine := by
  unfold mkL at h
  split at h
  · rename_i hz; exact sl_szOk hz
  · exact absurd h id
/-- the list that was made -/
theorem mk_end {g : Gm} {w w' : Wd} {H : Hp} {m : Mm} {obj : Bool} {ds : List D} {acc : List V} {L : Addr} {xw : XW} {Q : V → Hp → Prop} (h : PostE g w xw Q (mkL obj ds m)) (le : w.lf w') (lg : ∀ a o, w.G a = some o → a ≠ L ∧ w'.G a = some o)
    (M : Mem g w' H m) (hL : w'.G L = some (.lst acc)) (r : Rvs g w' ds acc) : Q (.ref L) H := by
  unfold mkL at h
  split at h
  · cases obj with
    | true =>
      rw [if_pos rfl] at h
      have lf : w'.lf ⟨w'.F, fun n => if n = w'.len then L else w'.ρ n, w'.len + 1, fun a => if a = L then none else w'.G a⟩ := ⟨fun _ _ h => h, Nat.le_succ _, fun n h => if_neg (Nat.ne_of_lt h)⟩
      have M' := M.adopt (p := L) (o := .lst acc) (u := .lst ds) hL (hu := ⟨acc, by
        show H (if w'.len = w'.len then L else w'.ρ w'.len) = _
        rw [if_pos rfl]; exact M.gr _ _ hL, r.mono' lf⟩)
      rw [← M.len] at h
      have rr := Rv.ref (g := g) (w := ⟨w'.F, fun n => if n = w'.len then L else w'.ρ n, w'.len + 1, fun a => if a = L then none else w'.G a⟩) w'.len (Nat.lt_succ_self _)
      rw [show (Wd.mk w'.F (fun n => if n = w'.len then L else w'.ρ n) (w'.len + 1) (fun a => if a = L then none else w'.G a)).ρ w'.len = L from if_pos rfl] at rr
      refine h ⟨w'.F, fun n => if n = w'.len then L else w'.ρ n, w'.len + 1, fun a => if a = L then none else w'.G a⟩ (.ref L) H ⟨⟨le.fr, Nat.le_trans le.len (Nat.le_succ _), fun n hn => ?_⟩, fun a o q => ?_⟩ M' rr
      · show (if n = w'.len then L else w'.ρ n) = w.ρ n
        rw [if_neg (Nat.ne_of_lt (Nat.lt_of_lt_of_le hn le.len))]; exact le.at_ n hn
      · obtain ⟨h1, h2⟩ := lg a o q
        show (if a = L then none else w'.G a) = some o
        rw [if_neg h1]; exact h2
    | false =>
      rw [if_neg Bool.false_ne_true] at h
      have M' := M.settle (p := L) (o := .lst acc) hL
      have lf : w'.lf ⟨upd w'.F L (.lst acc), w'.ρ, w'.len, fun a => if a = L then none else w'.G a⟩ := ⟨fun a o q => by
        show upd w'.F L _ a = _
        rw [upd_ne fun z => by rw [z, M.gf _ _ hL] at q; cases q]; exact q, Nat.le_refl _, fun _ _ => rfl⟩
      refine h _ (.ref L) H ⟨⟨fun a o q => lf.fr a o (le.fr a o q), le.len, le.at_⟩, fun a o q => ?_⟩ M' (.lst upd_same (r.mono' lf))
      obtain ⟨h1, h2⟩ := lg a o q
      show (if a = L then none else w'.G a) = some o
      rw [if_neg h1]; exact h2
  · exact absurd h id

/-! ### the reading -/
def condT (E : En) (cond : Option ME) : TT := match cond with
  | none => tYes
  | some k => rdT E (fun _ _ _ _ => False) k
theorem lc_read {elt : ME} {g : Tg} {it : It} {cond : Option ME} {own : List Nat} {obj : Bool} {W : WX} {K : PySem.W.Frag} (hg : ∀ i ∈ g.ix, i ∈ own) {σ : L2.St} {H : Hp} {Q : VK} (h : rdE E W (.lc obj elt g it cond own) σ H Q) :
    tLc (rdI E W it) (rdG E g) (condT E cond) (rdE E (fun _ _ _ _ => False) elt) own σ H Q := by
  obtain ⟨w, sl, m, M, S, h⟩ := h
  rw [evalE_lc] at h
  refine rd_bind M S h fun xs m1 w1 J H1 le1 M1 S1 wk h1 => ?_
  intro L hL
  have nG : ∀ a o, w1.G a = some o → a ≠ L := fun a o e => ne_of_none (M1.gr a o e) hL
  obtain ⟨leD, MD⟩ := M1.beside (p := L) (o := .lst []) hL
  -- between the turns
  refine ⟨fun i k H' => k = xs.length - i ∧ i ≤ xs.length ∧ ∃ w' m' acc ds, w1.le w' ∧ w'.G L = some (.lst acc) ∧ Mem E.g w' H' m' ∧ Rvs E.g w' ds acc ∧
      PostE E.g w1 (xwOf W σ) Q ((mapL (lcF E.p E.c elt g cond (wipe sl own)) (xs.drop i) m').bind fun ys h => mkL obj (ds ++ ys) h),
    ⟨_, rfl, Nat.zero_le _, w1.wg (upd w1.G L (.lst [])), m1, [], [], leD, upd_same, MD, .nil, by simpa using h1⟩, ?_⟩
  rintro i k H' ⟨rfl, hi, w', m', acc, ds, le', hG, M', rs, hp⟩
  by_cases hlt : i < xs.length
  · refine .inr ⟨wk.go i w' H' m' le' M' hlt, fun H'' => ∃ w' m' acc ds, w1.le w' ∧ w'.G L = some (.lst acc) ∧ Mem E.g w' H'' m' ∧ Rvs E.g w' ds acc ∧
        PostE E.g w1 (xwOf W σ) Q ((mapL (lcF E.p E.c elt g cond (wipe sl own)) (xs.drop (i + 1)) m').bind fun ys h => mkL obj (ds ++ ys) h),
      fun H'' hn => ⟨xs.length - (i + 1), by omega, rfl, hlt, hn⟩, fun x H2 y => ?_⟩
    obtain ⟨d, w2, hd, le2, M2, rd⟩ := wk.yld i x w' H' H2 m' le' M' hlt y
    have ed : xs.drop i = d :: xs.drop (i + 1) := by
      rw [List.drop_eq_getElem_cons hlt]
      rw [List.getElem?_eq_getElem hlt] at hd
      rw [Option.some.inj hd]
    rw [ed] at hp
    have hp2 : PostE E.g w1 (xwOf W σ) Q (((lcF E.p E.c elt g cond (wipe sl own) d m').bind fun y h => (mapL (lcF E.p E.c elt g cond (wipe sl own)) (xs.drop (i + 1)) h).bind fun ys h => match y with
        | some y => .ok (y :: ys) h
        | none => .ok ys h).bind fun ys h => mkL obj (ds ++ ys) h) := hp
    have le12 := le'.trans le2
    have S2 : Slr E.g w2 sl σ := S1.mono le12
    cases hb : bindT g d (wipe sl own) with
    | none =>
      unfold lcF at hp2
      rw [hb] at hp2
      exact absurd hp2 id
    | some sl' =>
      refine ⟨w2, m', d, wipe sl own, sl', M2, rd, S2.wipe own, hb, fun σ2 Sσ sb => ⟨wipe_same sb hg, ?_⟩⟩
      -- the element, kept
      have keep : ∀ (w3 : Wd) (H3 : Hp) (m3 : Mm), w2.le w3 → Mem E.g w3 H3 m3 → PostE E.g w1 (xwOf W σ) Q ((((R.noExn (evalE E.p E.c elt sl' m3)).bind fun y h => (.ok (some y) h : Res Mm (Option D))).bind fun y h => (mapL (lcF E.p E.c elt g cond (wipe sl own)) (xs.drop (i + 1)) h).bind fun ys h => match y with
          | some y => .ok (y :: ys) h
          | none => .ok ys h).bind fun ys h => mkL obj (ds ++ ys) h) →
          rdE E (fun _ _ _ _ => False) elt σ2 H3 fun y H4 => ∃ acc, H4 L = some (.lst acc) ∧ acc.length < sizeLine ∧ ∃ w' m' acc' ds, w1.le w' ∧ w'.G L = some (.lst acc') ∧ Mem E.g w' (upd H4 L (.lst (acc ++ [y]))) m' ∧ Rvs E.g w' ds acc' ∧
            PostE E.g w1 (xwOf W σ) Q ((mapL (lcF E.p E.c elt g cond (wipe sl own)) (xs.drop (i + 1)) m').bind fun ys h => mkL obj (ds ++ ys) h) := by
        intro w3 H3 m3 le3 M3 hp3
        refine ⟨w3, sl', m3, M3, Sσ.mono le3, ?_⟩
        cases qe : evalE E.p E.c elt sl' m3 with
        | bad => rw [qe] at hp3; exact absurd hp3 id
        | exn Ce p m4 => rw [qe] at hp3; exact absurd hp3 id
        | ok e m4 =>
          rw [qe] at hp3
          have hp4 : PostE E.g w1 (xwOf W σ) Q (((mapL (lcF E.p E.c elt g cond (wipe sl own)) (xs.drop (i + 1)) m4).bind fun ys h => (.ok (e :: ys) h : Res Mm (List D))).bind fun ys h => mkL obj (ds ++ ys) h) := hp3
          intro w4 y H4 le4 M4 ry
          have g4 : w4.G L = some (.lst acc) := le4.gr _ _ (le3.gr _ _ (le2.gr _ _ hG))
          have le14 : w1.le w4 := (le12.trans le3).trans le4
          -- the rest ends
          have rest : ∃ ys m5, mapL (lcF E.p E.c elt g cond (wipe sl own)) (xs.drop (i + 1)) m4 = .ok ys m5 := by
            cases qm : mapL (lcF E.p E.c elt g cond (wipe sl own)) (xs.drop (i + 1)) m4 with
            | bad => rw [qm] at hp4; exact absurd hp4 id
            | exn Ce p m5 => exact absurd qm (mapL_noexn lcF_noexn)
            | ok ys m5 => exact ⟨ys, m5, rfl⟩
          obtain ⟨ys, m5, qm⟩ := rest
          rw [qm] at hp4
          have hp5 : PostE E.g w1 (xwOf W σ) Q (mkL obj (ds ++ (e :: ys)) m5) := hp4
          have sz := mkL_size hp5
          rw [List.length_append, List.length_cons, rs.length] at sz
          refine ⟨acc, M4.gr _ _ g4, by omega, w4.wg (upd w4.G L (.lst (acc ++ [y]))), m4, acc ++ [y], ds ++ [e], ⟨⟨le14.fr, le14.len, le14.at_⟩, fun a o q => ?_⟩, upd_same, M4.turned g4, ?_, ?_⟩
          · show upd w4.G L _ a = some o
            rw [upd_ne (nG a o q)]; exact le14.gr a o q
          · exact ((((rs.mono le2).mono le3).mono le4).append (.cons ry .nil)).mono' (lf_G w4 _)
          · rw [qm]
            show PostE E.g w1 (xwOf W σ) Q (mkL obj ((ds ++ [e]) ++ ys) m5)
            rw [List.append_assoc]
            exact hp5
      unfold lcF at hp2
      rw [hb] at hp2
      cases cond with
      | none => exact keep w2 H2 m' (Wd.le.refl _) M2 hp2
      | some k =>
        refine ⟨w2, sl', m', M2, Sσ, ?_⟩
        show Post _ _ _ _ _ (evalT E.p E.c k sl' m')
        unfold evalT
        dsimp only at hp2
        cases qk : evalE E.p E.c k sl' m' with
        | bad => rw [qk] at hp2; exact absurd hp2 id
        | exn Ce p m4 => rw [qk] at hp2; exact absurd hp2 id
        | ok t m3 =>
          rw [qk] at hp2
          rw [Res.bind_ok]
          have hp3 : PostE E.g w1 (xwOf W σ) Q (((match truthD m3 t with
              | some true => (R.noExn (evalE E.p E.c elt sl' m3)).bind fun y h => .ok (some y) h
              | some false => .ok none m3
              | none => .bad : Res Mm (Option D)).bind fun y h => (mapL (lcF E.p E.c elt g (some k) (wipe sl own)) (xs.drop (i + 1)) h).bind fun ys h => match y with
              | some y => .ok (y :: ys) h
              | none => .ok ys h).bind fun ys h => mkL obj (ds ++ ys) h) := hp2
          cases qt : truthD m3 t with
          | none => rw [qt] at hp3; exact absurd hp3 id
          | some b =>
            rw [qt] at hp3
            intro w3 b' H3 le3 M3 eb
            subst eb
            cases b with
            | true => exact keep w3 H3 m3 le3 M3 hp3
            | false =>
              refine ⟨w3, m3, acc, ds, le12.trans le3, le3.gr _ _ (le2.gr _ _ hG), M3, (rs.mono le2).mono le3, ?_⟩
              have e2 : ((Res.ok (none : Option D) m3).bind fun y h => (mapL (lcF E.p E.c elt g (some k) (wipe sl own)) (xs.drop (i + 1)) h).bind fun ys h => match y with
                | some y => (.ok (y :: ys) h : Res Mm (List D))
                | none => .ok ys h) = mapL (lcF E.p E.c elt g (some k) (wipe sl own)) (xs.drop (i + 1)) m3 := by
                rw [Res.bind_ok]
                cases mapL (lcF E.p E.c elt g (some k) (wipe sl own)) (xs.drop (i + 1)) m3 <;> rfl
              dsimp only at hp3
              rw [e2] at hp3
              exact hp3
  · have e : i = xs.length := by omega
    subst e
    refine .inl ⟨wk.stop _ w' H' m' le' M' (Nat.le_refl _), ?_⟩
    rw [List.drop_length] at hp
    have hp : PostE E.g w1 (xwOf W σ) Q (mkL obj (ds ++ []) m') := hp
    rw [List.append_nil] at hp
    exact mk_end hp le'.tolf (fun a o q => ⟨nG a o q, le'.gr a o q⟩) M' hG rs

/-! ### the rules -/
def JC (E : En) (N : List Str) (sc : Scope) (cond : Option ME) (ifs : List Expr) : Prop := ∀ X : Cx, Cok E N sc X → PTs X ifs (condT E cond)
theorem jc_none : JC E N sc none [] := fun X C => pts_nil
theorem jc_some {k : ME} {e : Expr} (h : JT E N sc k e) : JC E N sc (some k) [e] := fun X C => pts_one (h X _ C takes0)
def ownOf (N : List Str) (own : List Nat) : List (Str × Nat) := own.filterMap fun i => (N[i]?).map fun x => (x, i)
theorem ownOf_ix {N : List Str} : ∀ {own : List Nat}, (∀ i ∈ own, i < N.length) → (ownOf N own).map (·.2) = own
  | [], _ => rfl
  | i :: is, h => by
    have hi := h i List.mem_cons_self
    have ih := ownOf_ix (N := N) (own := is) fun j hj => h j (List.mem_cons_of_mem _ hj)
    unfold ownOf at ih ⊢
    rw [List.filterMap_cons, List.getElem?_eq_getElem hi]
    show i :: _ = i :: is
    rw [ih]
def notSetE : Expr → Bool
  | .Set _ _ _ => false
  | _ => true
theorem noFold (iter : Expr) (h : notSetE iter = true) : ∀ env x, foldedSetIterable iter env x = pure x := by
  intro env x
  cases iter <;> first | rfl | cases h
theorem je_lc {obj : Bool} {elt : ME} {g : Tg} {it : It} {cond : Option ME} {own : List Nat} {eelt tg iter : Expr} {ifs : List Expr} {scope : Scope} (ho : ∀ i ∈ own, i < N.length) (hg : ∀ i ∈ g.ix, i ∈ own) (hb : blkC N sc scope (ownOf N own) = true) (hns : notSetE iter = true)
    (hi : JI E N sc it tg iter) (ht : JG E N (relS scope sc) (fun x => scope.names.lookup x == some .cell) g tg) (hc : JC E N (relS scope sc) cond ifs) (he : JE E N (relS scope sc) elt eelt) :
    JE E N sc (.lc obj elt g it cond own) (.ListComp eelt [⟨tg, iter, ifs, 0⟩] scope pos) := fun X W C tk => by
  have h := pe_lc (X := X) (own := ownOf N own) (pos := pos) C.calm (by rw [C.Ns]; exact C.nd) (hi X W C tk) (blkOk_by (by rw [C.Ns, C.sc]; exact hb)) (fun s H A cl fp => ht _ (C.blk (s := s) (H := H)) rfl) (fun s H A cl fp => hc _ (C.blk (s := s) (H := H))) (fun s H A cl fp => he _ (fun _ _ _ _ => False) (C.blk (s := s) (H := H)) takes0) (noFold iter hns X.env)
  rw [ownOf_ix ho] at h
  exact PE.imp h fun σ H Q h => lc_read (K := X.K) hg h
end R

/-! RSnd9: statements. -/
namespace R
open PySem PySem.Spec PyProof.Rows L2
variable {E : En} {N : List Str} {sc : Scope} {fs : Str → Bool} {a b : ME} {ea eb : Expr} {pos : Pos}

/-! ### the frozen form -/
section
variable {g : Gm} {H : Hp}
theorem thr_rel {α : Type} {β γ : Type} {R1 : Wd → α → γ → Prop} {R2 : Wd → β → γ → Prop} (m1 : ∀ {w w' : Wd} {a c}, w.le w' → R1 w a c → R1 w' a c) (m2 : ∀ {w w' : Wd} {a c}, w.le w' → R2 w a c → R2 w' a c) {f : α → Mm → Option (β × Mm)}
    (hf : ∀ x m w v y m', Mem g w H m → R1 w x v → f x m = some (y, m') → ∃ w', w.le w' ∧ Mem g w' H m' ∧ R2 w' y v) :
    ∀ (xs : List α) (vs : List γ) (m : Mm) (w : Wd) ys m', Mem g w H m → Paired (R1 w) xs vs → thr f xs m = some (ys, m') → ∃ w', w.le w' ∧ Mem g w' H m' ∧ Paired (R2 w') ys vs := by
  intro xs
  induction xs with
  | nil =>
    intro vs m w ys m' M r e
    cases r
    simp [thr] at e
    obtain ⟨rfl, rfl⟩ := e
    exact ⟨w, Wd.le.refl _, M, .nil⟩
  | cons x xs ih =>
    intro vs m w ys m' M r e
    cases r with
    | cons r1 rr =>
      unfold thr at e
      rw [Option.bind_eq_some_iff] at e
      obtain ⟨⟨y, m1'⟩, e1, e⟩ := e
      rw [Option.bind_eq_some_iff] at e
      obtain ⟨⟨ys', m2'⟩, e2, e⟩ := e
      cases e
      obtain ⟨w1, le1, M1, q1⟩ := hf x m w _ y m1' M r1 e1
      obtain ⟨w2, le2, M2, q2⟩ := ih _ m1' w1 ys' m2' M1 (Paired.mapP rr fun a b z => m1 le1 z) e2
      exact ⟨w2, le1.trans le2, M2, .cons (m2 le2 q1) q2⟩
theorem Rvs.pair {w : Wd} : ∀ {ds : List D} {vs : List V}, Rvs g w ds vs → Paired (Rv g w) ds vs
  | _, _, .nil => .nil
  | _, _, .cons h r => .cons h (Rvs.pair r)
theorem Rvs.ofPair {w : Wd} : ∀ {ds : List D} {vs : List V}, Paired (Rv g w) ds vs → Rvs g w ds vs
  | _, _, .nil => .nil
  | _, _, .cons h r => .cons h (Rvs.ofPair r)
def Rf1 (g : Gm) (w : Wd) (p : Nat × D) (q : Str × V) : Prop := q.1 = g.att p.1 ∧ Rv g w p.2 q.2
def Rk1 (g : Gm) (w : Wd) (p : Key × D) (q : Key × V) : Prop := q.1 = p.1 ∧ Rv g w p.2 q.2
theorem Rfs.pair {w : Wd} : ∀ {ds : List (Nat × D)} {vs : List (Str × V)}, Rfs g w ds vs → Paired (Rf1 g w) ds vs
  | _, _, .nil => .nil
  | _, _, .cons h r => .cons ⟨rfl, h⟩ (Rfs.pair r)
theorem Rfs.ofPair {w : Wd} : ∀ {ds : List (Nat × D)} {vs : List (Str × V)}, Paired (Rf1 g w) ds vs → Rfs g w ds vs
  | _, _, .nil => .nil
  | (f, d) :: _, (x, v) :: _, .cons h r => by
    obtain ⟨h1, h2⟩ := h
    have h1 : x = g.att f := h1
    subst h1
    exact .cons h2 (Rfs.ofPair r)
theorem Rkv.pair {w : Wd} : ∀ {ds : List (Key × D)} {vs : List (Key × V)}, Rkv g w ds vs → Paired (Rk1 g w) ds vs
  | _, _, .nil => .nil
  | _, _, .cons h r => .cons ⟨rfl, h⟩ (Rkv.pair r)
theorem Rkv.ofPair {w : Wd} : ∀ {ds : List (Key × D)} {vs : List (Key × V)}, Paired (Rk1 g w) ds vs → Rkv g w ds vs
  | _, _, .nil => .nil
  | (f, d) :: _, (x, v) :: _, .cons h r => by
    obtain ⟨h1, h2⟩ := h
    have h1 : x = f := h1
    subst h1
    exact .cons h2 (Rkv.ofPair r)
theorem frzN_rel : ∀ (k : Nat) (d : D) (m : Mm) (w : Wd) (v : V) (d' : D) (m' : Mm), Mem g w H m → Rv g w d v → frzN k d m = some (d', m') → ∃ w', w.le w' ∧ Mem g w' H m' ∧ Rv g w' d' v := by
  intro k
  induction k with
  | zero => intro d m w v d' m' M r e; simp [frzN] at e
  | succ k ih =>
    intro d m w v d' m' M r e
    have lists : ∀ (xs : List D) (vs : List V) (m : Mm) (w : Wd) ys m', Mem g w H m → Rvs g w xs vs → thr (frzN k) xs m = some (ys, m') → ∃ w', w.le w' ∧ Mem g w' H m' ∧ Rvs g w' ys vs := fun xs vs m w ys m' M r e => by
      obtain ⟨w', h1, h2, h3⟩ := thr_rel (R1 := Rv g) (R2 := Rv g) (fun le h => h.mono le) (fun le h => h.mono le) (fun x m w v y m' M r e => ih x m w v y m' M r e) xs vs m w ys m' M r.pair e
      exact ⟨w', h1, h2, .ofPair h3⟩
    have flds : ∀ (xs : List (Nat × D)) (vs : List (Str × V)) (m : Mm) (w : Wd) ys m', Mem g w H m → Rfs g w xs vs → thr (fun p h => (frzN k p.2 h).map fun q => ((p.1, q.1), q.2)) xs m = some (ys, m') → ∃ w', w.le w' ∧ Mem g w' H m' ∧ Rfs g w' ys vs := fun xs vs m w ys m' M r e => by
      obtain ⟨w', h1, h2, h3⟩ := thr_rel (R1 := Rf1 g) (R2 := Rf1 g) (fun le h => ⟨h.1, h.2.mono le⟩) (fun le h => ⟨h.1, h.2.mono le⟩) (fun x m w v y m' M r e => by
        rw [Option.map_eq_some_iff] at e
        obtain ⟨⟨d1, m1⟩, e1, e2⟩ := e
        cases e2
        obtain ⟨w', h1, h2, h3⟩ := ih x.2 m w v.2 d1 m1 M r.2 e1
        exact ⟨w', h1, h2, r.1, h3⟩) xs vs m w ys m' M r.pair e
      exact ⟨w', h1, h2, .ofPair h3⟩
    have kvs : ∀ (xs : List (Key × D)) (vs : List (Key × V)) (m : Mm) (w : Wd) ys m', Mem g w H m → Rkv g w xs vs → thr (fun p h => (frzN k p.2 h).map fun q => ((p.1, q.1), q.2)) xs m = some (ys, m') → ∃ w', w.le w' ∧ Mem g w' H m' ∧ Rkv g w' ys vs := fun xs vs m w ys m' M r e => by
      obtain ⟨w', h1, h2, h3⟩ := thr_rel (R1 := Rk1 g) (R2 := Rk1 g) (fun le h => ⟨h.1, h.2.mono le⟩) (fun le h => ⟨h.1, h.2.mono le⟩) (fun x m w v y m' M r e => by
        rw [Option.map_eq_some_iff] at e
        obtain ⟨⟨d1, m1⟩, e1, e2⟩ := e
        cases e2
        obtain ⟨w', h1, h2, h3⟩ := ih x.2 m w v.2 d1 m1 M r.2 e1
        exact ⟨w', h1, h2, r.1, h3⟩) xs vs m w ys m' M r.pair e
      exact ⟨w', h1, h2, .ofPair h3⟩
    simp only [frzN] at e
    by_cases hn : nr d = true
    · rw [if_pos hn] at e
      cases e
      exact ⟨w, Wd.le.refl _, M, r⟩
    rw [if_neg hn] at e
    cases r with
    | non => cases e
    | bl b => cases e
    | int i => cases e
    | str x => cases e
    | tup h r =>
      simp only [Option.map_eq_some_iff] at e
      obtain ⟨⟨ys, m1⟩, e1, e2⟩ := e
      cases e2
      obtain ⟨w', h1, h2, h3⟩ := lists _ _ _ _ _ _ M r e1
      exact ⟨w', h1, h2, .tup (sqT_mono h1.fr h) h3⟩
    | lst h r =>
      simp only [Option.map_eq_some_iff] at e
      obtain ⟨⟨ys, m1⟩, e1, e2⟩ := e
      cases e2
      obtain ⟨w', h1, h2, h3⟩ := lists _ _ _ _ _ _ M r e1
      exact ⟨w', h1, h2, .lst (h1.fr _ _ h) h3⟩
    | scr h r =>
      simp only [Option.map_eq_some_iff] at e
      obtain ⟨⟨ys, m1⟩, e1, e2⟩ := e
      cases e2
      obtain ⟨w', h1, h2, h3⟩ := lists _ _ _ _ _ _ M r e1
      exact ⟨w', h1, h2, .scr (sqL_mono h1.fr h) h3⟩
    | ins hc h r =>
      simp only [Option.map_eq_some_iff] at e
      obtain ⟨⟨ys, m1⟩, e1, e2⟩ := e
      cases e2
      obtain ⟨w', h1, h2, h3⟩ := flds _ _ _ _ _ _ M r e1
      exact ⟨w', h1, h2, .ins hc (h1.fr _ _ h) h3⟩
    | dct h r =>
      simp only [Option.map_eq_some_iff] at e
      obtain ⟨⟨ys, m1⟩, e1, e2⟩ := e
      cases e2
      obtain ⟨w', h1, h2, h3⟩ := kvs _ _ _ _ _ _ M r e1
      exact ⟨w', h1, h2, .dct (h1.fr _ _ h) h3⟩
    | ref n hn =>
      dsimp only at e
      split at e
      · rename_i xs en
        rw [Option.map_eq_some_iff] at e
        obtain ⟨⟨ys, m1⟩, e1, e2⟩ := e
        cases e2
        obtain ⟨vs, hv, rv⟩ := M.ob n _ en
        obtain ⟨le, M'⟩ := M.give en trivial hv
        obtain ⟨w', h1, h2, h3⟩ := lists _ _ _ _ _ _ M' (rv.mono le) e1
        exact ⟨w', le.trans h1, h2, .lst (h1.fr _ _ upd_same) h3⟩
      · rename_i C xs en
        rw [Option.map_eq_some_iff] at e
        obtain ⟨⟨ys, m1⟩, e1, e2⟩ := e
        cases e2
        obtain ⟨hc, dx, vs, hv, rv⟩ := M.ob n _ en
        obtain ⟨le, M'⟩ := M.give en trivial hv
        obtain ⟨w', h1, h2, h3⟩ := flds _ _ _ _ _ _ M' (rv.mono le) e1
        exact ⟨w', le.trans h1, h2, .ins hc (h1.fr _ _ upd_same) h3⟩
      · rename_i xs en
        rw [Option.map_eq_some_iff] at e
        obtain ⟨⟨ys, m1⟩, e1, e2⟩ := e
        cases e2
        obtain ⟨vs, hv, rv⟩ := M.ob n _ en
        obtain ⟨le, M'⟩ := M.give en trivial hv
        obtain ⟨w', h1, h2, h3⟩ := kvs _ _ _ _ _ _ M' (rv.mono le) e1
        exact ⟨w', le.trans h1, h2, .dct (h1.fr _ _ upd_same) h3⟩
      · cases e
end
theorem je_frz (ha : JE E N sc a ea) : JE E N sc (.frz a) ea := fun X W C tk => PE.imp (ha X W C tk) fun σ H Q h => by
  obtain ⟨w, sl, m, M, S, h⟩ := h
  unfold evalE at h
  refine rd_bind M S h fun d m1 w1 v H1 le1 M1 S1 r1 h1 => ?_
  unfold frzD at h1
  split at h1
  · rename_i d' m2 e
    obtain ⟨w2, le2, M2, r2⟩ := frzN_rel 9 d m1 w1 v d' m2 M1 r1 e
    exact h1 w2 v H1 le2 M2 r2
  · exact absurd h1 id

/-! ### what a statement leaves -/
def PostS (g : Gm) (w : Wd) (W : WX) (D : Ends) : Res Sx Fl → Prop
  | .ok .nx s => ∀ w' σ' H', w.le w' → Mem g w' H' s.hp → Slr g w' s.sl σ' → D.nx σ' H'
  | .ok .bk s => ∀ w' σ' H', w.le w' → Mem g w' H' s.hp → Slr g w' s.sl σ' → D.bk σ' H'
  | .ok .ct s => ∀ w' σ' H', w.le w' → Mem g w' H' s.hp → Slr g w' s.sl σ' → D.ct σ' H'
  | .ok (.rt d) s => ∀ w' v H', w.le w' → Mem g w' H' s.hp → Rv g w' d v → D.rt v H'
  | .exn C p s => ∀ w' σ' cls dx H', w.le w' → Mem g w' H' s.hp → Slr g w' s.sl σ' → XR g C p cls → W cls dx σ' H'
  | .bad => False
theorem PostS.mono {g : Gm} {w w' : Wd} {W : WX} {D : Ends} (le : w.le w') : ∀ {r : Res Sx Fl}, PostS g w W D r → PostS g w' W D r
  | .ok .nx _, h => fun u s H' l => h u s H' (le.trans l)
  | .ok .bk _, h => fun u s H' l => h u s H' (le.trans l)
  | .ok .ct _, h => fun u s H' l => h u s H' (le.trans l)
  | .ok (.rt _) _, h => fun u s H' l => h u s H' (le.trans l)
  | .exn _ _ _, h => fun u s c d H' l => h u s c d H' (le.trans l)
  | .bad, h => h
def rdS (E : En) (W : WX) (ms : MS) : TS := fun D σ H => ∃ w sl m, Mem E.g w H m ∧ Slr E.g w sl σ ∧ PostS E.g w W D (execS E.p E.c ms ⟨sl, m⟩)
def rdSs (E : En) (W : WX) (ms : List MS) : TS := fun D σ H => ∃ w sl m, Mem E.g w H m ∧ Slr E.g w sl σ ∧ PostS E.g w W D (execSs E.p E.c ms ⟨sl, m⟩)
/-- a body's context -/
structure Sok (E : En) (N : List Str) (sc : Scope) (fs : Str → Bool) (X : Cx) (W : WX) : Prop where
  C : Cok E N sc X
  fn : X.fn = fs
  tk : Takes X W
  po : PassesOwn (model X.prog X.w) X.A X.env X.xe
  kd : sc.kind = .function
def JS (E : En) (N : List Str) (sc : Scope) (fs : Str → Bool) (ms : MS) (st : Stmt) : Prop := ∀ X W, Sok E N sc fs X W → PS X st (rdS E W ms)
def JSs (E : En) (N : List Str) (sc : Scope) (fs : Str → Bool) (ms : List MS) (st : List Stmt) : Prop := ∀ X W, Sok E N sc fs X W → PSs X st (rdSs E W ms)
theorem PS.imp {X : Cx} {st : Stmt} {t t' : TS} (h : PS X st t) (k : ∀ D σ H, t' D σ H → t D σ H) : PS X st t' := ⟨fun pins s σ H D I q => h.run pins s σ H D I (k _ _ _ q)⟩
theorem PSs.imp {X : Cx} {st : List Stmt} {t t' : TS} (h : PSs X st t) (k : ∀ D σ H, t' D σ H → t D σ H) : PSs X st t' := ⟨fun pins s σ H D I q => h.run pins s σ H D I (k _ _ _ q)⟩
/-- an expression of a statement, what follows taken up -/
theorem up_bind {α β : Type} {Rl : Wd → α → β → Prop} {W : WX} {D : Ends} {σ : L2.St} {H : Hp} {Q' : β → Hp → Prop} {w : Wd} {sl : List (Option R.D)} {m : Mm} {r : List (Option R.D) → Mm → Res Mm α} {f : α → Mm → Res Sx Fl}
    (M : Mem E.g w H m) (S : Slr E.g w sl σ) (h : PostS E.g w W D (up sl (r sl m) f))
    (k : ∀ d m' w' v H', w.le w' → Mem E.g w' H' m' → Slr E.g w' sl σ → Rl w' d v → PostS E.g w' W D (f d m') → Q' v H') : rdOf Rl E W r σ H Q' := by
  refine ⟨w, sl, m, M, S, ?_⟩
  cases q : r sl m with
  | ok d m1 =>
    rw [q] at h
    exact fun w' v H' le M' rv => k d m1 w' v H' le M' (S.mono le) rv (PostS.mono le h)
  | exn C p m1 =>
    rw [q] at h
    exact fun w' cls dx H' le M' x => h w' σ cls dx H' le M' (S.mono le) x
  | bad => rw [q] at h; exact h

/-! ### small statements -/
theorem js_ex (hc : notComp ea = true) (ha : JE E N sc a ea) : JS E N sc fs (.ex a) (.Expr ea pos) := fun X W K => by
  refine PS.imp (ps_expr (ha X W K.C K.tk) (swaps_of hc)) fun D σ H h => ?_
  obtain ⟨w, sl, m, M, S, h⟩ := h
  unfold execS at h
  exact up_bind M S h fun d m1 w1 v H1 le1 M1 S1 r1 h1 => h1 w1 σ H1 (Wd.le.refl _) M1 S1
theorem js_ret (ha : JE E N sc a ea) : JS E N sc fs (.ret a) (.Return (some ea) pos) := fun X W K => by
  refine PS.imp (ps_ret (ha X W K.C K.tk)) fun D σ H h => ?_
  obtain ⟨w, sl, m, M, S, h⟩ := h
  unfold execS at h
  exact up_bind M S h fun d m1 w1 v H1 le1 M1 S1 r1 h1 => h1 w1 v H1 (Wd.le.refl _) M1 r1
theorem js_retn : JS E N sc fs .retn (.Return none pos) := fun X W K => PS.imp ps_retN fun D σ H h => by
  obtain ⟨w, sl, m, M, S, h⟩ := h
  unfold execS at h
  exact h w .non H (Wd.le.refl _) M .non
/-- what the comprehension of 'y = [..]' is stored by -/
def swapB (sc : Scope) (y : Str) (py : Pos) (e : Expr) : Bool := match e with
  | .ListComp _ _ scope p => (match sc.names.lookup y with | some .local => true | _ => false) && (py.line == p.line) && !(scope.names.any fun (n, k) => n == y && (k == .local || k == .cell))
  | _ => false
def isComp2 : Expr → Bool
  | .SetComp _ _ _ _ => false
  | .DictComp _ _ _ _ _ => false
  | _ => true
theorem swap_false {env : Env} {y : Str} {py : Pos} {l : Nat} {e : Expr} (hk : env.scope.kind = .function) (h2 : isComp2 e = true) (h : swapB env.scope y py e = false) : swapsWith e (some (.Name y py)) l env = pure false := by
  have hb : env.blockKind = .function := by unfold Env.blockKind; rw [hk]; rfl
  cases e with
  | ListComp elt gs scope p =>
    have e1 : swapsWith (.ListComp elt gs scope p) (some (.Name y py)) l env = pure (env.blockKind == .function && env.kindOf y == some .local && py.line == p.line && !(scope.names.any fun (n, k) => n == y && (k == .local || k == .cell))) := rfl
    rw [e1, hb]
    unfold swapB at h
    dsimp only at h
    have e2 : (env.kindOf y == some .local) = (match env.scope.names.lookup y with | some .local => true | _ => false) := by
      show (env.scope.names.lookup y == some .local) = _
      cases env.scope.names.lookup y with
      | none => rfl
      | some k => cases k <;> rfl
    rw [e2]
    have e3 : (ScopeKind.function == ScopeKind.function) = true := rfl
    rw [e3, Bool.true_and, h]
  | SetComp _ _ _ _ => cases h2
  | DictComp _ _ _ _ _ => cases h2
  | _ => rfl
theorem js_set {i : Nat} {x : Str} {pn : Pos} (h1 : N[i]? = some x) (h2 : locB sc fs x = true) (hc : isComp2 ea = true) (hw : swapB sc x pn ea = false) (ha : JE E N sc a ea) : JS E N sc fs (.set i a) (.Assign [.Name x pn] ea pos) := fun X W K => by
  have l := loc_of h2
  refine PS.imp (ps_set (X := X) (i := i) (by rw [K.C.Ns]; exact K.C.nd) (by rw [K.C.Ns]; exact h1) (by rw [K.C.sc]; exact l.1) (ha X W K.C K.tk) (swap_false (by rw [K.C.sc]; exact K.kd) hc (by rw [K.C.sc]; exact hw)) (by rw [K.fn, K.C.sc]; exact l.2)) fun D σ H h => ?_
  obtain ⟨w, sl, m, M, S, h⟩ := h
  unfold execS at h
  exact up_bind M S h fun d m1 w1 v H1 le1 M1 S1 r1 h1 => h1 w1 _ H1 (Wd.le.refl _) M1 (S1.set r1)
theorem js_setc {i : Nat} {x : Str} {pn : Pos} {obj : Bool} {elt : ME} {g : Tg} {it : It} {cond : Option ME} {own : List Nat} {eelt tg iter : Expr} {ifs : List Expr} {scope : Scope} {cpos : Pos} (h1 : N[i]? = some x) (hw : swapB sc x pn (.ListComp eelt [⟨tg, iter, ifs, 0⟩] scope cpos) = true)
    (ho : ∀ i ∈ own, i < N.length) (hg : ∀ i ∈ g.ix, i ∈ own) (hb : blkC N sc scope (ownOf N own) = true) (hns : notSetE iter = true)
    (hi : JI E N sc it tg iter) (ht : JG E N (relS scope sc) (fun x => scope.names.lookup x == some .cell) g tg) (hc : JC E N (relS scope sc) cond ifs) (he : JE E N (relS scope sc) elt eelt) :
    JS E N sc fs (.set i (.lc obj elt g it cond own)) (.Assign [.Name x pn] (.ListComp eelt [⟨tg, iter, ifs, 0⟩] scope cpos) pos) := fun X W K => by
  have C := K.C
  have hy : X.env.scope.names.lookup x = some .local ∧ (pn.line == cpos.line) = true ∧ (scope.names.any fun (n, k) => n == x && (k == .local || k == .cell)) = false := by
    rw [C.sc]
    unfold swapB at hw
    dsimp only at hw
    simp only [Bool.and_eq_true, Bool.not_eq_true'] at hw
    refine ⟨?_, hw.1.2, hw.2⟩
    have q := hw.1.1
    split at q
    · assumption
    · cases q
  have h := ps_setLc (X := X) (i := i) (own := ownOf N own) (pos := cpos) (spos := pos) C.calm (by rw [C.Ns]; exact C.nd) (by rw [C.Ns]; exact h1) hy.1 (sw_true (by rw [C.sc]; exact K.kd) hy.1 hy.2.1 hy.2.2) (hi X W C K.tk) (blkOk_by (by rw [C.Ns, C.sc]; exact hb))
    (fun s H A cl fp => ht _ (C.blk (s := s) (H := H)) rfl) (fun s H A cl fp => hc _ (C.blk (s := s) (H := H))) (fun s H A cl fp => he _ (fun _ _ _ _ => False) (C.blk (s := s) (H := H)) takes0) (noFold iter hns X.env)
  rw [ownOf_ix ho] at h
  refine PS.imp h fun D σ H h => ?_
  refine lc_read (K := X.K) (obj := obj) (W := W) hg ?_
  obtain ⟨w, sl, m, M, S, h⟩ := h
  unfold execS at h
  exact up_bind M S h fun d m1 w1 v H1 le1 M1 S1 r1 h1 => h1 w1 _ H1 (Wd.le.refl _) M1 (S1.set r1)
theorem swapsSole {t e : Expr} {l : Nat} {env : Env} (h : notComp e = true) : swapsWithSole [t] e l env = pure false := swaps_of h
def notTup : Expr → Bool
  | .Tuple _ _ _ => false
  | _ => true
theorem stores_none {t e : Expr} {env : Env} (h : notTup e = true) : swappedStores [t] e env = pure none := by
  unfold swappedStores
  cases t <;> cases e <;> first | rfl | cases h
theorem js_unp {g : Tg} {tg : Expr} (hs : notStar tg = true) (hc : notComp ea = true) (ht : notTup ea = true) (hg : JG E N sc fs g tg) (ha : JE E N sc a ea) : JS E N sc fs (.unp g a) (.Assign [tg] ea pos) := fun X W K => by
  refine PS.imp (ps_asg (ha X W K.C K.tk) (hg X K.C K.fn) (swapsSole hc) (stores_none ht) (assignEach_of hs)) fun D σ H h => ?_
  obtain ⟨w, sl, m, M, S, h⟩ := h
  unfold execS at h
  refine up_bind M S h fun d m1 w1 v H1 le1 M1 S1 r1 h1 => ?_
  split at h1
  · rename_i sl' e
    exact ⟨w1, m1, d, sl, sl', M1, r1, S1, e, fun σ' S' _ => h1 w1 σ' H1 (Wd.le.refl _) M1 S'⟩
  · exact absurd h1 id
theorem swaps_attr {e o : Expr} {f : Str} {p : Pos} {l : Nat} {env : Env} : swapsWith e (some (.Attribute o f p)) l env = pure false := by
  cases e <;> rfl
theorem swaps_sub {e o i : Expr} {p : Pos} {l : Nat} {env : Env} : swapsWithSole [.Subscript o i p] e l env = pure false := by
  show swapsWith e (some (.Subscript o i p)) l env = pure false
  cases e <;> rfl
theorem stores_sub {e o i : Expr} {p : Pos} {env : Env} : swappedStores [.Subscript o i p] e env = pure none := by
  unfold swappedStores
  cases e <;> rfl
/-- a field is stored -/
theorem set_field (G : Gok E) {w : Wd} {H : Hp} {m m' : Mm} {d y : D} {x u : V} {f : Nat} (hf : f < E.cf.natt) (M : Mem E.g w H m) (rd : Rv E.g w d x) (ry : Rv E.g w y u) (e : setFD d f y m = some m') :
    ∃ p Ci dx fvs, x = .ref p ∧ H p = some (.ins (E.g.cad Ci) dx fvs) ∧ Cls E.g.K (E.g.cad Ci) ∧ NoAttr E.g.K (E.g.cad Ci) (E.g.att f) ∧ fvs.length < 1000 ∧ Mem E.g w (upd H p (.ins (E.g.cad Ci) dx (L2.putF (E.g.att f) u fvs))) m' ∧ clsD m d = some Ci := by
  unfold setFD at e
  split at e
  · split at e
    · rename_i n Ci fs' en
      split at e
      · rename_i hl
        cases e
        cases rd with
        | ref n hn =>
          obtain ⟨hc, dx, fvs, h1, rf⟩ := M.ob _ _ en
          obtain ⟨c1, c2⟩ := G.cls Ci hc
          refine ⟨_, Ci, dx, fvs, rfl, h1, c1, c2 f hf, by rw [← rf.len]; omega, ?_, by simp only [clsD, en]⟩
          exact M.write en trivial trivial ⟨hc, dx, _, upd_same, rf.put G.inj ry⟩
      · cases e
    · cases e
  · cases e
theorem js_setf (G : Gok E) {o : ME} {eo : Expr} {f : Nat} {p : Pos} (hf : f < E.cf.natt) (ho : JE E N sc o eo) (ha : JE E N sc a ea) : JS E N sc fs (.setf o f a) (.Assign [.Attribute eo (E.g.att f) p] ea pos) := fun X W K => by
  refine PS.imp (ps_fld (ho X W K.C K.tk) (ha X W K.C K.tk) swaps_attr) fun D σ H h => ?_
  obtain ⟨w, sl, m, M, S, h⟩ := h
  unfold execS at h
  refine up_bind M S h fun d m1 w1 v H1 le1 M1 S1 r1 h1 => ?_
  refine up_bind M1 S1 h1 fun y m2 w2 u H2 le2 M2 S2 r2 h2 => ?_
  split at h2
  · rename_i m3 e
    obtain ⟨q, Ci, dx, fvs, rfl, h3, c1, c2, hl, M3, _⟩ := set_field G hf M2 r2 (r1.mono le2) e
    exact ⟨q, _, dx, fvs, rfl, h3, by rw [K.C.K]; exact c1, by rw [K.C.K]; exact c2, hl, h2 w2 σ _ (Wd.le.refl _) M3 S2⟩
  · exact absurd h2 id
/-- an item is stored -/
theorem set_item {w : Wd} {H : Hp} {m m' : Mm} {o i d : D} {x y u : V} (M : Mem E.g w H m) (ro : Rv E.g w o x) (ri : Rv E.g w i y) (rd : Rv E.g w d u) (e : setID o i d m = some m') :
    ∃ p vs k j, x = .ref p ∧ y = .int k ∧ H p = some (.lst vs) ∧ ixN vs.length k = some j ∧ Mem E.g w (upd H p (.lst (vs.set j u))) m' := by
  cases ro with
  | ref n hn =>
    cases ri with
    | int k =>
      simp only [setID] at e
      split at e
      · rename_i xs en
        split at e
        · rename_i j ej
          cases e
          obtain ⟨vs, h1, rv⟩ := M.ob _ _ en
          refine ⟨_, vs, k, j, rfl, rfl, h1, by rw [← rv.length]; exact ej, ?_⟩
          exact M.write en trivial trivial ⟨_, upd_same, rv.set rd⟩
        · cases e
      · cases e
    | _ => simp [setID] at e
  | _ => simp [setID] at e
theorem js_seti {o i : ME} {eo ei : Expr} {p : Pos} (hp : plainIxB ei = true) (ho : JE E N sc o eo) (hi : JE E N sc i ei) (ha : JE E N sc a ea) : JS E N sc fs (.seti o i a) (.Assign [.Subscript eo ei p] ea pos) := fun X W K => by
  have hasg : ∀ v, assign (.Subscript eo ei p) X.env v = (do
      let ov ← holding [v] (eval eo X.env)
      let iv ← holding [v, ov] (eval ei X.env)
      standAt p
      holding [v, ov, iv] (setItem ov iv v)
      release [v, ov, iv] []) := by
    intro v
    cases ei <;> first | rfl | cases hp
  refine PS.imp (ps_asg (ha X W K.C K.tk) (pg_sub (ho X W K.C K.tk) (hi X W K.C K.tk) set_list hasg) swaps_sub stores_sub rfl) fun D σ H h => ?_
  obtain ⟨w, sl, m, M, S, h⟩ := h
  unfold execS at h
  refine up_bind M S h fun d m1 w1 v H1 le1 M1 S1 r1 h1 => ?_
  refine up_bind M1 S1 h1 fun y m2 w2 u H2 le2 M2 S2 r2 h2 => ?_
  refine up_bind M2 S2 h2 fun z m3 w3 t H3 le3 M3 S3 r3 h3 => ?_
  split at h3
  · rename_i m4 e
    obtain ⟨q, vs, k, j, rfl, rfl, h4, h5, M4⟩ := set_item M3 (r2.mono le3) r3 ((r1.mono le2).mono le3) e
    exact ⟨q, vs, k, j, rfl, rfl, h4, h5, h3 w3 σ _ (Wd.le.refl _) M4 S3⟩
  · exact absurd h3 id
/-! ### a slice is stored -/
def gSl (to : TE) (tl th : TO) : TG := fun v σ H Q => to σ H fun x H1 => tl σ H1 fun l H2 => th σ H2 fun u H3 => ∃ p b xs ys a c, x = .ref p ∧ v = .ref b ∧ l = some a ∧ u = some c ∧ H3 p = some (.lst xs) ∧ H3 b = some (.lst ys) ∧ p ≠ b ∧
  0 ≤ a ∧ a ≤ c ∧ c ≤ (xs.length : Int) ∧ xs.length + ys.length ≤ sizeLine ∧ Q σ (upd H3 p (.lst (xs.take a.toNat ++ ys ++ xs.drop c.toNat)))
theorem pg_sl {X : Cx} {o elo ehi : Expr} {to : TE} {tl th : TO} {p2 : Pos} (ho : PE X o to) (hl : PO X (some elo) tl) (hu : PO X (some ehi) th) : PG X (.Subscript o (.Slice (some elo) (some ehi) none p2) pos) (gSl to tl th) := by
  refine ⟨fun pins s σ H v u Q I r h => ?_⟩
  have ha : assign (.Subscript o (.Slice (some elo) (some ehi) none p2) pos) X.env u = (do
      let ov ← holding [u] (eval o X.env)
      let iv ← holding [u, ov] (eval (.Slice (some elo) (some ehi) none p2) X.env)
      standAt pos
      holding [u, ov, iv] (setItem ov iv u)
      release [iv, u, ov] []) := rfl
  rw [ha]
  refine wpAny_bind (wpAny_holding (thn (ho.run pins s σ H _ I h) fun ov s1 ⟨x, H1, I1, r1, q1⟩ => ?_))
  refine wpAny_bind (wpAny_holding (wpAny_Slice (thn (hl.run pins s1 σ H1 _ I1 q1) fun vl s2 ⟨l, H2, I2, pl, q2⟩ => thn (hu.run pins s2 σ H2 _ I2 q2) fun vu s3 ⟨u', H3, I3, pu, q3⟩ => ?_)))
  rw [evalPart_none]
  refine wpAny_pure ?_
  have I4 : Inv X pins σ H3 { s3 with heap := s3.heap.push { cls := .type "slice", data := .fields #[vl, vu, .none] } } := I3.kept (t' := s3.toks) fun b ob q => Heap.get?_push_of_some _ q
  obtain ⟨p, b, xs, ys, a, c, rfl, rfl, rfl, rfl, h1, h2, hne, h3, h4, h5, h6, q⟩ := q3
  cases r1
  cases r
  have isPart_int : ∀ {v : Value} {i : Int}, IsPart v (some i) → RelV (.int i) v := fun {v i} p => by
    cases p
    exact ⟨_, rfl⟩
  refine wpAny_bind (wpAny_standAt (wpAny_bind (wpAny_holding ?_)))
  refine set_slice I4 h1 h2 hne (Heap.IsSliceOf.new ..) (isPart_int pl) (isPart_int pu) h3 h4 h5 h6 fun s5 I5 => ?_
  exact wpAny_release ⟨σ, _, I5, q⟩
theorem swaps_slc {e o : Expr} {l u : Option Expr} {p p2 : Pos} {ln : Nat} {env : Env} : swapsWithSole [.Subscript o (.Slice l u none p2) p] e ln env = pure false := by
  show swapsWith e (some (.Subscript o (.Slice l u none p2) p)) ln env = pure false
  cases e <;> rfl
theorem stores_slc {e o : Expr} {l u : Option Expr} {p p2 : Pos} {env : Env} : swappedStores [.Subscript o (.Slice l u none p2) p] e env = pure none := by
  unfold swappedStores
  cases e <;> rfl
theorem js_setsl {o i k : ME} {eo ei ek : Expr} {p p2 : Pos} (ho : JE E N sc o eo) (hi : JE E N sc i ei) (hk : JE E N sc k ek) (ha : JE E N sc a ea) : JS E N sc fs (.setsl o i k a) (.Assign [.Subscript eo (.Slice (some ei) (some ek) none p2) p] ea pos) := fun X W K => by
  refine PS.imp (ps_asg (ha X W K.C K.tk) (pg_sl (ho X W K.C K.tk) (po_some (hi X W K.C K.tk)) (po_some (hk X W K.C K.tk))) swaps_slc stores_slc rfl) fun D σ H h => ?_
  obtain ⟨w, sl, m, M, S, h⟩ := h
  unfold execS at h
  refine up_bind M S h fun d m1 w1 v H1 le1 M1 S1 r1 h1 => ?_
  refine up_bind M1 S1 h1 fun y m2 w2 u H2 le2 M2 S2 r2 h2 => ?_
  refine up_bind M2 S2 h2 fun z m3 w3 t H3 le3 M3 S3 r3 h3 => ?_
  split at h3
  · cases r3
    refine ⟨_, rfl, ?_⟩
    refine up_bind M3 S3 h3 fun z2 m4 w4 t2 H4 le4 M4 S4 r4 h4 => ?_
    split at h4
    · cases r4
      refine ⟨_, rfl, ?_⟩
      split at h4
      · rename_i m5 e5
        have ro := (r2.mono le3).mono le4
        have rd := ((r1.mono le2).mono le3).mono le4
        unfold setSD at e5
        split at e5
        · rename_i nn
          split at e5
          · rename_i xs ys en ey
            split at e5
            · rename_i hc
              cases e5
              simp only [Bool.and_eq_true, decide_eq_true_eq] at hc
              obtain ⟨⟨⟨⟨c1, c2⟩, c3⟩, c4⟩, c5⟩ := hc
              have c4 := szOk_le c4
              obtain ⟨b, us, eb, hb, rb⟩ := lstW_rel M4 rd ey
              subst eb
              cases ro with
              | ref _ hn =>
                obtain ⟨vs, hv, rv⟩ := M4.ob _ _ en
                have hne : w4.ρ nn ≠ b := by
                  intro q
                  cases rd with
                  | lst h0 r0 =>
                    have := M4.nf _ _ en trivial
                    rw [q] at this
                    rw [this] at h0
                    cases h0
                  | ref k hk =>
                    simp only [lstW] at ey
                    split at ey
                    · rename_i zs ez
                      have := M4.inj _ _ _ _ en trivial ez trivial q
                      subst this
                      simp [notRef] at c5
                    · cases ey
                  | _ => cases ey
                refine ⟨_, b, vs, us, _, _, rfl, rfl, rfl, rfl, hv, hb, hne, c1, c2, by rw [← rv.length]; exact c3, by rw [← rv.length, ← rb.length]; exact c4, ?_⟩
                refine h4 w4 σ _ (Wd.le.refl _) ?_ S4
                exact M4.write en trivial trivial ⟨_, upd_same, ((rv.take _).append rb).append (rv.drop _)⟩
            · cases e5
          · cases e5
        · cases e5
      · exact absurd h4 id
    · exact absurd h4 id
  · exact absurd h3 id
/-- += and -= of ints -/
def augF : Op → Int → Int → Int
  | .add, a, b => a + b
  | .sub, a, b => a - b
  | _, a, _ => a
theorem augD_rel {g : Gm} {w : Wd} {o : Op} {x y z : D} {v u : V} (rx : Rv g w x v) (ry : Rv g w y u) (e : augD o x y = some z) : ∃ a b, x = .int a ∧ y = .int b ∧ v = .int a ∧ u = .int b ∧ z = .int (augF o a b) := by
  cases rx with
  | int a =>
    cases ry with
    | int b =>
      simp only [augD] at e
      rw [Option.map_eq_some_iff] at e
      obtain ⟨k, e1, e2⟩ := e
      refine ⟨a, b, rfl, rfl, rfl, rfl, ?_⟩
      cases o <;> first | (cases e1; exact e2.symm) | cases e1
    | _ => simp [augD] at e
  | _ => simp [augD] at e
def augOp : Op → Bool
  | .add => true | .sub => true | _ => false
theorem ip_aug {X : Cx} {o : Op} (h : augOp o = true) : PIp X o.py (ipI (augF o)) := by
  cases o <;> first | exact ip_add | exact ip_sub | cases h
theorem js_aug {i : Nat} {x : Str} {pn : Pos} {o : Op} (h1 : N[i]? = some x) (h2 : locB sc fs x = true) (ho : augOp o = true) (ha : JE E N sc a ea) : JS E N sc fs (.aug i o a) (.AugAssign (.Name x pn) o.py ea pos) := fun X W K => by
  have l := loc_of h2
  refine PS.imp (ps_aug (X := X) (i := i) (by rw [K.C.Ns]; exact K.C.nd) (by rw [K.C.Ns]; exact h1) (by rw [K.C.sc]; exact l.1) (ha X W K.C K.tk) (ip_aug ho) (by rw [K.fn, K.C.sc]; exact l.2)) fun D σ H h => ?_
  obtain ⟨w, sl, m, M, S, h⟩ := h
  unfold execS at h
  dsimp only at h
  split at h
  · rename_i d e
    obtain ⟨v, hv, rv⟩ := S.at_ i d e
    refine ⟨v, hv, up_bind M S h fun y m1 w1 u H1 le1 M1 S1 r1 h2 => ?_⟩
    split at h2
    · rename_i z ez
      obtain ⟨a, b, rfl, rfl, rfl, rfl, rfl⟩ := augD_rel (rv.mono le1) r1 ez
      exact ⟨a, b, rfl, rfl, h2 w1 _ H1 (Wd.le.refl _) M1 (S1.set (.int _))⟩
    · exact absurd h2 id
  · exact absurd h id
theorem in_aug {X : Cx} {o : Op} (h : augOp o = true) : InOp X o.py (fun x y H Q => ∃ i j, x = .int i ∧ y = .int j ∧ Q (.int (augF o i j)) H) := by
  cases o <;> first | exact in_add | exact in_sub | cases h
theorem js_augf (G : Gok E) {o : ME} {eo : Expr} {f : Nat} {p : Pos} {op : Op} (hso : notSuper eo = true) (hf : f < E.cf.natt) (hop : augOp op = true) (ho : JE E N sc o eo) (ha : JE E N sc a ea) : JS E N sc fs (.augf o f op a) (.AugAssign (.Attribute eo (E.g.att f) p) op.py ea pos) := fun X W K => by
  refine PS.imp (ps_fldaug (ho X W K.C K.tk) (ha X W K.C K.tk) (in_aug hop)) fun D σ H h => ?_
  obtain ⟨w, sl, m, M, S, h⟩ := h
  unfold execS at h
  refine up_bind M S h fun d m1 w1 v H1 le1 M1 S1 r1 h1 => ?_
  split at h1
  · rename_i y ey
    obtain ⟨p, Ci, dx, fvs, u, rfl, h2, hc, h3, h4, ecl⟩ := inst_at G M1 r1 ey
    obtain ⟨c1, c2⟩ := G.cls Ci hc
    refine ⟨p, _, dx, fvs, u, rfl, h2, by rw [K.C.K]; exact c1, by rw [K.C.K]; exact c2 f hf, h3, up_bind M1 S1 h1 fun z m2 w2 t H2 le2 M2 S2 r2 h5 => ?_⟩
    split at h5
    · rename_i q eq
      obtain ⟨a, b, rfl, rfl, rfl, rfl, rfl⟩ := augD_rel (h4.mono le2) r2 eq
      split at h5
      · rename_i hcl
        split at h5
        · rename_i m3 e3
          obtain ⟨p', Ci', dx', fvs', e4, h6, c1', c2', hl, M3, ecl'⟩ := set_field G hf M2 (r1.mono le2) (.int _) e3
          cases e4
          rw [ecl, ecl'] at hcl
          cases hcl
          exact ⟨a, b, rfl, rfl, dx', fvs', h6, hl, h5 w2 σ _ (Wd.le.refl _) M3 S2⟩
        · exact absurd h5 id
      · exact absurd h5 id
    · exact absurd h5 id
  · exact absurd h1 id
/-- an item of a list, by values -/
theorem get_list {X : Cx} : PGet X (rIxL X.K) := by
  intro pins s σ H o i ov iv Q I ro ri h
  obtain ⟨p, xs, k, v, rfl, rfl, hq, he, q⟩ := h
  cases ro
  obtain ⟨t, rfl⟩ := ri
  obtain ⟨its, r, pl, hz⟩ := I.list hq
  obtain ⟨j, h1, h2, h3, h4, h5⟩ := atI_get he
  obtain ⟨u, eu, ru⟩ := r.get h2
  have hl := r.length
  have hn := line63
  have fin : EP X pins σ Q u s := ⟨v, H, I, ru, q⟩
  by_cases h0 : 0 ≤ k
  · have hj : k.toNat = j := by
      rw [seqIndex_of h0 h5] at h1
      exact Option.some.inj h1
    refine wpAny_getItem_list pl.isList h0 (by omega) ?_ fin
    rw [hj]
    simpa using eu
  · have hj : (k + (its.toArray.size : Int)).toNat = j := by
      rw [seqIndex_neg (by omega) h4] at h1
      rw [List.size_toArray, ← hl]
      exact Option.some.inj h1
    refine wpAny_getItem_list_neg pl.isList (by omega) (by rw [List.size_toArray]; omega) (by omega) ?_ fin
    rw [hj]
    simpa using eu
theorem js_augi {o i : ME} {eo ei : Expr} {p : Pos} {op : Op} (hp : plainIxB ei = true) (hop : augOp op = true) (ho : JE E N sc o eo) (hi : JE E N sc i ei) (ha : JE E N sc a ea) : JS E N sc fs (.augi o i op a) (.AugAssign (.Subscript eo ei p) op.py ea pos) := fun X W K => by
  have hst : ∀ ov iv new, augStore ei ov iv new = (do holding [new, ov, iv] (setItem ov iv new); release [new, ov, iv] []; pure .next) := by
    intro ov iv new
    cases ei <;> first | rfl | cases hp
  refine PS.imp (ps_augS (ho X W K.C K.tk) (hi X W K.C K.tk) get_list (ha X W K.C K.tk) (ip_aug hop) set_list hst) fun D σ H h => ?_
  obtain ⟨w, sl, m, M, S, h⟩ := h
  unfold execS at h
  refine up_bind M S h fun d m1 w1 v H1 le1 M1 S1 r1 h1 => ?_
  refine up_bind M1 S1 h1 fun y m2 w2 u H2 le2 M2 S2 r2 h2 => ?_
  split at h2
  · rename_i z ez
    have r1' := r1.mono le2
    cases r1' with
    | ref n hn =>
      cases r2 with
      | int k =>
        simp only [idxM] at ez
        split at ez
        · rename_i xs en
          obtain ⟨vs, hv, rv⟩ := M2.ob _ _ en
          obtain ⟨x, hx, rx⟩ := rv.atI ez
          refine ⟨_, vs, k, x, rfl, rfl, by rw [K.C.K]; exact SqL.of hv, hx, up_bind M2 S2 h2 fun q m3 w3 t H3 le3 M3 S3 r3 h3 => ?_⟩
          split at h3
          · rename_i z2 ez2
            obtain ⟨i1, i2, rfl, rfl, rfl, rfl, rfl⟩ := augD_rel (rx.mono le3) r3 ez2
            split at h3
            · rename_i m4 e4
              have rr := (Rv.ref (g := E.g) n hn).mono le3
              obtain ⟨q', us, k', j, e5, e6, h6, h7, M4⟩ := set_item M3 rr (.int k) (.int _) e4
              cases e6
              exact ⟨i1, i2, rfl, rfl, q', us, _, j, e5, rfl, h6, h7, h3 w3 σ _ (Wd.le.refl _) M4 S3⟩
            · exact absurd h3 id
          · exact absurd h3 id
        · cases ez
      | _ => simp [idxM] at ez
    | _ => simp [idxM] at ez
  · exact absurd h2 id

/-! ### if, for, while, blocks -/
theorem test_bind {W : WX} {D : Ends} {σ : L2.St} {H : Hp} {w : Wd} {sl : List (Option R.D)} {m : Mm} {k : ME} {f : Bool → Mm → Res Sx Fl} {Q : Bool → Hp → Prop} (M : Mem E.g w H m) (S : Slr E.g w sl σ)
    (h : PostS E.g w W D (up sl (evalE E.p E.c k sl m) fun x h => match truthD h x with | some b => f b h | none => .bad))
    (q : ∀ b m1 w1 H1, w.le w1 → Mem E.g w1 H1 m1 → Slr E.g w1 sl σ → PostS E.g w1 W D (f b m1) → Q b H1) : rdT E W k σ H Q := by
  refine ⟨w, sl, m, M, S, ?_⟩
  show Post _ _ _ _ _ (evalT E.p E.c k sl m)
  unfold evalT
  cases q1 : evalE E.p E.c k sl m with
  | bad => rw [q1] at h; exact absurd h id
  | exn C p m1 =>
    rw [q1] at h
    exact fun w' cls dx H' le M' x => h w' σ cls dx H' le M' (S.mono le) x
  | ok d m1 =>
    rw [q1, up_ok] at h
    rw [Res.bind_ok]
    cases q2 : truthD m1 d with
    | none => rw [q2] at h; exact absurd h id
    | some b =>
      rw [q2] at h
      intro w1 v H1 le1 M1 r1
      subst r1
      exact q b m1 w1 H1 le1 M1 (S.mono le1) (PostS.mono le1 h)
theorem js_ite {k : ME} {ek : Expr} {ms ns : List MS} {ss ts : List Stmt} (hk : JT E N sc k ek) (h1 : JSs E N sc fs ms ss) (h2 : JSs E N sc fs ns ts) : JS E N sc fs (.ite k ms ns) (.If ek ss ts pos) := fun X W K => by
  refine PS.imp (ps_if (hk X W K.C K.tk) (h1 X W K) (h2 X W K)) fun D σ H h => ?_
  obtain ⟨w, sl, m, M, S, h⟩ := h
  have e : execS E.p E.c (.ite k ms ns) ⟨sl, m⟩ = up sl (evalE E.p E.c k sl m) fun x h => match truthD h x with | some b => (fun (b : Bool) h => if b = true then execSs E.p E.c ms ⟨sl, h⟩ else execSs E.p E.c ns ⟨sl, h⟩) b h | none => .bad := by
    simp only [execS]
    congr 1
    funext x h
    cases truthD h x with
    | none => rfl
    | some b => cases b <;> rfl
  rw [e] at h
  refine test_bind M S h fun b m1 w1 H1 le1 M1 S1 h3 => ?_
  cases b with
  | true => exact ⟨w1, sl, m1, M1, S1, h3⟩
  | false => exact ⟨w1, sl, m1, M1, S1, h3⟩
theorem jss_nil : JSs E N sc fs [] [] := fun X W K => PSs.imp pss_nil fun D σ H h => by
  obtain ⟨w, sl, m, M, S, h⟩ := h
  unfold execSs at h
  exact h w σ H (Wd.le.refl _) M S
theorem jss_cons {ms : MS} {mss : List MS} {st : Stmt} {sts : List Stmt} (h1 : JS E N sc fs ms st) (h2 : JSs E N sc fs mss sts) : JSs E N sc fs (ms :: mss) (st :: sts) := fun X W K => by
  refine PSs.imp (pss_cons (h1 X W K) (h2 X W K)) fun D σ H h => ?_
  obtain ⟨w, sl, m, M, S, h⟩ := h
  refine ⟨w, sl, m, M, S, ?_⟩
  unfold execSs at h
  cases q : execS E.p E.c ms ⟨sl, m⟩ with
  | bad => rw [q] at h; exact absurd h id
  | exn C p s => rw [q] at h; exact h
  | ok f s =>
    rw [q, Res.bind_ok] at h
    cases f with
    | nx => exact fun w' σ' H' le M' S' => ⟨w', s.sl, s.hp, M', S', PostS.mono le h⟩
    | bk => exact h
    | ct => exact h
    | rt d => exact h
/-- a list is made such as nobody changes -/
theorem jss_frzv {i : Nat} {mss : List MS} {sts : List Stmt} (h2 : JSs E N sc fs mss sts) : JSs E N sc fs (.frzv i :: mss) sts := fun X W K => PSs.imp (h2 X W K) fun D σ H h => by
  obtain ⟨w, sl, m, M, S, h⟩ := h
  unfold execSs execS at h
  dsimp only at h
  cases q : sl[i]? with
  | none => rw [q] at h; exact absurd h id
  | some o =>
    cases o with
    | none => rw [q] at h; exact absurd h id
    | some x =>
      rw [q] at h
      dsimp only at h
      unfold frzD at h
      cases e : frzN 9 x m with
      | none => rw [e] at h; exact absurd h id
      | some r =>
        obtain ⟨d', m'⟩ := r
        rw [e] at h
        obtain ⟨v, hv, rv⟩ := S.at_ i x q
        obtain ⟨w', le, M', r'⟩ := frzN_rel 9 x m w v d' m' M rv e
        have S' : Slr E.g w' (sl.set i (some d')) σ := by
          refine ⟨by rw [List.length_set]; exact S.len, fun j d hj => ?_⟩
          by_cases hji : i = j
          · subst hji
            by_cases hi : i < sl.length
            · rw [List.getElem?_set_self hi] at hj
              cases hj
              exact ⟨v, hv, r'⟩
            · rw [List.getElem?_eq_none (by simpa using hi)] at hj; cases hj
          · rw [List.getElem?_set_ne hji] at hj
            obtain ⟨u, hu, ru⟩ := S.at_ j d hj
            exact ⟨u, hu, ru.mono le⟩
        have h : PostS E.g w W D (execSs E.p E.c mss ⟨sl.set i (some d'), m'⟩) := h
        exact ⟨w', _, m', M', S', PostS.mono le h⟩
/-- a list at an id, its items as they are -/
theorem jss_frzs {i : Nat} {mss : List MS} {sts : List Stmt} (h2 : JSs E N sc fs mss sts) : JSs E N sc fs (.frzs i :: mss) sts := fun X W K => PSs.imp (h2 X W K) fun D σ H h => by
  obtain ⟨w, sl, m, M, S, h⟩ := h
  unfold execSs execS at h
  dsimp only at h
  cases q : sl[i]? with
  | none => rw [q] at h; exact absurd h id
  | some o =>
    cases o with
    | none => rw [q] at h; exact absurd h id
    | some x =>
      rw [q] at h
      cases x with
      | ref n =>
        dsimp only at h
        cases en : m[n]? with
        | none => rw [en] at h; exact absurd h id
        | some ob =>
          rw [en] at h
          cases ob with
          | lst xs =>
            obtain ⟨v, hv, rv⟩ := S.at_ i _ q
            cases rv with
            | ref _ hn =>
              obtain ⟨vs, hvs, rvs⟩ := M.ob n _ en
              obtain ⟨le, M'⟩ := M.give en trivial hvs
              have h : PostS E.g w W D (execSs E.p E.c mss ⟨sl.set i (some (.lst xs)), m.set n .dead⟩) := h
              refine ⟨_, sl.set i (some (.lst xs)), m.set n .dead, M', ⟨by rw [List.length_set]; exact S.len, fun j d hj => ?_⟩, PostS.mono le h⟩
              by_cases hji : i = j
              · subst hji
                by_cases hi : i < sl.length
                · rw [List.getElem?_set_self hi] at hj
                  cases hj
                  exact ⟨_, hv, .lst upd_same (rvs.mono le)⟩
                · rw [List.getElem?_eq_none (by simpa using hi)] at hj; cases hj
              · rw [List.getElem?_set_ne hji] at hj
                obtain ⟨u, hu, ru⟩ := S.at_ j d hj
                exact ⟨u, hu, ru.mono le⟩
          | _ => exact absurd h id
      | _ => exact ⟨w, sl, m, M, S, h⟩
theorem js_brk : JS E N sc fs .brk (.Break pos) := fun X W K => PS.imp ps_break fun D σ H h => by
  obtain ⟨w, sl, m, M, S, h⟩ := h
  unfold execS at h
  exact h w σ H (Wd.le.refl _) M S
theorem js_cont : JS E N sc fs .cont (.Continue pos) := fun X W K => PS.imp ps_continue fun D σ H h => by
  obtain ⟨w, sl, m, M, S, h⟩ := h
  unfold execS at h
  exact h w σ H (Wd.le.refl _) M S
theorem js_pass : JS E N sc fs .pass (.Pass pos) := fun X W K => PS.imp ps_pass fun D σ H h => by
  obtain ⟨w, sl, m, M, S, h⟩ := h
  unfold execS at h
  exact h w σ H (Wd.le.refl _) M S
theorem js_for {g : Tg} {it : It} {ms : List MS} {tg iter : Expr} {ss : List Stmt} (hns : notSetE iter = true) (hi : JI E N sc it tg iter) (hg : JG E N sc fs g tg) (hb : JSs E N sc fs ms ss) : JS E N sc fs (.for_ g it ms) (.For tg iter ss [] pos) := fun X W K => by
  refine PS.imp (ps_for K.po K.C.calm (hi X W K.C K.tk) (hg X K.C K.fn) (hb X W K) (noFold iter hns X.env)) fun D σ H h => ?_
  obtain ⟨w, sl, m, M, S, h⟩ := h
  unfold execS at h
  refine up_bind M S h fun xs m1 w1 J H1 le1 M1 S1 wk h1 => ?_
  generalize hF : (fun (x : R.D) (s : Sx) => (match bindT g x s.sl with | some sl => execSs E.p E.c ms ⟨sl, s.hp⟩ | none => .bad : Res Sx Fl)) = F at h1
  refine ⟨fun i k σ' H' => k = xs.length - i ∧ i ≤ xs.length ∧ ∃ w' sl' m', w1.le w' ∧ Mem E.g w' H' m' ∧ Slr E.g w' sl' σ' ∧ PostS E.g w' W D (forL F (xs.drop i) ⟨sl', m'⟩), ⟨_, rfl, Nat.zero_le _, w1, sl, m1, Wd.le.refl _, M1, S1, h1⟩, ?_⟩
  rintro i k σ' H' ⟨rfl, hi, w', sl', m', le', M', S', hp⟩
  by_cases hlt : i < xs.length
  · refine .inr ⟨wk.go i w' H' m' le' M' hlt, fun σ2 H2 => ∃ w' sl' m', w1.le w' ∧ Mem E.g w' H2 m' ∧ Slr E.g w' sl' σ2 ∧ PostS E.g w' W D (forL F (xs.drop (i + 1)) ⟨sl', m'⟩), fun σ2 H2 hn => ⟨xs.length - (i + 1), by omega, rfl, hlt, hn⟩, fun x H2 y => ?_⟩
    obtain ⟨d, w2, hd, le2, M2, rd⟩ := wk.yld i x w' H' H2 m' le' M' hlt y
    have ed : xs.drop i = d :: xs.drop (i + 1) := by
      rw [List.drop_eq_getElem_cons hlt]
      rw [List.getElem?_eq_getElem hlt] at hd
      rw [Option.some.inj hd]
    rw [ed] at hp
    have hp2 : PostS E.g w2 W D ((F d ⟨sl', m'⟩).bind fun r s => match r with
      | .nx => forL F (xs.drop (i + 1)) s
      | .ct => forL F (xs.drop (i + 1)) s
      | .bk => .ok .nx s
      | .rt d => .ok (.rt d) s) := PostS.mono le2 hp
    cases hbt : bindT g d sl' with
    | none =>
      rw [← hF] at hp2
      dsimp only at hp2
      rw [hbt] at hp2
      exact absurd hp2 id
    | some sl2 =>
      refine ⟨w2, m', d, sl', sl2, M2, rd, S'.mono le2, hbt, fun σ2 Sσ _ => ⟨w2, sl2, m', M2, Sσ, ?_⟩⟩
      have eF : F d ⟨sl', m'⟩ = execSs E.p E.c ms ⟨sl2, m'⟩ := by
        rw [← hF]
        dsimp only
        rw [hbt]
      rw [eF] at hp2
      cases q : execSs E.p E.c ms ⟨sl2, m'⟩ with
      | bad => rw [q] at hp2; exact absurd hp2 id
      | exn C p s => rw [q] at hp2; exact hp2
      | ok f s =>
        rw [q, Res.bind_ok] at hp2
        have le12 := le'.trans le2
        cases f with
        | nx => exact fun w3 σ3 H3 le3 M3 S3 => ⟨w3, s.sl, s.hp, le12.trans le3, M3, S3, PostS.mono le3 hp2⟩
        | ct => exact fun w3 σ3 H3 le3 M3 S3 => ⟨w3, s.sl, s.hp, le12.trans le3, M3, S3, PostS.mono le3 hp2⟩
        | bk => exact hp2
        | rt d => exact hp2
  · have e : i = xs.length := by omega
    subst e
    refine .inl ⟨wk.stop _ w' H' m' le' M' (Nat.le_refl _), ?_⟩
    rw [List.drop_length] at hp
    exact hp w' σ' H' (Wd.le.refl _) M' S'
theorem for_tail {X : Cx} {W : WX} {D : Ends} {g : Tg} {ms : List MS} {xs : List R.D} {J : L2.It} {w1 : Wd} {sl : List (Option R.D)} {m1 : Mm} {σ : L2.St} {H1 : Hp} (M1 : Mem E.g w1 H1 m1) (S1 : Slr E.g w1 sl σ) (wk : Wk E.g w1 xs J)
    (h1 : PostS E.g w1 W D (forL (fun (x : R.D) (s : Sx) => (match bindT g x s.sl with | some sl => execSs E.p E.c ms ⟨sl, s.hp⟩ | none => .bad : Res Sx Fl)) xs ⟨sl, m1⟩)) :
    tFor (fun _ H R => R J H) (rdG E g) (rdSs E W ms) D σ H1 := by
  generalize hF : (fun (x : R.D) (s : Sx) => (match bindT g x s.sl with | some sl => execSs E.p E.c ms ⟨sl, s.hp⟩ | none => .bad : Res Sx Fl)) = F at h1
  refine ⟨fun i k σ' H' => k = xs.length - i ∧ i ≤ xs.length ∧ ∃ w' sl' m', w1.le w' ∧ Mem E.g w' H' m' ∧ Slr E.g w' sl' σ' ∧ PostS E.g w' W D (forL F (xs.drop i) ⟨sl', m'⟩), ⟨_, rfl, Nat.zero_le _, w1, sl, m1, Wd.le.refl _, M1, S1, h1⟩, ?_⟩
  rintro i k σ' H' ⟨rfl, hi, w', sl', m', le', M', S', hp⟩
  by_cases hlt : i < xs.length
  · refine .inr ⟨wk.go i w' H' m' le' M' hlt, fun σ2 H2 => ∃ w' sl' m', w1.le w' ∧ Mem E.g w' H2 m' ∧ Slr E.g w' sl' σ2 ∧ PostS E.g w' W D (forL F (xs.drop (i + 1)) ⟨sl', m'⟩), fun σ2 H2 hn => ⟨xs.length - (i + 1), by omega, rfl, hlt, hn⟩, fun x H2 y => ?_⟩
    obtain ⟨d, w2, hd, le2, M2, rd⟩ := wk.yld i x w' H' H2 m' le' M' hlt y
    have ed : xs.drop i = d :: xs.drop (i + 1) := by
      rw [List.drop_eq_getElem_cons hlt]
      rw [List.getElem?_eq_getElem hlt] at hd
      rw [Option.some.inj hd]
    rw [ed] at hp
    have hp2 : PostS E.g w2 W D ((F d ⟨sl', m'⟩).bind fun r s => match r with
      | .nx => forL F (xs.drop (i + 1)) s
      | .ct => forL F (xs.drop (i + 1)) s
      | .bk => .ok .nx s
      | .rt d => .ok (.rt d) s) := PostS.mono le2 hp
    cases hbt : bindT g d sl' with
    | none =>
      rw [← hF] at hp2
      dsimp only at hp2
      rw [hbt] at hp2
      exact absurd hp2 id
    | some sl2 =>
      refine ⟨w2, m', d, sl', sl2, M2, rd, S'.mono le2, hbt, fun σ2 Sσ _ => ⟨w2, sl2, m', M2, Sσ, ?_⟩⟩
      have eF : F d ⟨sl', m'⟩ = execSs E.p E.c ms ⟨sl2, m'⟩ := by
        rw [← hF]
        dsimp only
        rw [hbt]
      rw [eF] at hp2
      cases q : execSs E.p E.c ms ⟨sl2, m'⟩ with
      | bad => rw [q] at hp2; exact absurd hp2 id
      | exn C p s => rw [q] at hp2; exact hp2
      | ok f s =>
        rw [q, Res.bind_ok] at hp2
        have le12 := le'.trans le2
        cases f with
        | nx => exact fun w3 σ3 H3 le3 M3 S3 => ⟨w3, s.sl, s.hp, le12.trans le3, M3, S3, PostS.mono le3 hp2⟩
        | ct => exact fun w3 σ3 H3 le3 M3 S3 => ⟨w3, s.sl, s.hp, le12.trans le3, M3, S3, PostS.mono le3 hp2⟩
        | bk => exact hp2
        | rt d => exact hp2
  · have e : i = xs.length := by omega
    subst e
    refine .inl ⟨wk.stop _ w' H' m' le' M' (Nat.le_refl _), ?_⟩
    rw [List.drop_length] at hp
    exact hp w' σ' H' (Wd.le.refl _) M' S'
/-! ### over a dict's keys -/
def pathE (v : Nat) : Option Nat → ME
  | none => .var v
  | some f => .fld (.var v) f
theorem path_eval {v n : Nat} {fl : Option Nat} {sl : List (Option R.D)} {m : Mm} {kvs : List (Key × R.D)} (h : pathN sl m v fl = some n) (e : m[n]? = some (.dct kvs)) : evalE E.p E.c (pathE v fl) sl (m.set n (.ldct kvs)) = .ok (.ref n) (m.set n (.ldct kvs)) := by
  unfold pathN at h
  split at h
  · rename_i d hd
    split at h
    · split at h
      · cases h
        simp only [pathE, evalE, hd]
      · cases h
    · rename_i f
      split at h
      · rename_i k hk
        cases h
        have key : fldD (m.set n (.ldct kvs)) f d = some (.ref n) := by
          cases d with
          | ref k =>
            by_cases z : n = k
            · subst z
              unfold fldD at hk
              dsimp only at hk
              rw [e] at hk; cases hk
            · unfold fldD at hk ⊢
              dsimp only at hk ⊢
              rw [List.getElem?_set_ne z]; exact hk
          | _ => exact hk
        simp only [pathE, evalE, hd, Res.bind_ok, key]
      · cases h
  · cases h
theorem rkv_at : ∀ {kvs : List (Key × R.D)} {kvs' : List (Key × V)} {g : Gm} {w : Wd}, Rkv g w kvs kvs' → ∀ {i : Nat} {k : Key} {v : V}, kvs'[i]? = some (k, v) → (kvs.map fun kv => keyD kv.1)[i]? = some (keyD k)
  | _, _, _, _, .nil, i, k, v, e => by simp at e
  | _, _, _, _, .cons _ r, 0, k, v, e => by
    simp at e
    obtain ⟨rfl, rfl⟩ := e
    rfl
  | _, _, _, _, .cons _ r, i + 1, k, v, e => by
    have := rkv_at r (i := i) (by simpa using e)
    simpa using this
theorem keyD_rel {g : Gm} {w : Wd} (k : Key) : Rv g w (keyD k) (kV k) := by cases k <;> constructor
theorem wk_keys {g : Gm} {w : Wd} {n : Nat} {od : Obj} {kvs : List (Key × R.D)} {kvs' : List (Key × V)} {a : Addr} (hG : w.G a = some (.frz od (.dK kvs'))) (r : Rkv g w kvs kvs') : Wk g w (kvs.map fun kv => keyD kv.1) (Itk a od kvs') where
  go := fun i w' H m le M hi => ⟨M.gr _ _ (le.gr _ _ hG), by rw [List.length_map, r.length] at hi; exact hi⟩
  stop := fun i w' H m le M hi => ⟨M.gr _ _ (le.gr _ _ hG), by rw [List.length_map, r.length] at hi; exact hi⟩
  yld := fun i x w' H H' m le M hi y => by
    obtain ⟨rfl, k, v, e, rfl⟩ := y
    exact ⟨keyD k, w', rkv_at r e, Wd.le.refl _, M, keyD_rel k⟩
theorem js_forK {g : Tg} {v : Nat} {fl : Option Nat} {ms : List MS} {tg iter : Expr} {ss : List Stmt} (hns : notSetE iter = true) (hi : JE E N sc (pathE v fl) iter) (hg : JG E N sc fs g tg) (hb : JSs E N sc fs ms ss) : JS E N sc fs (.forK g v fl ms) (.For tg iter ss [] pos) := fun X W K => by
  refine PS.imp (ps_lock (ps_for K.po K.C.calm (pi_keys (hi X W K.C K.tk)) (hg X K.C K.fn) (hb X W K) (noFold iter hns X.env))) fun D σ H h => ?_
  obtain ⟨w, sl, m, M, S, h⟩ := h
  unfold execS at h
  split at h
  · rename_i n hp
    split at h
    · rename_i kvs e
      obtain ⟨kvs', hk, r⟩ := M.ob n _ e
      have hn : n < w.len := M.lt e
      have hng := M.ng n _ e trivial
      refine ⟨w.ρ n, .dK kvs', hk, trivial, fun od => ?_⟩
      obtain ⟨le1, M1⟩ := M.lock e r od
      have S1 := S.mono le1
      refine ⟨_, sl, _, M1, S1, ?_⟩
      rw [path_eval (E := E) hp e]
      intro w2 x H2 le2 M2 r2
      have g2 : w2.G (w.ρ n) = some (.frz od (.dK kvs')) := le2.gr _ _ upd_same
      have ρ2 : w2.ρ n = w.ρ n := le2.at_ n hn
      cases r2 with
      | ref _ hn2 =>
        refine ⟨w2.ρ n, od, rfl, .inl ⟨kvs', by rw [ρ2]; exact M2.gr _ _ g2, ?_⟩⟩
        refine for_tail (E := E) (X := X) (g := g) (ms := ms) (xs := kvs.map fun kv => keyD kv.1) (w1 := w2) (sl := sl) (m1 := m.set n (.ldct kvs)) M2 (S1.mono le2) (by rw [ρ2]; exact wk_keys (n := n) g2 (r.mono (le1.trans le2))) ?_
        generalize hR : forL (fun (x : R.D) (s : Sx) => (match bindT g x s.sl with | some sl => execSs E.p E.c ms ⟨sl, s.hp⟩ | none => .bad : Res Sx Fl)) (kvs.map fun kv => keyD kv.1) ⟨sl, m.set n (.ldct kvs)⟩ = R at h
        cases R with
        | bad => exact absurd h id
        | exn C p s => exact absurd h id
        | ok f s =>
          dsimp only at h
          split at h
          · rename_i kvs2 e2
            have fin : ∀ {w3 : Wd} {H3 : Hp}, w2.le w3 → Mem E.g w3 H3 s.hp → H3 (w.ρ n) = some (.frz od (.dK kvs')) ∧ ∃ w4, w.le w4 ∧ Mem E.g w4 (upd H3 (w.ρ n) (.dK kvs')) (s.hp.set n (.dct kvs2)) ∧ w3.lf w4 := fun {w3 H3} le3 M3 => by
              have g3 : w3.G (w.ρ n) = some (.frz od (.dK kvs')) := le3.gr _ _ g2
              have ρ3 : w3.ρ n = w.ρ n := (le3.at_ n (Nat.lt_of_lt_of_le hn le2.len)).trans ρ2
              have M4 := M3.unlock e2 (by rw [ρ3]; exact g3)
              rw [ρ3] at M4
              refine ⟨M3.gr _ _ g3, _, ⟨⟨?_, ?_, ?_⟩, fun a o q => ?_⟩, M4, ⟨fun _ _ h => h, Nat.le_refl _, fun _ _ => rfl⟩⟩
              · exact fun a o q => le3.fr _ _ (le2.fr _ _ (le1.fr _ _ q))
              · exact Nat.le_trans le2.len le3.len
              · exact fun k hk => (le3.at_ k (Nat.lt_of_lt_of_le hk le2.len)).trans (le2.at_ k hk)
              · show (if a = w.ρ n then none else w3.G a) = some o
                rw [if_neg fun z => by rw [z, hng] at q; cases q]
                exact le3.gr _ _ (le2.gr _ _ (le1.gr _ _ q))
            cases f with
            | nx =>
              intro w3 σ3 H3 le3 M3 S3
              obtain ⟨h1, w4, le4, M4, lf4⟩ := fin le3 M3
              exact ⟨h1, h w4 σ3 _ le4 M4 ⟨S3.len, fun i d hd => let ⟨v, hv, rv⟩ := S3.at_ i d hd; ⟨v, hv, rv.mono' lf4⟩⟩⟩
            | bk =>
              intro w3 σ3 H3 le3 M3 S3
              obtain ⟨h1, w4, le4, M4, lf4⟩ := fin le3 M3
              exact ⟨h1, h w4 σ3 _ le4 M4 ⟨S3.len, fun i d hd => let ⟨v, hv, rv⟩ := S3.at_ i d hd; ⟨v, hv, rv.mono' lf4⟩⟩⟩
            | ct =>
              intro w3 σ3 H3 le3 M3 S3
              obtain ⟨h1, w4, le4, M4, lf4⟩ := fin le3 M3
              exact ⟨h1, h w4 σ3 _ le4 M4 ⟨S3.len, fun i d hd => let ⟨v, hv, rv⟩ := S3.at_ i d hd; ⟨v, hv, rv.mono' lf4⟩⟩⟩
            | rt d =>
              intro w3 v3 H3 le3 M3 r3
              obtain ⟨h1, w4, le4, M4, lf4⟩ := fin le3 M3
              exact ⟨h1, h w4 v3 _ le4 M4 (r3.mono' lf4)⟩
          · exact absurd h id
    · exact absurd h id
  · exact absurd h id
/-! ### d[k] = v -/
theorem js_dput {o i a : ME} {eo ei ea : Expr} {p : Pos} (ho : JE E N sc o eo) (hi : JE E N sc i ei) (ha : JE E N sc a ea) : JS E N sc fs (.dput o i a) (.Assign [.Subscript eo ei p] ea pos) := fun X W K => by
  refine PS.imp (ps_dput (by have : X.A.units + 64 < cLine := K.C.room.units; omega) (ho X W K.C K.tk) (hi X W K.C K.tk) (ha X W K.C K.tk) (by cases ea <;> rfl)) fun D σ H h => ?_
  obtain ⟨w, sl, m, M, S, h⟩ := h
  unfold execS at h
  refine up_bind M S h fun d m1 w1 v H1 le1 M1 S1 r1 h1 => ?_
  refine up_bind M1 S1 h1 fun y m2 w2 u H2 le2 M2 S2 r2 h2 => ?_
  refine up_bind M2 S2 h2 fun z m3 w3 t H3 le3 M3 S3 r3 h3 => ?_
  split at h3
  · rename_i m4 e
    unfold dputD at e
    split at e
    · rename_i n k hk
      split at e
      · rename_i kvs en
        split at e
        · rename_i hz
          cases e
          replace r2 := r2.mono le3
          cases r2 with
          | ref _ hn =>
            obtain ⟨kvs', hH, rr⟩ := M3.ob n _ en
            have rp := rr.put (k := k) ((r1.mono le2).mono le3)
            rw [isKey_rel r3 hk]
            refine ⟨w3.ρ n, _, rfl, DPut.k hH (by rw [← rr.length]; exact sl_szOk hz), ?_⟩
            exact h3 w3 σ _ (Wd.le.refl _) (M3.write en trivial trivial ⟨_, upd_same, rp⟩) S3
        · cases e
      · cases e
    · cases e
  · exact absurd h3 id
theorem js_while {fuel : Nat} {k : ME} {ek : Expr} {ms : List MS} {ss : List Stmt} (hk : JT E N sc k ek) (hb : JSs E N sc fs ms ss) : JS E N sc fs (.while_ fuel k ms) (.While ek ss [] pos) := fun X W K => by
  refine PS.imp (ps_while K.po (hk X W K.C K.tk) (hb X W K)) fun D σ H h => ?_
  obtain ⟨w, sl, m, M, S, h⟩ := h
  unfold execS at h
  generalize hF : (fun (s : Sx) => up s.sl (evalE E.p E.c k s.sl s.hp) fun x h => (match truthD h x with
      | some true => (execSs E.p E.c ms ⟨s.sl, h⟩).bind fun r s => .ok (some r) s
      | some false => .ok none ⟨s.sl, h⟩
      | none => .bad : Res Sx (Option Fl))) = F at h
  refine ⟨fun n σ' H' => ∃ w' sl' m', Mem E.g w' H' m' ∧ Slr E.g w' sl' σ' ∧ PostS E.g w' W D (whileL F n ⟨sl', m'⟩), ⟨fuel, w, sl, m, M, S, h⟩, ?_⟩
  rintro n σ' H' ⟨w', sl', m', M', S', hp⟩
  cases n with
  | zero => exact absurd hp id
  | succ n =>
    have e : (F ⟨sl', m'⟩).bind (fun r s => (match r with
        | none => .ok .nx s
        | some .nx => whileL F n s
        | some .ct => whileL F n s
        | some .bk => .ok .nx s
        | some (.rt d) => .ok (.rt d) s : Res Sx Fl)) = up sl' (evalE E.p E.c k sl' m') fun x h => match truthD h x with
          | some b => (fun (b : Bool) h => if b = true then (execSs E.p E.c ms ⟨sl', h⟩).bind fun r s => (match r with
              | .nx => whileL F n s
              | .ct => whileL F n s
              | .bk => .ok .nx s
              | .rt d => .ok (.rt d) s : Res Sx Fl) else .ok .nx ⟨sl', h⟩) b h
          | none => .bad := by
      rw [← hF]
      dsimp only
      cases evalE E.p E.c k sl' m' with
      | bad => rfl
      | exn C p h => rfl
      | ok x h =>
        simp only [up_ok]
        cases truthD h x with
        | none => rfl
        | some b =>
          cases b with
          | false => rfl
          | true =>
            dsimp only
            cases execSs E.p E.c ms ⟨sl', h⟩ with
            | bad => rfl
            | exn C p s => rfl
            | ok r s => cases r <;> rfl
    have e2 : whileL F (n + 1) ⟨sl', m'⟩ = _ := e
    rw [e2] at hp
    refine test_bind M' S' hp fun b m1 w1 H1 le1 M1 S1 h3 => ?_
    cases b with
    | false => exact h3 w1 σ' H1 (Wd.le.refl _) M1 S1
    | true =>
      rw [if_pos rfl]
      refine ⟨fun σ2 H2 => ∃ w' sl' m', Mem E.g w' H2 m' ∧ Slr E.g w' sl' σ2 ∧ PostS E.g w' W D (whileL F n ⟨sl', m'⟩), fun σ2 H2 hn => ⟨n, Nat.lt_succ_self _, hn⟩, w1, sl', m1, M1, S1, ?_⟩
      rw [if_pos rfl] at h3
      cases q : execSs E.p E.c ms ⟨sl', m1⟩ with
      | bad => rw [q] at h3; exact absurd h3 id
      | exn C p s => rw [q] at h3; exact h3
      | ok f s =>
        rw [q, Res.bind_ok] at h3
        cases f with
        | nx => exact fun w3 σ3 H3 le3 M3 S3 => ⟨w3, s.sl, s.hp, M3, S3, PostS.mono le3 h3⟩
        | ct => exact fun w3 σ3 H3 le3 M3 S3 => ⟨w3, s.sl, s.hp, M3, S3, PostS.mono le3 h3⟩
        | bk => exact h3
        | rt d => exact h3
end R

/-! RSrt: sorted(xs, key=f), f a def of the program that gives keys 0, number, 1, text, one after another (of mixed kinds). -/
namespace R
open PySem PySem.Spec PyProof.Rows PySem.W L2
/-! ### the order of such keys -/
theorem kvs_uniq : ∀ {ks ls : List Key} {us : List Value}, KVs ks us → KVs ls us → ks = ls
  | _, _, _, .nil, .nil => rfl
  | _, _, _, .int a, .int b => by rw [kvs_uniq a b]
  | _, _, _, .str a, .str b => by rw [kvs_uniq a b]
/-- a row key in the heap -/
def IsRow (h : Heap) (v : Value) (ks : List Key) : Prop := ∃ a o xs n, v = .ref a ∧ h.get? a = some o ∧ o.cls = .type "tuple" ∧ o.data = .seq xs n ∧ KVs ks xs.toList ∧ keyOk ks = true
theorem isRow_uniq {h : Heap} {v : Value} {ks ls : List Key} (a : IsRow h v ks) (b : IsRow h v ls) : ks = ls := by
  obtain ⟨p, o, xs, n, rfl, h1, _, h3, h4, _⟩ := a
  obtain ⟨q, o', ys, n', e, g1, _, g3, g4, _⟩ := b
  cases e
  rw [h1] at g1; cases g1
  rw [h3] at g3; cases g3
  exact kvs_uniq h4 g4
noncomputable def rowKind (h : Heap) : PyProof.Rows.KeyKind where
  toKeyOrd := listOrd itemOrd
  keyOf v := open Classical in if z : ∃ ks, IsRow h v ks then some (toksK z.choose) else none
  dflt := ([] : List Tk)
theorem rowKind_some {h : Heap} {v : Value} {ks : List Key} (a : IsRow h v ks) : (rowKind h).keyOf v = some (toksK ks) := by
  have z : ∃ ks, IsRow h v ks := ⟨ks, a⟩
  have e : (rowKind h).keyOf v = some (toksK z.choose) := by
    show (open Classical in if z : ∃ ks, IsRow h v ks then some (toksK z.choose) else none) = _
    rw [dif_pos z]
  rw [e, isRow_uniq z.choose_spec a]
theorem rowKind_inv {h : Heap} {v : Value} {a : List Tk} (e : (rowKind h).keyOf v = some a) : ∃ ks, IsRow h v ks ∧ a = toksK ks := by
  by_cases z : ∃ ks, IsRow h v ks
  · have e2 : (rowKind h).keyOf v = some (toksK z.choose) := by
      show (open Classical in if z : ∃ ks, IsRow h v ks then some (toksK z.choose) else none) = _
      rw [dif_pos z]
    rw [e2] at e
    cases e
    exact ⟨_, z.choose_spec, rfl⟩
  · have e2 : (rowKind h).keyOf v = none := by
      show (open Classical in if z : ∃ ks, IsRow h v ks then some (toksK z.choose) else none) = _
      rw [dif_neg z]; rfl
    rw [e2] at e; cases e
section
variable {prog : Program} {w0 : World} {A : Around} {E0 : Value → Shared → Prop} {s : Shared}
theorem cpsNe {x y : Str} (h : ¬ x = y) : x.cps.toList ≠ y.cps.toList := fun l => h (by
  have c : x.cps = y.cps := Array.toList_inj.mp l
  cases x; cases y
  simp only [Str.mk.injEq]
  exact c)
theorem row_lex {b fin : Bool} {Q : Bool → Shared → Prop} : ∀ (ks ls : List Key) (us vs : List Value) (i : Nat), KVs ks us → KVs ls vs → rowK ks = true → rowK ls = true → fin = decide (us.length < vs.length) →
    Q (PyProof.Rows.lexLt itemOrd (toksK ks) (toksK ls)) s → KatLex prog w0 A b fin Q (us.zip vs) i s
  | [], [], _, _, i, .nil, .nil, _, _, hf, h => by
    subst hf
    exact kat_nil h
  | [], k :: ls, _, vs, i, .nil, r, _, _, hf, h => by
    have z : 0 < vs.length := by rw [← r.len]; simp
    have e : fin = true := by rw [hf]; exact decide_eq_true z
    subst e
    rw [List.zip_nil_left]
    exact kat_nil h
  | k :: ks, [], us, _, i, r, .nil, _, _, hf, h => by
    have e : fin = false := by rw [hf]; exact decide_eq_false (Nat.not_lt_zero _)
    subst e
    rw [List.zip_nil_right]
    exact kat_nil h
  | .inl a :: k2 :: ks, .inl c :: l2 :: ls, _, _, i, .int (t := t) (us := us) r1, .int (t := u) (us := vs) r2, h1, h2, hf, h => by
    rw [List.zip_cons_cons]
    refine kat_cons (wpAny_eqBool_int ?_)
    refine kat_go (fun e => kat_yes ?_) (fun e => kat_no ?_)
    · have e : a = c := by simpa using e
      subst e
      have h : Q (PyProof.Rows.lexLt itemOrd (.inl a :: toksK (k2 :: ks)) (.inl a :: toksK (l2 :: ls))) s := h
      rw [lex_self] at h
      cases r1 with
      | @int x t1 _ us r1 =>
        cases r2 with
        | @int n t2 _ vs r2 =>
          simp only [rowK, Bool.and_eq_true] at h1 h2
          rw [List.zip_cons_cons]
          refine kat_cons (wpAny_eqBool_int ?_)
          have h : Q (PyProof.Rows.lexLt itemOrd (.inl x :: toksK ks) (.inl n :: toksK ls)) s := h
          refine kat_go (fun e => kat_yes ?_) (fun e => kat_no ?_)
          · have e : x = n := by simpa using e
            subst e
            rw [lex_self] at h
            exact row_lex ks ls us vs (i + 1 + 1) r1 r2 h1.2 h2.2 (by rw [hf]; simp only [List.length_cons, Nat.add_lt_add_iff_right]) h
          · have e : ¬ x = n := by simpa using e
            rw [lex_diff (fun z => e (Sum.inl.inj z))] at h
            exact oneLt_any_int h
        | @str n t2 _ vs r2 =>
          simp only [rowK, Bool.and_eq_true, decide_eq_true_eq] at h1 h2
          omega
      | @str x t1 _ us r1 =>
        cases r2 with
        | @int n t2 _ vs r2 =>
          simp only [rowK, Bool.and_eq_true, decide_eq_true_eq] at h1 h2
          omega
        | @str n t2 _ vs r2 =>
          simp only [rowK, Bool.and_eq_true] at h1 h2
          rw [List.zip_cons_cons]
          refine kat_cons (wpAny_eqBool_str ?_)
          have h : Q (PyProof.Rows.lexLt itemOrd (.inr x.cps.toList :: toksK ks) (.inr n.cps.toList :: toksK ls)) s := h
          refine kat_go (fun e => kat_yes ?_) (fun e => kat_no ?_)
          · have e : x = n := of_decide_eq_true e
            subst e
            rw [lex_self] at h
            exact row_lex ks ls us vs (i + 1 + 1) r1 r2 h1.2 h2.2 (by rw [hf]; simp only [List.length_cons, Nat.add_lt_add_iff_right]) h
          · have e : ¬ x = n := of_decide_eq_false e
            rw [lex_diff (fun z => cpsNe e (Sum.inr.inj z))] at h
            exact oneLt_any_str h
    · have e : ¬ a = c := by simpa using e
      have h : Q (PyProof.Rows.lexLt itemOrd (.inl a :: toksK (k2 :: ks)) (.inl c :: toksK (l2 :: ls))) s := h
      rw [lex_diff (fun z => e (Sum.inl.inj z))] at h
      exact oneLt_any_int h
  | [.inl a], _ :: _, _, _, i, _, _, h1, _, _, _ => by simp [rowK] at h1
  | .inr a :: _, _ :: _, _, _, i, _, _, h1, _, _, _ => by simp [rowK] at h1
  | .inl a :: k2 :: ks, [.inl c], _, _, i, _, _, _, h2, _, _ => by simp [rowK] at h2
  | .inl a :: k2 :: ks, .inr c :: _, _, _, i, _, _, _, h2, _, _ => by simp [rowK] at h2
theorem row_first {h : Heap} : ∀ {vs : List Value}, (∀ v ∈ vs, ∃ ks, IsRow h v ks) → ∃ fs, KatTups h vs fs ∧ fs.length = vs.length ∧ ∀ f ∈ fs, ∃ i t, f = Value.int i t
  | [], _ => ⟨[], KatTups.nil, rfl, fun f hf => by cases hf⟩
  | v :: vs, hv => by
    obtain ⟨fs, a1, a2, a3⟩ := row_first fun x hx => hv x (List.mem_cons_of_mem _ hx)
    obtain ⟨ks, p, o, xs, n, rfl, h1, h2, h3, h4, h5⟩ := hv v List.mem_cons_self
    unfold keyOk at h5
    rw [Bool.and_eq_true] at h5
    generalize hus : xs.toList = us at h4
    cases h4 with
    | nil => simp at h5
    | str r => simp [rowK] at h5
    | @int i t ks us r =>
      have e : xs[0]? = some (.int i t) := by rw [← Array.getElem?_toList, hus]; rfl
      refine ⟨.int i t :: fs, KatTups.cons h1 h2 h3 e a1, by simp [a2], fun f hf => ?_⟩
      rcases List.mem_cons.mp hf with rfl | hf
      · exact ⟨i, t, rfl⟩
      · exact a3 f hf
theorem sorts_rows {vs : List Value} (hv : ∀ v ∈ vs, ∃ ks, IsRow s.heap v ks) : SortsAt prog w0 A s (rowKind s.heap) vs := by
  refine ⟨fun v hm => ?_, tuples' (Value.type "int" != Value.type "tuple"), ?_, fun h2 E Q hq => ?_⟩
  · obtain ⟨ks, z⟩ := hv v hm
    exact ⟨_, rowKind_some z⟩
  · intro E x y a b Q ha hb hq
    obtain ⟨ks, ⟨p, o, xs, n, rfl, h1, h2, h3, h4, h5⟩, rfl⟩ := rowKind_inv ha
    obtain ⟨ls, ⟨q, o', ys, n', rfl, g1, g2, g3, g4, g5⟩, rfl⟩ := rowKind_inv hb
    unfold keyOk at h5 g5
    rw [Bool.and_eq_true] at h5 g5
    exact kat_lt h1 h3 g1 g3 (row_lex ks ls _ _ 0 h4 g4 h5.1 g5.1 (by rw [Array.length_toList, Array.length_toList]) hq)
  · obtain ⟨fs, a1, a2, a3⟩ := row_first hv
    refine kat_kind (T := Value.type "int") a1 (by rw [a2]; omega) (fun v hm => ?_) rfl hq
    obtain ⟨i, t, rfl⟩ := a3 v hm
    exact Looks.of_pure rfl
end
end R

/-! RSrt2: the call of sorted with a key, and the rule for it. -/
namespace R
open PySem PySem.Spec PyProof.Rows PySem.W L2
variable {E : En} {N : List Str} {sc : Scope}
/-- what stands before the turn i: the list that is sorted is empty (at a), its keys stand at k -/
structure SrkI (E : En) (X : Cx) (pins : List (Addr × Obj)) (σ : L2.St) (w : Wd) (oa : Obj) (a k : Addr) (f : Nat) (xs : List D) (vs : List V) (Rm : Res Mm (List (D × List Tk))) (i : Nat) (s' : Shared) : Prop where
  ex : ∃ (H' : Hp) (w' : Wd) (m' : Mm) (kA : Array Value) (e : Nat) (kss : List (List Key)),
    Inv X pins σ H' s' ∧ w.le w' ∧ w'.G a = some (.frz oa (.lst [])) ∧ Mem E.g w' H' m' ∧ FpOk X pins H' k ∧ s'.heap.get? k = some (seqObj "list" kA e) ∧
    EachIs (fun u ks => ∃ p, u = Value.ref p ∧ SqT E.g.K w'.F p (ks.map kV) ∧ keyOk ks = true) kA.toList kss ∧ kss.length = i ∧ i ≤ xs.length ∧
    Rm = (keyL E.c f (xs.drop i) m').bind fun ps h => .ok ((xs.take i).zip (kss.map toksK) ++ ps) h
theorem EachIs.imp {α β : Type} {R R' : α → β → Prop} (k : ∀ a b, R a b → R' a b) : ∀ {as : List α} {bs : List β}, EachIs R as bs → EachIs R' as bs
  | _, _, .nil => .nil
  | _, _, .cons h t => .cons (k _ _ h) (EachIs.imp k t)
theorem frs_fp {X : Cx} {pins : List (Addr × Obj)} {σ : L2.St} {H : Hp} {s : Shared} {b : Addr} (I : Inv X pins σ H s) (h : FpOk X pins H b) : b ∉ frs X.stack := fun z =>
  (List.mem_cons.mp (I.stkSub b z)).elim h.2.1 h.2.2.1
theorem heap_put {h : Heap} {a : Addr} {o u : Obj} (e : h.get? a = some o) (hu : u.alive = true) : (h.update a fun _ => u).get? a = some u := by
  have h1 := ((Heap.get?_eq_some h a _).mp e).1
  exact (Heap.get?_eq_some _ _ _).mpr ⟨by rw [Heap.objs_update_self, h1]; rfl, hu⟩
def rSrk (E : En) (f : Nat) (fa : Addr) (obj : Bool) : List V → List V → Hp → VK → Prop := fun vs zs H Q => zs = [.ref fa] ∧ ∃ v w m d xs xw, vs = [v] ∧ Mem E.g w H m ∧ Rv E.g w d v ∧ lstOf m d = some xs ∧
  PostE E.g w xw Q ((keyL E.c f xs m).bind fun ps h => mkL obj (srtK ps) h)
theorem srk_step {X : Cx} {pins : List (Addr × Obj)} {σ : L2.St} {w : Wd} {oa : Obj} {a k fa : Addr} {f : Nat} {xs : List D} {vs : List V} {its : List Value} {ps : List (D × List Tk)} {mE : Mm} {fd : FuncData} {pps : List Str}
    (F : FnOk X.prog X.w X.K X.mg X.base (L2.CX X.prog X.w) E.lv fa fd pps (spR E f)) (hb : Binds X.K fd pps []) (hr : Room (E.lv + 1) X.A) (hz : its.length ≤ sizeLine) (rv : Vals vs its) (rx : Rvs E.g w xs vs)
    {j : Nat} {x : Value} {s' : Shared} (hx : its[j]? = some x) (h : SrkI E X pins σ w oa a k f xs vs (.ok ps mE) j s') {Er : Value → Shared → Prop} :
    wpAny (model X.prog X.w) X.A.in1.in1 (call (.ref fa) [x]) (fun v s'' => wpAny (model X.prog X.w) X.A.in1.in1 (Builtin.List.listUpdate (.ref k) (·.push v)) (fun _ s3 => SrkI E X pins σ w oa a k f xs vs (.ok ps mE) (j + 1) s3) Er s'') (fun _ _ => False) s' := by
  obtain ⟨H', w', m', kA, e, kss, I, le, hG, M, fp, gk, each, hl, hi, hR⟩ := h
  have hj : j < its.length := (List.getElem?_eq_some_iff.mp hx).1
  have l1 := rv.length
  have l2 := rx.length
  have hjx : j < xs.length := by omega
  have ed : xs.drop j = xs[j] :: xs.drop (j + 1) := List.drop_eq_getElem_cons hjx
  rw [ed, keyL] at hR
  obtain ⟨v, hv, r1⟩ := rx.get (List.getElem?_eq_getElem hjx)
  obtain ⟨u, hu, ru⟩ := rv.get hv
  rw [hx] at hu
  cases hu
  cases q : E.c f [xs[j]] m' with
  | bad => rw [q] at hR; cases hR
  | exn Ce p m2 => rw [q] at hR; cases hR
  | ok d m2 =>
    rw [q] at hR
    cases d with
    | tup ds =>
      dsimp only at hR
      cases ek : keysD ds with
      | none => rw [ek] at hR; cases hR
      | some ks =>
        rw [ek] at hR
        dsimp only at hR
        by_cases ok : keyOk ks = true
        · rw [if_pos ok] at hR
          have room : Room E.lv X.A.in1.in1 := ⟨hr.hd, by have := hr.dp; show X.A.depth + 3 * E.lv + 5 < _; omega, by have := hr.un; show X.A.units + 1 + 1 + 16 * E.lv + 200 < _; omega⟩
          have bnd := hb s' [x] I.kIn (by rw [List.append_nil]; exact (F.len [v] H' (fun v2 H2 => ∃ w2, w'.le w2 ∧ Mem E.g w2 H2 m2 ∧ Rv E.g w2 (.tup ds) v2) (fun _ _ _ => False) ⟨w', m', [xs[j]], M, .cons (r1.mono le) .nil, by rw [q]; exact fun w2 v2 H2 le2 M2 r2 => ⟨w2, le2, M2, r2⟩⟩))
          rw [List.append_nil] at bnd
          refine wpAny_call (codeAny_mono (F.run X.A.in1.in1 X.stack s' H' ⟨[x], []⟩ [x] [v] (fun v2 H2 => ∃ w2, w'.le w2 ∧ Mem E.g w2 H2 m2 ∧ Rv E.g w2 (.tup ds) v2) (fun _ _ _ => False) room I.env0.in1.in1 bnd (.cons ru .nil) ⟨w', m', [xs[j]], M, .cons (r1.mono le) .nil, by rw [q]; exact fun w2 v2 H2 le2 M2 r2 => ⟨w2, le2, M2, r2⟩⟩) fun r s'' hq => ?_)
          cases r with
          | error er =>
            obtain ⟨_, _, _, _, _, _, _, _, _, _, _, _, z⟩ := hq
            exact z.elim
          | ok fl =>
            cases fl with
            | ret u2 =>
              obtain ⟨v2, H2, os, bare, un, hok, rv2, w2, le2, M2, r2⟩ := hq
              have I2 : Inv X pins σ H2 s'' := I.call' os un hok bare (fun b z => absurd z (by simp))
              have gk2 := un.keep k _ gk fp.1 (frs_fp I fp) (by simp)
              have fp2 : FpOk X pins H2 k := ⟨un.free k _ gk fp.1 (by simp), fp.2⟩
              have lk : kA.size = j := by
                have := each.length
                rw [Array.length_toList, hl] at this
                exact this
              refine listUpdate_at gk2 rfl ?_ (by omega) (by rw [Array.size_push]; omega)
              have sb := Heap.SameBut.update s''.heap k (Obj.mapSeq (·.push u2))
              have I3 := I2.turnedL (t' := s''.toks) (h' := s''.heap.update k (Obj.mapSeq (·.push u2))) (ch := [k]) (fun b o hb e => (sb.2 b (by simpa using hb)).trans e) (fun b hb => by rw [List.mem_singleton.mp hb]; exact fp2)
              cases r2 with
              | tup hs rs =>
                rw [keys_rel ek rs] at hs
                cases rv2
                refine ⟨H2, w2, m2, kA.push _, _, kss ++ [ks], I3, le.trans le2, le2.gr _ _ hG, M2, fp2, get?_update_seq gk2 _, ?_, by rw [List.length_append, hl]; rfl, hjx, ?_⟩
                · rw [Array.toList_push]
                  refine each_snoc ⟨_, rfl, hs, ok⟩ (EachIs.imp (fun u ks ⟨p, h1, h2, h3⟩ => ⟨p, h1, sqT_mono le2.fr h2, h3⟩) each)
                · rw [hR]
                  have et : xs.take (j + 1) = xs.take j ++ [xs[j]] := by rw [List.take_add_one, List.getElem?_eq_getElem hjx]; rfl
                  have ez : (xs.take (j + 1)).zip ((kss ++ [ks]).map toksK) = (xs.take j).zip (kss.map toksK) ++ [(xs[j], toksK ks)] := by
                    rw [et, List.map_append, List.zip_append (by rw [List.length_take, List.length_map, hl]; omega)]; rfl
                  rw [ez]
                  cases keyL E.c f (xs.drop (j + 1)) m2 with
                  | ok r h => simp only [Res.bind_ok, List.append_assoc, List.cons_append, List.nil_append]
                  | exn _ _ _ => rfl
                  | bad => rfl
            | next => exact hq.elim
            | brk => exact hq.elim
            | cont => exact hq.elim
        · rw [if_neg ok] at hR; cases hR
    | _ => cases hR
theorem out_e1 {g : Gm} {w : Wd} : ∀ {xs : List D} {vs : List V} {its : List Value} {kss : List (List Key)}, Rvs g w xs vs → Vals vs its → kss.length = xs.length → EachIs (fun (u : Value) (p : D × List Tk) => ∃ v, RelV v u ∧ Rv g w p.1 v) its (xs.zip (kss.map toksK))
  | _, _, _, _, .nil, .nil, _ => .nil
  | _, _, _, [], .cons h r, .cons h2 rv, hl => absurd hl (by simp)
  | _, _, _, ks :: kss, .cons h r, .cons h2 rv, hl => .cons ⟨_, h2, h⟩ (out_e1 r rv (by simpa using hl))
/-- the items' values in the order of their keys -/
theorem out_rel {g : Gm} {w : Wd} {h : Heap} {xs : List D} {vs : List V} {its kA : List Value} {kss : List (List Key)} (rx : Rvs g w xs vs) (rv : Vals vs its) (ek : EachIs (fun u ks => IsRow h u ks) kA kss) (hl : kss.length = xs.length) :
    ∃ outV, Vals outV (sortVals (rowKind h) false kA its) ∧ Rvs g w (srtK (xs.zip (kss.map toksK))) outV := by
  have e2 : ∀ {kA : List Value} {kss : List (List Key)} {xs : List D}, EachIs (fun u ks => IsRow h u ks) kA kss → kss.length = xs.length → EachIs (fun (u : Value) (p : D × List Tk) => (rowKind h).keyOf u = some p.2) kA (xs.zip (kss.map toksK)) := by
    intro kA kss xs r
    induction r generalizing xs with
    | nil =>
      intro hl
      cases xs with
      | nil => exact .nil
      | cons _ _ => simp at hl
    | cons h r ih =>
      intro hl
      cases xs with
      | nil => simp at hl
      | cons x xs => exact .cons (rowKind_some h) (ih (by simpa using hl))
  have e3 := sortVals_each (κ := rowKind h) (rev := false) (fun p : D × List Tk => p.2) (out_e1 rx rv hl) (e2 ek hl)
  have e4 : ∀ {us : List Value} {ps : List (D × List Tk)}, EachIs (fun (u : Value) (p : D × List Tk) => ∃ v, RelV v u ∧ Rv g w p.1 v) us ps → ∃ outV, Vals outV us ∧ Rvs g w (ps.map (·.1)) outV := by
    intro us ps r
    induction r with
    | nil => exact ⟨[], .nil, .nil⟩
    | cons h r ih =>
      obtain ⟨v, h1, h2⟩ := h
      obtain ⟨o, q1, q2⟩ := ih
      exact ⟨v :: o, .cons h1 q1, .cons h2 q2⟩
  exact e4 e3
theorem keyL_exn {c : Calls} {f : Nat} {Ce : Nat} {p : Option D} {mm : Mm} : ∀ (xs : List D) (m : Mm), keyL c f xs m ≠ .exn Ce p mm
  | [], m => fun e => by cases e
  | x :: xs, m => fun e => by
    rw [keyL] at e
    cases q1 : c f [x] m with
    | bad => rw [q1] at e; cases e
    | exn _ _ _ => rw [q1] at e; cases e
    | ok d h2 =>
      rw [q1] at e
      cases d with
      | tup ds =>
        dsimp only at e
        cases q2 : keysD ds with
        | none => rw [q2] at e; cases e
        | some ks =>
          rw [q2] at e
          dsimp only at e
          by_cases ok : keyOk ks = true
          · rw [if_pos ok] at e
            cases q : keyL c f xs h2 with
            | ok r h3 => rw [q] at e; cases e
            | bad => rw [q] at e; cases e
            | exn a b c' =>
              rw [q] at e
              cases e
              exact keyL_exn xs h2 q
          · rw [if_neg ok] at e; cases e
      | _ => cases e
theorem cr_srk {X : Cx} {W : WX} (C : Cok E N sc X) {f : Nat} {fa : Addr} {obj : Bool} (hF : FnR E f fa) : CallRK X (.builtin "sorted") [Str.ofString "key"] (rSrk E f fa obj) := by
  intro pins s σ H vs0 zs us ws Q I rs rz h
  obtain ⟨rfl, v, w, m, d, xs, xw, rfl, M, rd, ex, hP⟩ := h
  obtain ⟨fd, pps, hb, F⟩ := C.fn hF
  obtain ⟨l, vs, rfl, hq, rx⟩ := lstOf_rel M rd ex
  obtain ⟨u, rfl, ru⟩ := rs.one
  cases ru
  obtain ⟨z, rfl, rz2⟩ := rz.one
  obtain rfl : z = Value.ref fa := rz2
  obtain ⟨its, rv, hl, hz⟩ := I.list (by rw [C.K]; exact hq)
  have hz2 : its.length ≤ sizeLine := by rw [← rv.length]; exact hz
  cases hR : keyL E.c f xs m with
  | bad => rw [hR] at hP; exact absurd hP id
  | exn Ce p mm =>
    exact absurd hR (keyL_exn _ _)
  | ok psE mE =>
    rw [hR, Res.bind_ok] at hP
    have al : ∀ e, (seqObj "list" #[] e).alive = true := fun _ => rfl
    show wpAny (model X.prog X.w) X.A (call (.builtin "sorted") [.ref l] [(Str.ofString "key", .ref fa)]) _ _ _
    refine sorted_of_sort hl.isList hz2 (ksk_s1 _ _) (fun x => ksk_l1 _ _) fun E' => ?_
    rw [ksk_t1]
    have ha := copyHeap_at s.heap its
    have old1 : ∀ b o, s.heap.get? b = some o → (copyHeap s.heap its).get? b = some o := fun b o q => copyHeap_old q
    generalize copyHeap s.heap its = h1 at ha old1 ⊢
    obtain ⟨e1, ho1⟩ : ∃ e1, (h1.update (s.heap.objs.size + 1) (Obj.mapSeq fun _ => (#[] : Array Value))).get? (s.heap.objs.size + 1) = some (seqObj "list" #[] e1) := ⟨_, get?_update_seq ha fun _ => #[]⟩
    unfold ksk_tree
    refine wpAny_bind (listItems_at ha rfl ?_)
    refine wpAny_bind (listUpdate_at ha rfl ?_ (by rw [List.size_toArray]; exact hz2) (Nat.zero_le _))
    refine wpAny_bind (seqEpoch_at ho1 rfl ?_)
    refine wpAny_bind (wpAny_newTuple ?_ (by show its.length ≤ _; exact hz2))
    refine wpAny_bind (wpAny_newList ?_ (Nat.zero_le _))
    refine wpAny_holding ?_
    dsimp only
    generalize hh2 : h1.update (s.heap.objs.size + 1) (Obj.mapSeq fun _ => (#[] : Array Value)) = h2 at ho1 ⊢
    have old2 : ∀ b o, s.heap.get? b = some o → h2.get? b = some o := fun b o q => by
      rw [← hh2, Heap.get?_update_ne _ _ _ _ (Nat.ne_of_lt (Nat.lt_succ_of_lt (Heap.lt_size q)))]
      exact old1 b o q
    have big2 : s.heap.objs.size + 1 < h2.objs.size := Heap.lt_size ho1
    generalize ha' : s.heap.objs.size + 1 = a at ho1 big2 ⊢
    have hna : H a = none := I.hok.fresh (by omega)
    have hsz3 : (h2.push (seqObj "tuple" its.toArray 0)).objs.size = h2.objs.size + 1 := size_push' _ _
    generalize hk : (h2.push (seqObj "tuple" its.toArray 0)).objs.size = k at *
    have I1 : Inv X pins σ (upd H a (.frz (seqObj "list" #[] e1) (.lst []))) { s with heap := h2, toks := s.toks } := I.laid (t' := s.toks) old2 (by omega) ⟨ho1, Nat.zero_le _, [], e1, .nil, ho1⟩
    have I2 : Inv X pins σ (upd H a (.frz (seqObj "list" #[] e1) (.lst []))) { s with heap := (h2.push (seqObj "tuple" its.toArray 0)).push (seqObj "list" #[] 0), toks := s.toks } := I1.kept (t' := s.toks) fun b o q => Heap.get?_push_of_some _ (Heap.get?_push_of_some _ q)
    obtain ⟨le1, M1⟩ := M.beside (o := .frz (seqObj "list" #[] e1) (.lst [])) hna
    have gk : ((h2.push (seqObj "tuple" its.toArray 0)).push (seqObj "list" #[] 0)).get? k = some (seqObj "list" #[] 0) := by rw [← hk]; exact Heap.get?_push_size _ rfl
    have hka : k ≠ a := by omega
    have fpk : FpOk X pins (upd H a (.frz (seqObj "list" #[] e1) (.lst []))) k := I.fpOk (by omega) (by rw [upd_ne hka]; exact I.hok.fresh (by omega))
    have lv := rv.length
    have lx := rx.length
    have nofr : ∀ o' u', X.H_0 a ≠ some (.frz o' u') := fun o' u' q => by
      have q := I.base.frzs a o' u' q
      rw [hna] at q; cases q
    unfold ksk_rest
    refine wpAny_bind (wpAny_rule ?_)
    first
      | rw [List.forIn_toArray]
      | (rw [← Array.forIn_toList]; simp only [List.toList_toArray])
      | rw [← Array.forIn_toList]
    refine wpAny_bind (ksk_fold (fun i s' => SrkI E X pins σ w (seqObj "list" #[] e1) a k f xs vs (.ok psE mE) i s') its 0 _ ?start ?step ?done)
    case start =>
      exact ⟨_, _, m, #[], 0, [], I2, le1, upd_same, M1, fpk, gk, .nil, rfl, Nat.zero_le _, by rw [List.drop_zero, hR, Res.bind_ok]; rfl⟩
    case step =>
      intro j x s' hx hs
      simp only [Nat.zero_add] at hs ⊢
      refine wpAny_bind (wpAny_attempt (wpAny_mono (srk_step (Er := E') F hb C.room hz2 rv rx hx hs) (fun v s'' hv => ?_) fun _ _ hF => hF.elim))
      dsimp only
      exact wpAny_bind (wpAny_mono hv (fun _ s3 h3 => wpAny_pure ⟨rfl, h3⟩) fun _ _ e => e)
    case done =>
      intro s' hs
      simp only [Nat.zero_add] at hs
      obtain ⟨H', w', m', kA, e, kss, I', le', hG, M', fp', gk', each, hkl, hi, hRR⟩ := hs
      have exl : its.length = xs.length := by omega
      rw [exl, List.drop_length, List.take_length] at hRR
      simp only [keyL, Res.bind_ok, List.append_nil, Res.ok.injEq] at hRR
      obtain ⟨rfl, rfl⟩ := hRR
      refine wpAny_bind (listItems_at gk' rfl ?_)
      have hHa : H' a = some (.frz (seqObj "list" #[] e1) (.lst [])) := M'.gr _ _ hG
      have ga : s'.heap.get? a = some (seqObj "list" #[] e1) := (I'.hok a _ hHa).1
      have rows : EachIs (fun u ks => IsRow s'.heap u ks) kA.toList kss := EachIs.imp (fun u ks ⟨p, h1, h2, h3⟩ => by
        obtain ⟨us, q1, ⟨o, q2, q3, n, q4⟩, _⟩ := I'.tuple (by rw [C.K]; exact sqT_mono M'.fr h2)
        exact ⟨p, o, _, n, h1, q2, q3, q4, kvs_of q1, h3⟩) each
      have ksz : kA.size = its.length := by
        have := rows.length
        rw [Array.length_toList] at this
        omega
      obtain ⟨h1, b1, b2⟩ := restrict s'.heap fun b => decide (b ≠ k)
      have kp : KeepsBut a h1 s'.heap := fun b o hb q => by
        by_cases z : b = k
        · rw [b2 b (by simp [z])] at q; cases q
        · rw [b1 b (by simp [z])] at q; exact q
      refine keyH_end (κ := rowKind s'.heap) (h₁ := h1) kp (b2 k (by simp)) gk' ga hka (sorts_rows fun u hu => by
        obtain ⟨ks, hks, z⟩ := rows.left u hu
        exact ⟨ks, z⟩) ksz hz2 fun h5 tk c keep5 ga5 => ⟨rfl, ?_⟩
      obtain ⟨outV, ov, orl⟩ := out_rel (rx.mono le') rv rows (by omega)
      have hlo : (sortVals (rowKind s'.heap) false kA.toList its).length = its.length := sortVals_length false (by rw [Array.length_toList]; exact ksz)
      -- the two lists' objects are new
      have Iu := I'.unlock hHa nofr
      have put : (h5.update a fun _ => seqObj "list" #[] e1).get? a = some (seqObj "list" #[] e1) := heap_put ga5 (al _)
      have I5 : Inv X pins σ (upd H' a (.lst [])) { s' with heap := h5.update a fun _ => seqObj "list" #[] e1, toks := tk } := Iu.turnedL (t' := tk) (ch := [k]) (fun b o hb q => by
        have hb : b ≠ k := by simpa using hb
        by_cases z : b = a
        · rw [z, ga] at q
          cases q
          rw [z]; exact put
        · rw [Heap.get?_update_ne _ _ _ _ z]
          exact keep5 b o z (by rw [b1 b (by simp [hb])]; exact q)) (fun b hb => by
        rw [List.mem_singleton.mp hb]
        exact ⟨by rw [upd_ne hka]; exact fp'.1, fp'.2⟩)
      have I6 : Inv X pins σ (upd (upd H' a (.lst [])) a (.lst outV)) { s' with heap := h5, toks := tk } := I5.write (x := a) (e := a) (t' := tk) (h' := h5) (by rw [upd_same]; exact trivial) (.inl rfl) (fun b u hb q => by
        rw [Heap.get?_update_ne _ _ _ _ hb] at q
        exact q) ⟨_, ga5⟩ ⟨by rw [ov.length, hlo]; exact hz2, _, c, ov, ga5⟩
      rw [upd_upd] at I6
      have Mo := M'.turned (o := .lst outV) hG
      refine ⟨.ref a, _, I6, rfl, ?_⟩
      refine mk_end (w' := w'.wg (upd w'.G a (.lst outV))) hP ?_ (fun b o q => ?_) Mo upd_same (orl.mono' (lf_G w' _))
      · exact ⟨le'.fr, le'.len, le'.at_⟩
      · have nb : b ≠ a := fun z => by
          rw [z] at q
          rw [M.gr _ _ q] at hna; cases hna
        exact ⟨nb, by
          show upd w'.G a _ b = _
          rw [upd_ne nb]; exact le'.gr _ _ q⟩
theorem je_srk (G : Gok E) {f : Nat} {x : Str} {obj : Bool} {o : ME} {eo : Expr} {p p2 kpos pos : Pos} (hf : E.cf.fnm f = some x) (hg : glB sc "sorted" = true) (hgx : glB sc x = true) (hn : nmOk x = true) (hs : notStar eo = true) (ho : JE E N sc o eo) :
    JE E N sc (.srk obj o f) (.Call (.Name "sorted" p) [eo] [⟨some "key", .Name x p2, kpos⟩] pos) := fun X W C tk => by
  obtain ⟨fa, hm, hk, hF⟩ := G.fn f x hf
  have hmS : X.mg "sorted" = none := by rw [C.mg]; exact G.blt .sorted_
  have hs2 : notStars [eo] = true := by unfold notStars; simp [hs]
  refine PE.imp (pe_callBK (id := "sorted") (cr_srk (W := W) (obj := obj) C hF) (C.gl hg) hmS (Bt.boot .sorted_) (pa_cons (hs := starEach_of hs) (ho X W C tk) pa_nil) (pk_cons (pe_glob (v := .ref fa) (gl_of (by rw [C.sc]; exact hgx)) (by rw [C.mg]; exact hm) rfl (nmOk_of hn).1) pk_nil)
    (by decide +kernel) (by decide +kernel) (by rw [starEach_of hs]; rfl) (plain_of hs2)) fun σ H Q h => ?_
  obtain ⟨w, sl, m, M, S, h⟩ := h
  unfold evalE at h
  show rdE E W o σ H _
  refine rd_bind M S h fun d m1 w1 v H1 le1 M1 S1 r1 h1 => ?_
  split at h1
  · rename_i xs e
    exact ⟨rfl, v, w1, m1, d, xs, _, rfl, M1, r1, e, h1⟩
  · exact absurd h1 id
end R

/-! RSndA: a tree of R and a tree of the row, compared. -/
namespace R
open PySem PySem.Spec PyProof.Rows L2

def mConst : Cn → Const → Bool
  | .non, .none => true
  | .bl a, .bool b => decide (a = b)
  | .int i, .int j => decide (i = j)
  | .str x, .str y => decide (x = y)
  | _, _ => false
mutual
def mG (N : List Str) (sc : Scope) (fs : Str → Bool) : Tg → Expr → Bool
  | .nm i, .Name x _ => decide (N[i]? = some x) && locB sc fs x
  | .tp ts, .Tuple es _ _ => notStars es && mGs N sc fs ts es
  | _, _ => false
def mGs (N : List Str) (sc : Scope) (fs : Str → Bool) : List Tg → List Expr → Bool
  | [], [] => true
  | t :: ts, e :: es => notStar e && mG N sc fs t e && mGs N sc fs ts es
  | _, _ => false
end
def isTupE : Expr → Bool
  | .Tuple _ _ _ => true
  | _ => false
mutual
def mE (p : Pg) (cf : Cf) (N : List Str) : Bool → ME → Scope → Expr → Bool
  | t, .var i, sc, e => match e with
    | .Name x _ => decide (N[i]? = some x) && visB sc x && nmOk x
    | _ => false
  | t, .lit c, _, e => match e with
    | .Constant k _ _ => mConst c k
    | _ => false
  | t, .bin o _ a b, sc, e => match e with
    | .BinOp ea o' eb _ => decide (o' = o.py) && mE p cf N false a sc ea && mE p cf N false b sc eb
    | _ => false
  | t, .neg a, sc, e => match e with
    | .UnaryOp op ea _ => decide (op = .USub) && mE p cf N false a sc ea
    | _ => false
  | t, .cmp c a b, sc, e => match e with
    | .Compare ea [op] [eb] _ => decide (op = c.py) && mE p cf N false a sc ea && mE p cf N false b sc eb
    | _ => false
  | t, .isn ng a, sc, e => match e with
    | .Compare ea [op] [.Constant .none _ _] _ => decide (op = (if ng then .IsNot else .Is)) && mE p cf N false a sc ea
    | _ => false
  | t, .isi ty a, sc, e => match e with
    | .Call (.Name x _) [ea, .Name y _] [] _ => decide (x = "isinstance") && decide (y = Str.ofString ty.nm) && notStar ea && glB sc "isinstance" && glB sc (Str.ofString ty.nm) && mE p cf N false a sc ea
    | _ => false
  | t, .isit ty tu a, sc, e => match e with
    | .Call (.Name x _) [ea, .Tuple [.Name y _, .Name z _] _ _] [] _ => decide (x = "isinstance") && decide (y = Str.ofString ty.nm) && decide (z = Str.ofString tu.nm) && notStar ea && glB sc "isinstance" && glB sc (Str.ofString ty.nm) && glB sc (Str.ofString tu.nm) && mE p cf N false a sc ea
    | _ => false
  | t, .mem ng a b, sc, e => match e with
    | .Compare ea [op] [eb] _ => decide (op = memOp ng) && inOk ng eb && mE p cf N false a sc ea && mE p cf N false b sc eb
    | _ => false
  | t, .kcat i _ a, sc, e => match e with
    | .BinOp (.Name x _) op ea _ => (match cf.ctl[i]?, p.cns[i]? with | some (some y), some (.scr _) => decide (x = y) | _, _ => false) && decide (op = .Add) && glB sc x && nmOk x && mE p cf N false a sc ea
    | _ => false
  | t, .kidx i a, sc, e => match e with
    | .Call (.Attribute (.Name x _) m apos) [ea] [] pos => (match cf.ctl[i]?, p.cns[i]? with | some (some y), some (.tup _) => decide (x = y) | _, _ => false) && decide (m = "index") && glB sc x && nmOk x && notStar ea && (apos.endLine == pos.line) && mE p cf N false a sc ea
    | _ => false
  | t, .kd ks vs a, sc, e => match e with
    | .Subscript (.Dict es fs _) ea _ => mKd ks vs es fs && !es.isEmpty && decide (es.length ≤ 15) && noSlB ea && mE p cf N false a sc ea
    | _ => false
  | t, .dnew, sc, e => match e with
    | .Dict [] [] _ => true
    | _ => false
  | t, .dget2 o i a, sc, e => match e with
    | .Call (.Attribute eo m apos) [ei, ea] [] pos => decide (m = "get") && notSuper eo && notStar ei && notStar ea && (apos.endLine == pos.line) && mE p cf N false o sc eo && mE p cf N false i sc ei && mE p cf N false a sc ea
    | _ => false
  | t, .dsetd o i a, sc, e => match e with
    | .Call (.Attribute eo m apos) [ei, ea] [] pos => decide (m = "setdefault") && notSuper eo && notStar ei && notStar ea && (apos.endLine == pos.line) && mE p cf N false o sc eo && mE p cf N false i sc ei && mE p cf N false a sc ea
    | _ => false
  | _, .dsrt _ _, _, _ => false
  | t, .srk _ o f, sc, e => match e with
    | .Call (.Name x _) [eo] [⟨some k, .Name y _, _⟩] _ => decide (x = "sorted") && decide (k = "key") && decide (cf.fnm f = some y) && glB sc "sorted" && glB sc y && nmOk y && notStar eo && mE p cf N false o sc eo
    | _ => false
  | t, .glb i, sc, e => match e with
    | .Name x _ => (match cf.ctl[i]?, p.cns[i]? with | some (some y), some _ => decide (x = y) | _, _ => false) && glB sc x && nmOk x
    | _ => false
  | t, .cmp2 k l a b c, sc, e => match e with
    | .Compare ea [o1, o2] [eb, ec] _ => decide (o1 = k.py) && decide (o2 = l.py) && mE p cf N false a sc ea && mE p cf N false b sc eb && mE p cf N false c sc ec
    | _ => false
  | t, .bop k es, sc, e => match e with
    | .BoolOp op ees _ => decide (op = boOp k) && mB p cf N t es sc ees
    | _ => false
  | t, .not_ a, sc, e => match e with
    | .UnaryOp op ea _ => decide (op = .Not) && mE p cf N t a sc ea
    | _ => false
  | t, .ife k a b, sc, e => match e with
    | .IfExp ek ea eb _ => !t && mE p cf N true k sc ek && mE p cf N false a sc ea && mE p cf N false b sc eb
    | _ => false
  | t, .call f es, sc, e => match e with
    | .Call (.Name x _) ees [] _ => decide (cf.fnm f = some x) && glB sc x && nmOk x && notStars ees && mEs p cf N es sc ees
    | _ => false
  | t, .make C es, sc, e => match e with
    | .Call (.Name x _) ees [] _ => decide (cf.cnm C = some x) && (p.cls[C]?).isSome && glB sc x && nmOk x && notStars ees && mEs p cf N es sc ees
    | _ => false
  | t, .meth o k es, sc, e => match e with
    | .Call (.Attribute eo m apos) ees [] pos => decide (m = cf.mnm k) && notSuper eo && notStars ees && decide (ees.length < 30) && (apos.endLine == pos.line) && mE p cf N false o sc eo && mEs p cf N es sc ees
    | _ => false
  | t, .blt b _ es, sc, e => match e with
    | .Call (.Name x _) ees [] _ => decide (x = b.nm) && glB sc b.nm && !ees.isEmpty && notStars ees && mEs p cf N es sc ees
    | _ => false
  | t, .bm b _ o es, sc, e => match e with
    | .Call (.Attribute eo m apos) ees [] pos => decide (m = b.nm) && notSuper eo && !ees.isEmpty && notStars ees && decide (ees.length < 30) && (apos.endLine == pos.line) && mE p cf N false o sc eo && mEs p cf N es sc ees
    | _ => false
  | t, .fld o f, sc, e => match e with
    | .Attribute eo x _ => decide (x = attOf cf.atl f) && decide (f < cf.natt) && notSuper eo && mE p cf N false o sc eo
    | _ => false
  | t, .idx a b, sc, e => match e with
    | .Subscript ea eb _ => plainIxB eb && mE p cf N false a sc ea && mE p cf N false b sc eb
    | _ => false
  | t, .slc _ a lo hi, sc, e => match e with
    | .Subscript ea (.Slice elo ehi none _) _ => mE p cf N false a sc ea && mO p cf N lo sc elo && mO p cf N hi sc ehi
    | _ => false
  | t, .rev _ a, sc, e => match e with
    | .Subscript ea (.Slice none none (some (.UnaryOp op (.Constant k _ _) _)) _) _ => decide (op = .USub) && decide (k = .int 1) && mE p cf N false a sc ea
    | _ => false
  | t, .lst _ es, sc, e => match e with
    | .List ees _ => notStars ees && mEs p cf N es sc ees
    | _ => false
  | t, .tup es, sc, e => match e with
    | .Tuple ees _ _ => notStars ees && mEs p cf N es sc ees
    | _ => false
  | t, .lc _ elt g it cond own, sc, e => match e with
    | .ListComp eelt [⟨tg, iter, ifs, as⟩] scope _ =>
    decide (as = 0) && own.all (fun i => decide (i < N.length)) && g.ix.all (fun i => own.contains i) && blkC N sc scope (ownOf N own) && notSetE iter && mI p cf N it sc tg iter && mG N (relS scope sc) (fun x => scope.names.lookup x == some .cell) g tg
      && mC p cf N cond (relS scope sc) ifs && mE p cf N false elt (relS scope sc) eelt
    | _ => false
  | t, .frz a, sc, e => !t && mE p cf N false a sc e
def mEs (p : Pg) (cf : Cf) (N : List Str) : List ME → Scope → List Expr → Bool
  | [], _, [] => true
  | a :: as, sc, e :: es => mE p cf N false a sc e && mEs p cf N as sc es
  | _, _, _ => false
def mB (p : Pg) (cf : Cf) (N : List Str) (t : Bool) : List ME → Scope → List Expr → Bool
  | [a], sc, [e] => mE p cf N t a sc e
  | a :: as, sc, e :: es => mE p cf N t a sc e && mB p cf N t as sc es
  | _, _, _ => false
def mO (p : Pg) (cf : Cf) (N : List Str) : Option ME → Scope → Option Expr → Bool
  | none, _, none => true
  | some a, sc, some e => mE p cf N false a sc e
  | _, _, _ => false
def mC (p : Pg) (cf : Cf) (N : List Str) : Option ME → Scope → List Expr → Bool
  | none, _, [] => true
  | some a, sc, [e] => mE p cf N true a sc e
  | _, _, _ => false
def mI (p : Pg) (cf : Cf) (N : List Str) : It → Scope → Expr → Expr → Bool
  | .seq a, sc, _, e => mE p cf N false a sc e
  | .rng1 a, sc, _, e => match e with
    | .Call (.Name x _) [ea] [] _ => decide (x = "range") && glB sc "range" && notStar ea && mE p cf N false a sc ea
    | _ => false
  | .rng2 a b, sc, _, e => match e with
    | .Call (.Name x _) [ea, eb] [] _ => decide (x = "range") && glB sc "range" && notStar ea && notStar eb && mE p cf N false a sc ea && mE p cf N false b sc eb
    | _ => false
  | .rng3 a b c, sc, _, e => match e with
    | .Call (.Name x _) [ea, eb, ec] [] _ => decide (x = "range") && glB sc "range" && notStar ea && notStar eb && notStar ec && mE p cf N false a sc ea && mE p cf N false b sc eb && mE p cf N false c sc ec
    | _ => false
  | .zip a b, sc, tg, e => match e with
    | .Call (.Name x _) [ea, eb] [] _ => isTupE tg && decide (x = "zip") && glB sc "zip" && notStar ea && notStar eb && mE p cf N false a sc ea && mE p cf N false b sc eb
    | _ => false
  | .enum a, sc, tg, e => match e with
    | .Call (.Name x _) [ea] [] _ => isTupE tg && decide (x = "enumerate") && glB sc "enumerate" && notStar ea && mE p cf N false a sc ea
    | _ => false
end
variable {E : En} {N : List Str}
mutual
theorem mG_ok {fs : Str → Bool} {sc : Scope} : ∀ (t : Tg) (e : Expr), mG N sc fs t e = true → JG E N sc fs t e
  | .nm i, e, h => by
    cases e <;> first
      | (simp only [mG, Bool.and_eq_true, decide_eq_true_eq] at h; exact jg_nm h.1 h.2)
      | (simp [mG] at h; done)
  | .tp ts, e, h => by
    cases e <;> first
      | (simp only [mG, Bool.and_eq_true] at h; exact jg_tp h.1 (mGs_len ts _ h.2) (mGs_ok ts _ h.2))
      | (simp [mG] at h; done)
theorem mGs_ok {fs : Str → Bool} {sc : Scope} : ∀ (ts : List Tg) (es : List Expr), mGs N sc fs ts es = true → JGs E N sc fs ts es
  | [], [], _ => jgs_nil
  | t :: ts, e :: es, h => by
    simp only [mGs, Bool.and_eq_true] at h
    exact jgs_cons h.1.1 (mG_ok t e h.1.2) (mGs_ok ts es h.2)
  | [], _ :: _, h => by simp [mGs] at h
  | _ :: _, [], h => by simp [mGs] at h
theorem mGs_len {fs : Str → Bool} {sc : Scope} : ∀ (ts : List Tg) (es : List Expr), mGs N sc fs ts es = true → ts.length = es.length
  | [], [], _ => rfl
  | t :: ts, e :: es, h => by
    simp only [mGs, Bool.and_eq_true] at h
    rw [List.length_cons, List.length_cons, mGs_len ts es h.2]
  | [], _ :: _, h => by simp [mGs] at h
  | _ :: _, [], h => by simp [mGs] at h
end

/-- a value, or a test -/
def JX (E : En) (N : List Str) (sc : Scope) (t : Bool) (me : ME) (e : Expr) : Prop := if t = true then JT E N sc me e else JE E N sc me e
theorem jx_plain {sc : Scope} {t : Bool} {me : ME} {e : Expr} (h : JE E N sc me e) (hp : plainTest e = true) : JX E N sc t me e := by
  unfold JX
  cases t with
  | true => rw [if_pos rfl]; exact jt_val h hp
  | false => rw [if_neg Bool.false_ne_true]; exact h
theorem jx_e {sc : Scope} {me : ME} {e : Expr} (h : JX E N sc false me e) : JE E N sc me e := h
theorem jx_t {sc : Scope} {me : ME} {e : Expr} (h : JX E N sc true me e) : JT E N sc me e := h
def JB (E : En) (N : List Str) (sc : Scope) (t conj : Bool) (es : List ME) (ees : List Expr) : Prop := ∀ pos : Pos, if t = true then (∀ X W, Cok E N sc X → Takes X W → PW X (.BoolOp (boOp conj) ees pos) (rdT E W (.bop conj es))) else JE E N sc (.bop conj es) (.BoolOp (boOp conj) ees pos)
theorem isTup_of {e : Expr} (h : isTupE e = true) : ∃ es k p, e = .Tuple es k p := by
  cases e <;> first | exact ⟨_, _, _, rfl⟩ | cases h
theorem mConst_ok {sc : Scope} {t : Bool} {c : Cn} {k : Const} {u : _} {p : _} (h : mConst c k = true) : JX E N sc t (.lit c) (.Constant k u p) := by
  cases c <;> cases k <;> first
    | exact jx_plain je_non rfl
    | (simp only [mConst, decide_eq_true_eq] at h; subst h; first | exact jx_plain je_bl rfl | exact jx_plain je_int rfl | exact jx_plain je_str rfl)
    | (simp [mConst] at h; done)
set_option maxHeartbeats 4000000 in
mutual
theorem mE_ok (G : Gok E) : ∀ (me : ME) (t : Bool) (sc : Scope) (e : Expr), mE E.p E.cf N t me sc e = true → JX E N sc t me e
  | .var i, t, sc, e, h => by
    simp only [mE] at h
    split at h
    · simp only [Bool.and_eq_true, decide_eq_true_eq] at h
      exact jx_plain (je_var h.1.1 h.1.2 h.2) rfl
    · cases h
  | .lit c, t, sc, e, h => by
    simp only [mE] at h
    split at h
    · exact mConst_ok h
    · cases h
  | .bin o obj a b, t, sc, e, h => by
    simp only [mE] at h
    split at h
    · simp only [Bool.and_eq_true, decide_eq_true_eq] at h
      obtain ⟨⟨h1, h2⟩, h3⟩ := h
      subst h1
      exact jx_plain (je_bin (mE_ok G a false sc _ h2) (mE_ok G b false sc _ h3) o obj) rfl
    · cases h
  | .neg a, t, sc, e, h => by
    simp only [mE] at h
    split at h
    · simp only [Bool.and_eq_true, decide_eq_true_eq] at h
      obtain ⟨h1, h2⟩ := h
      subst h1
      exact jx_plain (je_neg (mE_ok G a false sc _ h2)) rfl
    · cases h
  | .cmp c a b, t, sc, e, h => by
    simp only [mE] at h
    split at h
    · simp only [Bool.and_eq_true, decide_eq_true_eq] at h
      obtain ⟨⟨h1, h2⟩, h3⟩ := h
      subst h1
      have ja := jx_e (mE_ok G a false sc _ h2)
      have jb := jx_e (mE_ok G b false sc _ h3)
      unfold JX
      cases t with
      | true => rw [if_pos rfl]; exact jt_cmp ja jb c
      | false => rw [if_neg Bool.false_ne_true]; exact je_cmp ja jb c
    · cases h
  | .isn ng a, t, sc, e, h => by
    simp only [mE] at h
    split at h
    · simp only [Bool.and_eq_true, decide_eq_true_eq] at h
      obtain ⟨h1, h2⟩ := h
      have ja := jx_e (mE_ok G a false sc _ h2)
      unfold JX
      cases ng with
      | true =>
        rw [if_pos rfl] at h1
        subst h1
        cases t with
        | true => rw [if_pos rfl]; exact jt_isnn ja
        | false => rw [if_neg Bool.false_ne_true]; exact je_isnn ja
      | false =>
        rw [if_neg Bool.false_ne_true] at h1
        subst h1
        cases t with
        | true => rw [if_pos rfl]; exact jt_isn ja
        | false => rw [if_neg Bool.false_ne_true]; exact je_isn ja
    · cases h
  | .isi ty a, t, sc, e, h => by
    simp only [mE] at h
    split at h
    · simp only [Bool.and_eq_true, decide_eq_true_eq] at h
      obtain ⟨⟨⟨⟨⟨h1, h2⟩, h3⟩, h4⟩, h5⟩, h6⟩ := h
      subst h1
      subst h2
      exact jx_plain (je_isi G (jx_e (mE_ok G a false sc _ h6)) h3 h4 h5) rfl
    · cases h
  | .isit ty tu a, t, sc, e, h => by
    simp only [mE] at h
    split at h
    · simp only [Bool.and_eq_true, decide_eq_true_eq] at h
      obtain ⟨⟨⟨⟨⟨⟨⟨h1, h2⟩, h2'⟩, h3⟩, h4⟩, h5⟩, h5'⟩, h6⟩ := h
      subst h1
      subst h2
      subst h2'
      exact jx_plain (je_isit G (jx_e (mE_ok G a false sc _ h6)) h3 h4 h5 h5') rfl
    · cases h
  | .mem ng a b, t, sc, e, h => by
    simp only [mE] at h
    split at h
    · simp only [Bool.and_eq_true, decide_eq_true_eq] at h
      obtain ⟨⟨⟨h1, h0⟩, h2⟩, h3⟩ := h
      subst h1
      have ja := jx_e (mE_ok G a false sc _ h2)
      have jb := jx_e (mE_ok G b false sc _ h3)
      unfold JX
      cases t with
      | true => rw [if_pos rfl]; exact jt_mem ja jb h0
      | false => rw [if_neg Bool.false_ne_true]; exact je_mem ja jb h0
    · cases h
  | .kcat i obj a, t, sc, e, h => by
    simp only [mE] at h
    split at h
    · simp only [Bool.and_eq_true, decide_eq_true_eq] at h
      obtain ⟨⟨⟨⟨h1, h2⟩, h3⟩, h4⟩, h5⟩ := h
      subst h2
      split at h1
      · rename_i y xs e1 e2
        have h1 := of_decide_eq_true h1
        subst h1
        exact jx_plain (je_kcat G e1 e2 h3 h4 (jx_e (mE_ok G a false sc _ h5))) rfl
      · cases h1
    · cases h
  | .kidx i a, t, sc, e, h => by
    simp only [mE] at h
    split at h
    · simp only [Bool.and_eq_true, decide_eq_true_eq] at h
      obtain ⟨⟨⟨⟨⟨⟨h1, h2⟩, h3⟩, h4⟩, h5⟩, h6⟩, h7⟩ := h
      subst h2
      split at h1
      · rename_i y xs e1 e2
        have h1 := of_decide_eq_true h1
        subst h1
        exact jx_plain (je_kidx G e1 e2 h3 h4 h5 h6 (jx_e (mE_ok G a false sc _ h7))) rfl
      · cases h1
    · cases h
  | .kd ks vs a, t, sc, e, h => by
    simp only [mE] at h
    split at h
    · simp only [Bool.and_eq_true, decide_eq_true_eq, Bool.not_eq_true'] at h
      obtain ⟨⟨⟨⟨h1, h2⟩, h3⟩, h4⟩, h5⟩ := h
      exact jx_plain (je_kd h1 h2 h3 h4 (jx_e (mE_ok G a false sc _ h5))) rfl
    · cases h
  | .dnew, t, sc, e, h => by
    simp only [mE] at h
    split at h
    · exact jx_plain je_dnew rfl
    · cases h
  | .dget2 o i a, t, sc, e, h => by
    simp only [mE] at h
    split at h
    · simp only [Bool.and_eq_true, decide_eq_true_eq] at h
      obtain ⟨⟨⟨⟨⟨⟨⟨h1, h2⟩, h3⟩, h4⟩, h5⟩, h6⟩, h7⟩, h8⟩ := h
      subst h1
      exact jx_plain (je_dget2 h2 h3 h4 h5 (jx_e (mE_ok G o false sc _ h6)) (jx_e (mE_ok G i false sc _ h7)) (jx_e (mE_ok G a false sc _ h8))) rfl
    · cases h
  | .dsetd o i a, t, sc, e, h => by
    simp only [mE] at h
    split at h
    · simp only [Bool.and_eq_true, decide_eq_true_eq] at h
      obtain ⟨⟨⟨⟨⟨⟨⟨h1, h2⟩, h3⟩, h4⟩, h5⟩, h6⟩, h7⟩, h8⟩ := h
      subst h1
      exact jx_plain (je_dsetd h2 h3 h4 h5 (jx_e (mE_ok G o false sc _ h6)) (jx_e (mE_ok G i false sc _ h7)) (jx_e (mE_ok G a false sc _ h8))) rfl
    · cases h
  | .dsrt _ _, t, sc, e, h => by simp [mE] at h
  | .srk obj o f, t, sc, e, h => by
    simp only [mE] at h
    split at h
    · simp only [Bool.and_eq_true, decide_eq_true_eq] at h
      obtain ⟨⟨⟨⟨⟨⟨⟨h1, h2⟩, h3⟩, h4⟩, h5⟩, h6⟩, h7⟩, h8⟩ := h
      subst h1
      subst h2
      exact jx_plain (je_srk G h3 h4 h5 h6 h7 (jx_e (mE_ok G o false sc _ h8))) rfl
    · cases h
  | .glb i, t, sc, e, h => by
    simp only [mE] at h
    split at h
    · rename_i x _
      simp only [Bool.and_eq_true] at h
      obtain ⟨⟨h1, h2⟩, h3⟩ := h
      split at h1
      · rename_i y k e1 e2
        have h1 := of_decide_eq_true h1
        subst h1
        exact jx_plain (je_glb G e1 e2 h2 h3) rfl
      · cases h1
    · cases h
  | .cmp2 k l a b c, t, sc, e, h => by
    simp only [mE] at h
    split at h
    · simp only [Bool.and_eq_true, decide_eq_true_eq] at h
      obtain ⟨⟨⟨⟨h1, h2⟩, h3⟩, h4⟩, h5⟩ := h
      subst h1
      subst h2
      have ja := jx_e (mE_ok G a false sc _ h3)
      have jb := jx_e (mE_ok G b false sc _ h4)
      have jc := jx_e (mE_ok G c false sc _ h5)
      unfold JX
      cases t with
      | true => rw [if_pos rfl]; exact jt_cmp2 ja jb jc k l
      | false => rw [if_neg Bool.false_ne_true]; exact je_cmp2 ja jb jc k l
    · cases h
  | .bop k es, t, sc, e, h => by
    simp only [mE] at h
    split at h
    · simp only [Bool.and_eq_true, decide_eq_true_eq] at h
      obtain ⟨h1, h2⟩ := h
      subst h1
      have j := mB_ok G es t k sc _ h2
      unfold JX
      cases t with
      | true => rw [if_pos rfl]; exact fun X W C tk => ((j _) X W C tk).pt
      | false => rw [if_neg Bool.false_ne_true]; exact j _
    · cases h
  | .not_ a, t, sc, e, h => by
    simp only [mE] at h
    split at h
    · simp only [Bool.and_eq_true, decide_eq_true_eq] at h
      obtain ⟨h1, h2⟩ := h
      subst h1
      have j := mE_ok G a t sc _ h2
      unfold JX at j ⊢
      cases t with
      | true => rw [if_pos rfl] at j ⊢; exact jt_not j
      | false => rw [if_neg Bool.false_ne_true] at j ⊢; exact je_not j
    · cases h
  | .ife k a b, t, sc, e, h => by
    simp only [mE] at h
    split at h
    · simp only [Bool.and_eq_true, Bool.not_eq_true'] at h
      obtain ⟨⟨⟨h1, h2⟩, h3⟩, h4⟩ := h
      subst h1
      exact je_ife (jx_t (mE_ok G k true sc _ h2)) (jx_e (mE_ok G a false sc _ h3)) (jx_e (mE_ok G b false sc _ h4))
    · cases h
  | .call f es, t, sc, e, h => by
    simp only [mE] at h
    split at h
    · rename_i x _ ees pos
      simp only [Bool.and_eq_true, decide_eq_true_eq] at h
      obtain ⟨⟨⟨⟨h1, h2⟩, h3⟩, h4⟩, h5⟩ := h
      have j := mEs_ok G es sc _ h5 h4
      cases ees with
      | nil =>
        cases es with
        | nil => exact jx_plain (je_call0 G h1 h2 h3) rfl
        | cons a as => simp [mEs] at h5
      | cons e0 ees => exact jx_plain (je_call G h1 h2 h3 h4 j) rfl
    · cases h
  | .make C es, t, sc, e, h => by
    simp only [mE] at h
    split at h
    · rename_i x _ ees pos
      simp only [Bool.and_eq_true, decide_eq_true_eq] at h
      obtain ⟨⟨⟨⟨⟨h1, h0⟩, h2⟩, h3⟩, h4⟩, h5⟩ := h
      obtain ⟨cd, hcd⟩ := Option.isSome_iff_exists.mp h0
      have j := mEs_ok G es sc _ h5 h4
      cases ees with
      | nil =>
        cases es with
        | nil => exact jx_plain (je_make0 G hcd h1 h2 h3) rfl
        | cons a as => simp [mEs] at h5
      | cons e0 ees => exact jx_plain (je_make G hcd h1 h2 h3 h4 j) rfl
    · cases h
  | .meth o k es, t, sc, e, h => by
    simp only [mE] at h
    split at h
    · rename_i eo m apos ees pos
      simp only [Bool.and_eq_true, decide_eq_true_eq] at h
      obtain ⟨⟨⟨⟨⟨⟨h1, h2⟩, h3⟩, h4⟩, h5⟩, h6⟩, h7⟩ := h
      subst h1
      have jo := jx_e (mE_ok G o false sc _ h6)
      have j := mEs_ok G es sc _ h7 h3
      cases ees with
      | nil =>
        cases es with
        | nil => exact jx_plain (je_meth0 G h2 h5 jo) rfl
        | cons a as => simp [mEs] at h7
      | cons e0 ees => exact jx_plain (je_meth G h2 h3 h4 h5 jo j) rfl
    · cases h
  | .blt b obj es, t, sc, e, h => by
    simp only [mE] at h
    split at h
    · rename_i x _ ees pos
      simp only [Bool.and_eq_true, decide_eq_true_eq, Bool.not_eq_true'] at h
      obtain ⟨⟨⟨⟨h1, h2⟩, h3⟩, h4⟩, h5⟩ := h
      subst h1
      have j := mEs_ok G es sc _ h5 h4
      cases ees with
      | nil => simp at h3
      | cons e0 ees => exact jx_plain (je_blt G h2 h4 j) rfl
    · cases h
  | .bm b obj o es, t, sc, e, h => by
    simp only [mE] at h
    split at h
    · rename_i eo m apos ees pos
      simp only [Bool.and_eq_true, decide_eq_true_eq, Bool.not_eq_true'] at h
      obtain ⟨⟨⟨⟨⟨⟨⟨h1, h2⟩, h3⟩, h4⟩, h5⟩, h6⟩, h7⟩, h8⟩ := h
      subst h1
      have jo := jx_e (mE_ok G o false sc _ h7)
      have j := mEs_ok G es sc _ h8 h4
      cases ees with
      | nil => simp at h3
      | cons e0 ees => exact jx_plain (je_bm h2 h4 h5 h6 jo j) rfl
    · cases h
  | .fld o f, t, sc, e, h => by
    simp only [mE] at h
    split at h
    · rename_i eo x pos
      simp only [Bool.and_eq_true, decide_eq_true_eq] at h
      obtain ⟨⟨⟨h1, h2⟩, h3⟩, h4⟩ := h
      subst h1
      have j := je_fld (pos := by assumption) G h3 h2 (jx_e (mE_ok G o false sc _ h4))
      rw [G.att] at j
      exact jx_plain j rfl
    · cases h
  | .idx a b, t, sc, e, h => by
    simp only [mE] at h
    split at h
    · simp only [Bool.and_eq_true] at h
      obtain ⟨⟨h1, h2⟩, h3⟩ := h
      exact jx_plain (je_idx (jx_e (mE_ok G a false sc _ h2)) (jx_e (mE_ok G b false sc _ h3)) h1) rfl
    · cases h
  | .slc obj a lo hi, t, sc, e, h => by
    simp only [mE] at h
    split at h
    · simp only [Bool.and_eq_true] at h
      obtain ⟨⟨h1, h2⟩, h3⟩ := h
      exact jx_plain (je_slc (jx_e (mE_ok G a false sc _ h1)) (mO_ok G lo sc _ h2) (mO_ok G hi sc _ h3)) rfl
    · cases h
  | .rev obj a, t, sc, e, h => by
    simp only [mE] at h
    split at h
    · simp only [Bool.and_eq_true, decide_eq_true_eq] at h
      obtain ⟨⟨h1, h2⟩, h3⟩ := h
      subst h1
      subst h2
      exact jx_plain (je_rev (jx_e (mE_ok G a false sc _ h3))) rfl
    · cases h
  | .lst obj es, t, sc, e, h => by
    simp only [mE] at h
    split at h
    · simp only [Bool.and_eq_true] at h
      exact jx_plain (je_lst (mEs_ok G es sc _ h.2 h.1)) rfl
    · cases h
  | .tup es, t, sc, e, h => by
    simp only [mE] at h
    split at h
    · simp only [Bool.and_eq_true] at h
      exact jx_plain (je_tup (mEs_ok G es sc _ h.2 h.1)) rfl
    · cases h
  | .lc obj elt g it cond own, t, sc, e, h => by
    simp only [mE] at h
    split at h
    · rename_i eelt tg iter ifs as scope pos
      simp only [Bool.and_eq_true, decide_eq_true_eq, List.all_eq_true] at h
      obtain ⟨⟨⟨⟨⟨⟨⟨⟨h1, h2⟩, h3⟩, h4⟩, h5⟩, h6⟩, h7⟩, h8⟩, h9⟩ := h
      subst h1
      refine jx_plain (je_lc h2 (fun i hi => by simpa using h3 i hi) h4 h5 (mI_ok G it sc _ _ h6) (mG_ok g _ h7) ?_ (jx_e (mE_ok G elt false _ _ h9))) rfl
      exact mC_ok G cond _ _ h8
    · cases h
  | .frz a, t, sc, e, h => by
    simp only [mE, Bool.and_eq_true, Bool.not_eq_true'] at h
    obtain ⟨h1, h2⟩ := h
    subst h1
    exact je_frz (jx_e (mE_ok G a false sc _ h2))
theorem mEs_ok (G : Gok E) : ∀ (es : List ME) (sc : Scope) (ees : List Expr), mEs E.p E.cf N es sc ees = true → notStars ees = true → JEs E N sc es ees
  | [], sc, [], _, _ => jes_nil
  | a :: as, sc, e :: es, h, hs => by
    simp only [mEs, Bool.and_eq_true] at h
    have hs2 : notStar e = true ∧ notStars es = true := by
      unfold notStars at hs ⊢
      simpa [List.all_cons, Bool.and_eq_true] using hs
    exact jes_cons (jx_e (mE_ok G a false sc e h.1)) hs2.1 (mEs_ok G as sc es h.2 hs2.2)
  | [], sc, _ :: _, h, _ => by simp [mEs] at h
  | _ :: _, sc, [], h, _ => by simp [mEs] at h
theorem mB_ok (G : Gok E) : ∀ (es : List ME) (t conj : Bool) (sc : Scope) (ees : List Expr), mB E.p E.cf N t es sc ees = true → JB E N sc t conj es ees
  | [], t, conj, sc, ees, h => by cases ees <;> simp [mB] at h
  | [a], t, conj, sc, ees, h => by
    rcases ees with _ | ⟨e, _ | ⟨e2, es⟩⟩
    · simp [mB] at h
    · simp only [mB] at h
      have j := mE_ok G a t sc e h
      intro pos
      unfold JX at j
      cases t with
      | true => rw [if_pos rfl] at j ⊢; exact jt_bop1 j
      | false => rw [if_neg Bool.false_ne_true] at j ⊢; exact je_bop1 j
    · simp [mB] at h
  | a :: b :: es, t, conj, sc, ees, h => by
    rcases ees with _ | ⟨e, _ | ⟨e2, ees⟩⟩
    · simp [mB] at h
    · simp [mB] at h
    · have h : (mE E.p E.cf N t a sc e && mB E.p E.cf N t (b :: es) sc (e2 :: ees)) = true := by simpa only [mB] using h
      rw [Bool.and_eq_true] at h
      have j := mE_ok G a t sc e h.1
      have jb := mB_ok G (b :: es) t conj sc _ h.2
      intro pos
      have jb := jb pos
      unfold JX at j
      cases t with
      | true => rw [if_pos rfl] at j jb ⊢; exact jt_bop j jb
      | false => rw [if_neg Bool.false_ne_true] at j jb ⊢; exact je_bop j jb
theorem mO_ok (G : Gok E) : ∀ (o : Option ME) (sc : Scope) (e : Option Expr), mO E.p E.cf N o sc e = true → JO E N sc o e
  | none, sc, none, _ => jo_none
  | some a, sc, some e, h => by
    simp only [mO] at h
    exact jo_some (jx_e (mE_ok G a false sc e h))
  | none, sc, some _, h => by simp [mO] at h
  | some _, sc, none, h => by simp [mO] at h
theorem mC_ok (G : Gok E) : ∀ (o : Option ME) (sc : Scope) (e : List Expr), mC E.p E.cf N o sc e = true → JC E N sc o e
  | none, sc, [], _ => jc_none
  | some a, sc, [e], h => by
    simp only [mC] at h
    exact jc_some (jx_t (mE_ok G a true sc e h))
  | none, sc, _ :: _, h => by simp [mC] at h
  | some _, sc, [], h => by simp [mC] at h
  | some _, sc, _ :: _ :: _, h => by simp [mC] at h
theorem mI_ok (G : Gok E) : ∀ (it : It) (sc : Scope) (tg e : Expr), mI E.p E.cf N it sc tg e = true → JI E N sc it tg e
  | .seq a, sc, tg, e, h => by
    simp only [mI] at h
    exact ji_seq (jx_e (mE_ok G a false sc e h))
  | .rng1 a, sc, tg, e, h => by
    simp only [mI] at h
    split at h
    · simp only [Bool.and_eq_true, decide_eq_true_eq] at h
      obtain ⟨⟨⟨h1, h2⟩, h3⟩, h4⟩ := h
      subst h1
      exact ji_rng1 G h2 h3 (jx_e (mE_ok G a false sc _ h4))
    · cases h
  | .rng2 a b, sc, tg, e, h => by
    simp only [mI] at h
    split at h
    · simp only [Bool.and_eq_true, decide_eq_true_eq] at h
      obtain ⟨⟨⟨⟨⟨h1, h2⟩, h3⟩, h4⟩, h6⟩, h7⟩ := h
      subst h1
      exact ji_rng2 G h2 h3 h4 (jx_e (mE_ok G a false sc _ h6)) (jx_e (mE_ok G b false sc _ h7))
    · cases h
  | .rng3 a b c, sc, tg, e, h => by
    simp only [mI] at h
    split at h
    · simp only [Bool.and_eq_true, decide_eq_true_eq] at h
      obtain ⟨⟨⟨⟨⟨⟨⟨h1, h2⟩, h3⟩, h4⟩, h5⟩, h6⟩, h7⟩, h8⟩ := h
      subst h1
      exact ji_rng3 G h2 h3 h4 h5 (jx_e (mE_ok G a false sc _ h6)) (jx_e (mE_ok G b false sc _ h7)) (jx_e (mE_ok G c false sc _ h8))
    · cases h
  | .zip a b, sc, tg, e, h => by
    simp only [mI] at h
    split at h
    · simp only [Bool.and_eq_true, decide_eq_true_eq] at h
      obtain ⟨⟨⟨⟨⟨⟨h0, h1⟩, h2⟩, h3⟩, h4⟩, h5⟩, h6⟩ := h
      subst h1
      obtain ⟨es, k, p, rfl⟩ := isTup_of h0
      exact ji_zip G h2 h3 h4 (jx_e (mE_ok G a false sc _ h5)) (jx_e (mE_ok G b false sc _ h6))
    · cases h
  | .enum a, sc, tg, e, h => by
    simp only [mI] at h
    split at h
    · simp only [Bool.and_eq_true, decide_eq_true_eq] at h
      obtain ⟨⟨⟨⟨h0, h1⟩, h2⟩, h3⟩, h4⟩ := h
      subst h1
      obtain ⟨es, k, p, rfl⟩ := isTup_of h0
      exact ji_enum G h2 h3 (jx_e (mE_ok G a false sc _ h4))
    · cases h
end
end R

/-! RSndB: statements of R and of the row, compared. -/
namespace R
open PySem PySem.Spec PyProof.Rows L2

def isFrzv : MS → Bool
  | .frzv _ => true
  | .frzs _ => true
  | _ => false
def isLc : ME → Bool
  | .lc _ _ _ _ _ _ => true
  | _ => false
mutual
def mS (p : Pg) (cf : Cf) (N : List Str) (sc : Scope) (fs : Str → Bool) : MS → Stmt → Bool
  | .ex a, s => match s with
    | .Expr ea _ => notComp ea && mE p cf N false a sc ea
    | _ => false
  | .ret a, s => match s with
    | .Return (some ea) _ => mE p cf N false a sc ea
    | _ => false
  | .retn, s => match s with
    | .Return none _ => true
    | _ => false
  | .set i a, s => match s with
    | .Assign [.Name x pn] ea _ => decide (N[i]? = some x) && locB sc fs x && isComp2 ea && (!swapB sc x pn ea || isLc a) && mE p cf N false a sc ea
    | _ => false
  | .unp g a, s => match s with
    | .Assign [tg] ea _ => notStar tg && notComp ea && notTup ea && mG N sc fs g tg && mE p cf N false a sc ea
    | _ => false
  | .setf o f a, s => match s with
    | .Assign [.Attribute eo x _] ea _ => decide (x = attOf cf.atl f) && decide (f < cf.natt) && mE p cf N false o sc eo && mE p cf N false a sc ea
    | _ => false
  | .seti o i a, s => match s with
    | .Assign [.Subscript eo ei _] ea _ => plainIxB ei && mE p cf N false o sc eo && mE p cf N false i sc ei && mE p cf N false a sc ea
    | _ => false
  | .setsl o i k a, s => match s with
    | .Assign [.Subscript eo (.Slice (some ei) (some ek) none _) _] ea _ => mE p cf N false o sc eo && mE p cf N false i sc ei && mE p cf N false k sc ek && mE p cf N false a sc ea
    | _ => false
  | .aug i o a, s => match s with
    | .AugAssign (.Name x _) op ea _ => decide (op = o.py) && decide (N[i]? = some x) && locB sc fs x && augOp o && mE p cf N false a sc ea
    | _ => false
  | .augf o f op a, s => match s with
    | .AugAssign (.Attribute eo x _) op' ea _ => decide (op' = op.py) && decide (x = attOf cf.atl f) && decide (f < cf.natt) && notSuper eo && augOp op && mE p cf N false o sc eo && mE p cf N false a sc ea
    | _ => false
  | .augi o i op a, s => match s with
    | .AugAssign (.Subscript eo ei _) op' ea _ => decide (op' = op.py) && plainIxB ei && augOp op && mE p cf N false o sc eo && mE p cf N false i sc ei && mE p cf N false a sc ea
    | _ => false
  | .ite k a b, s => match s with
    | .If ek ss ts _ => mE p cf N true k sc ek && mSs p cf N sc fs a ss && mSs p cf N sc fs b ts
    | _ => false
  | .for_ g it b, s => match s with
    | .For tg iter ss [] _ => notSetE iter && mI p cf N it sc tg iter && mG N sc fs g tg && mSs p cf N sc fs b ss
    | _ => false
  | .while_ _ k b, s => match s with
    | .While ek ss [] _ => mE p cf N true k sc ek && mSs p cf N sc fs b ss
    | _ => false
  | .brk, s => match s with
    | .Break _ => true
    | _ => false
  | .cont, s => match s with
    | .Continue _ => true
    | _ => false
  | .pass, s => match s with
    | .Pass _ => true
    | _ => false
  | .frzv _, _ => false
  | .dput o i a, s => match s with
    | .Assign [.Subscript eo ei _] ea _ => mE p cf N false o sc eo && mE p cf N false i sc ei && mE p cf N false a sc ea
    | _ => false
  | .forK g v fl b, s => match s with
    | .For tg iter ss [] _ => notSetE iter && mE p cf N false (pathE v fl) sc iter && mG N sc fs g tg && mSs p cf N sc fs b ss
    | _ => false
  | .frzs _, _ => false
def mSs (p : Pg) (cf : Cf) (N : List Str) (sc : Scope) (fs : Str → Bool) : List MS → List Stmt → Bool
  | [], [] => true
  | m :: ms, ss => if isFrzv m = true then mSs p cf N sc fs ms ss else match ss with
    | s :: ss => mS p cf N sc fs m s && mSs p cf N sc fs ms ss
    | [] => false
  | [], _ :: _ => false
end
variable {E : En} {N : List Str} {sc : Scope} {fs : Str → Bool}
theorem setc_ok (G : Gok E) {i : Nat} {x : Str} {pn pos : Pos} {a : ME} {ea : Expr} (h1 : N[i]? = some x) (hw : swapB sc x pn ea = true) (hl : isLc a = true) (h : mE E.p E.cf N false a sc ea = true) : JS E N sc fs (.set i a) (.Assign [.Name x pn] ea pos) := by
  cases a with
  | lc obj elt g it cond own =>
    simp only [mE] at h
    split at h
    · rename_i eelt tg iter ifs as scope cpos
      simp only [Bool.and_eq_true, decide_eq_true_eq, List.all_eq_true] at h
      obtain ⟨⟨⟨⟨⟨⟨⟨⟨q1, q2⟩, q3⟩, q4⟩, q5⟩, q6⟩, q7⟩, q8⟩, q9⟩ := h
      subst q1
      exact js_setc h1 hw q2 (fun i hi => by simpa using q3 i hi) q4 q5 (mI_ok G it sc _ _ q6) (mG_ok g _ q7) (mC_ok G cond _ _ q8) (jx_e (mE_ok G elt false _ _ q9))
    · cases h
  | _ => cases hl
set_option maxHeartbeats 4000000 in
mutual
theorem mS_ok (G : Gok E) : ∀ (ms : MS) (st : Stmt), mS E.p E.cf N sc fs ms st = true → JS E N sc fs ms st
  | .ex a, s, h => by
    simp only [mS] at h
    split at h
    · rw [Bool.and_eq_true] at h
      exact js_ex h.1 (jx_e (mE_ok G a false sc _ h.2))
    · cases h
  | .ret a, s, h => by
    simp only [mS] at h
    split at h
    · exact js_ret (jx_e (mE_ok G a false sc _ h))
    · cases h
  | .retn, s, h => by
    simp only [mS] at h
    split at h
    · exact js_retn
    · cases h
  | .set i a, s, h => by
    simp only [mS] at h
    split at h
    · rename_i x pn ea _
      simp only [Bool.and_eq_true, decide_eq_true_eq, Bool.or_eq_true, Bool.not_eq_true'] at h
      obtain ⟨⟨⟨⟨h1, h2⟩, h3⟩, h4⟩, h5⟩ := h
      by_cases q : swapB sc x pn ea = false
      · exact js_set h1 h2 h3 q (jx_e (mE_ok G a false sc _ h5))
      · rcases h4 with h4 | h4
        · exact absurd h4 q
        · exact setc_ok G h1 (by simpa using q) h4 h5
    · cases h
  | .unp g a, s, h => by
    simp only [mS] at h
    split at h
    · simp only [Bool.and_eq_true] at h
      obtain ⟨⟨⟨⟨h1, h2⟩, h3⟩, h4⟩, h5⟩ := h
      exact js_unp h1 h2 h3 (mG_ok g _ h4) (jx_e (mE_ok G a false sc _ h5))
    · cases h
  | .setf o f a, s, h => by
    simp only [mS] at h
    split at h
    · simp only [Bool.and_eq_true, decide_eq_true_eq] at h
      obtain ⟨⟨⟨h1, h2⟩, h3⟩, h4⟩ := h
      subst h1
      rw [← G.att]
      exact js_setf G h2 (jx_e (mE_ok G o false sc _ h3)) (jx_e (mE_ok G a false sc _ h4))
    · cases h
  | .seti o i a, s, h => by
    simp only [mS] at h
    split at h
    · simp only [Bool.and_eq_true] at h
      obtain ⟨⟨⟨h1, h2⟩, h3⟩, h4⟩ := h
      exact js_seti h1 (jx_e (mE_ok G o false sc _ h2)) (jx_e (mE_ok G i false sc _ h3)) (jx_e (mE_ok G a false sc _ h4))
    · cases h
  | .setsl o i k a, s, h => by
    simp only [mS] at h
    split at h
    · simp only [Bool.and_eq_true] at h
      obtain ⟨⟨⟨h2, h3⟩, h4⟩, h5⟩ := h
      exact js_setsl (jx_e (mE_ok G o false sc _ h2)) (jx_e (mE_ok G i false sc _ h3)) (jx_e (mE_ok G k false sc _ h4)) (jx_e (mE_ok G a false sc _ h5))
    · cases h
  | .aug i o a, s, h => by
    simp only [mS] at h
    split at h
    · simp only [Bool.and_eq_true, decide_eq_true_eq] at h
      obtain ⟨⟨⟨⟨h1, h2⟩, h3⟩, h4⟩, h5⟩ := h
      subst h1
      exact js_aug h2 h3 h4 (jx_e (mE_ok G a false sc _ h5))
    · cases h
  | .augf o f op a, s, h => by
    simp only [mS] at h
    split at h
    · simp only [Bool.and_eq_true, decide_eq_true_eq] at h
      obtain ⟨⟨⟨⟨⟨⟨h1, h2⟩, h3⟩, h4⟩, h5⟩, h6⟩, h7⟩ := h
      subst h1
      subst h2
      rw [← G.att]
      exact js_augf G h4 h3 h5 (jx_e (mE_ok G o false sc _ h6)) (jx_e (mE_ok G a false sc _ h7))
    · cases h
  | .augi o i op a, s, h => by
    simp only [mS] at h
    split at h
    · simp only [Bool.and_eq_true, decide_eq_true_eq] at h
      obtain ⟨⟨⟨⟨⟨h1, h2⟩, h3⟩, h4⟩, h5⟩, h6⟩ := h
      subst h1
      exact js_augi h2 h3 (jx_e (mE_ok G o false sc _ h4)) (jx_e (mE_ok G i false sc _ h5)) (jx_e (mE_ok G a false sc _ h6))
    · cases h
  | .ite k a b, s, h => by
    simp only [mS] at h
    split at h
    · simp only [Bool.and_eq_true] at h
      obtain ⟨⟨h1, h2⟩, h3⟩ := h
      exact js_ite (jx_t (mE_ok G k true sc _ h1)) (mSs_ok G a _ h2) (mSs_ok G b _ h3)
    · cases h
  | .for_ g it b, s, h => by
    simp only [mS] at h
    split at h
    · simp only [Bool.and_eq_true] at h
      obtain ⟨⟨⟨h1, h2⟩, h3⟩, h4⟩ := h
      exact js_for h1 (mI_ok G it sc _ _ h2) (mG_ok g _ h3) (mSs_ok G b _ h4)
    · cases h
  | .dput o i a, s, h => by
    simp only [mS] at h
    split at h
    · simp only [Bool.and_eq_true] at h
      obtain ⟨⟨h1, h2⟩, h3⟩ := h
      exact js_dput (jx_e (mE_ok G o false sc _ h1)) (jx_e (mE_ok G i false sc _ h2)) (jx_e (mE_ok G a false sc _ h3))
    · cases h
  | .forK g v fl b, s, h => by
    simp only [mS] at h
    split at h
    · simp only [Bool.and_eq_true] at h
      obtain ⟨⟨⟨h1, h2⟩, h3⟩, h4⟩ := h
      exact js_forK h1 (jx_e (mE_ok G (pathE v fl) false sc _ h2)) (mG_ok g _ h3) (mSs_ok G b _ h4)
    · cases h
  | .while_ n k b, s, h => by
    simp only [mS] at h
    split at h
    · simp only [Bool.and_eq_true] at h
      exact js_while (jx_t (mE_ok G k true sc _ h.1)) (mSs_ok G b _ h.2)
    · cases h
  | .brk, s, h => by
    simp only [mS] at h
    split at h
    · exact js_brk
    · cases h
  | .cont, s, h => by
    simp only [mS] at h
    split at h
    · exact js_cont
    · cases h
  | .pass, s, h => by
    simp only [mS] at h
    split at h
    · exact js_pass
    · cases h
  | .frzv _, s, h => by
    simp [mS] at h
  | .frzs _, s, h => by
    simp [mS] at h
theorem mSs_ok (G : Gok E) : ∀ (ms : List MS) (sts : List Stmt), mSs E.p E.cf N sc fs ms sts = true → JSs E N sc fs ms sts
  | [], [], _ => jss_nil
  | [], _ :: _, h => by simp [mSs] at h
  | m :: ms, ss, h => by
    have h : (if isFrzv m = true then mSs E.p E.cf N sc fs ms ss else match ss with
      | s :: ss => mS E.p E.cf N sc fs m s && mSs E.p E.cf N sc fs ms ss
      | [] => false) = true := by
      cases ss <;> simpa only [mSs] using h
    by_cases q : isFrzv m = true
    · rw [if_pos q] at h
      cases m <;> first | exact jss_frzv (mSs_ok G ms ss h) | exact jss_frzs (mSs_ok G ms ss h) | cases q
    · rw [if_neg q] at h
      cases ss with
      | nil => cases h
      | cons s ss =>
        simp only [Bool.and_eq_true] at h
        exact jss_cons (mS_ok G m s h.1) (mSs_ok G ms ss h.2)
end
end R

/-! RSndC: a def's end, and that each matched def keeps R's promise. -/
namespace R
open PySem PySem.Spec PyProof.Rows L2

section
variable {g : Gm} {w w1 w2 : Wd} {H H1 : Hp} {m m1 : Mm}
/-! ### values without ids -/
mutual
theorem Rv.nr (le : ∀ a o, w1.F a = some o → w2.F a = some o) : ∀ {d : D} {v : V}, R.nr d = true → Rv g w1 d v → Rv g w2 d v
  | _, _, _, .non => .non
  | _, _, _, .bl b => .bl b
  | _, _, _, .int i => .int i
  | _, _, _, .str x => .str x
  | _, _, h, .tup q r => .tup (sqT_mono le q) (Rvs.nr le (by simpa [R.nr] using h) r)
  | _, _, h, .lst q r => .lst (le _ _ q) (Rvs.nr le (by simpa [R.nr] using h) r)
  | _, _, h, .scr q r => .scr (sqL_mono le q) (Rvs.nr le (by simpa [R.nr] using h) r)
  | _, _, h, .dct q r => .dct (le _ _ q) (Rkv.nr le (by simpa [R.nr] using h) r)
  | _, _, h, .ins hc q r => .ins hc (le _ _ q) (Rfs.nr le (by simpa [R.nr] using h) r)
  | _, _, h, .ref _ _ => by simp [R.nr] at h
theorem Rvs.nr (le : ∀ a o, w1.F a = some o → w2.F a = some o) : ∀ {d : List D} {v : List V}, nrs d = true → Rvs g w1 d v → Rvs g w2 d v
  | _, _, _, .nil => .nil
  | _, _, h, .cons q r => by
    simp only [nrs, Bool.and_eq_true] at h
    exact .cons (Rv.nr le h.1 q) (Rvs.nr le h.2 r)
theorem Rkv.nr (le : ∀ a o, w1.F a = some o → w2.F a = some o) : ∀ {d : List (Key × D)} {v : List (Key × V)}, nrk d = true → Rkv g w1 d v → Rkv g w2 d v
  | _, _, _, .nil => .nil
  | _, _, h, .cons q r => by
    simp only [nrk, Bool.and_eq_true] at h
    exact .cons (Rv.nr le h.1 q) (Rkv.nr le h.2 r)
theorem Rfs.nr (le : ∀ a o, w1.F a = some o → w2.F a = some o) : ∀ {d : List (Nat × D)} {v : List (Str × V)}, nrf d = true → Rfs g w1 d v → Rfs g w2 d v
  | _, _, _, .nil => .nil
  | _, _, h, .cons q r => by
    simp only [nrf, Bool.and_eq_true] at h
    exact .cons (Rv.nr le h.1 q) (Rfs.nr le h.2 r)
end
theorem mapM_rel {α β γ : Type} {R1 : α → γ → Prop} {R2 : β → γ → Prop} {f : α → Option β} (hf : ∀ x v y, R1 x v → f x = some y → R2 y v) : ∀ {xs : List α} {vs : List γ} {ys : List β}, Paired R1 xs vs → xs.mapM f = some ys → Paired R2 ys vs := by
  intro xs
  induction xs with
  | nil =>
    intro vs ys r e
    cases r
    simp at e
    subst e
    exact .nil
  | cons x xs ih =>
    intro vs ys r e
    cases r with
    | cons r1 rr =>
      rw [List.mapM_cons] at e
      cases e1 : f x with
      | none => rw [e1] at e; simp at e
      | some y =>
        cases e2 : xs.mapM f with
        | none => rw [e1, e2] at e; simp at e
        | some ys' =>
          rw [e1, e2] at e
          simp at e
          subst e
          exact .cons (hf _ _ _ r1 e1) (ih rr e2)
/-- the lists, dicts, instances of a memory stand for good -/
def New (w1 w2 : Wd) (H1 : Hp) (m1 : Mm) : Prop := ∀ k o u, m1[k]? = some o → o.live → H1 (w1.ρ k) = some u → w2.F (w1.ρ k) = some u
theorem rsv_rel (M : Mem g w1 H1 m1) (fr : ∀ a o, w1.F a = some o → w2.F a = some o) (nw : New w1 w2 H1 m1) : ∀ (k : Nat) (d : D) (v : V) (d' : D), Rv g w1 d v → rsv m1 k d = some d' → Rv g w2 d' v := by
  intro k
  induction k with
  | zero => intro d v d' r e; simp [rsv] at e
  | succ k ih =>
    intro d v d' r e
    have lists : ∀ (xs : List D) (vs : List V) ys, Rvs g w1 xs vs → xs.mapM (rsv m1 k) = some ys → Rvs g w2 ys vs := fun xs vs ys r e => .ofPair (mapM_rel (fun x v y r e => ih x v y r e) r.pair e)
    have flds : ∀ (xs : List (Nat × D)) (vs : List (Str × V)) ys, Rfs g w1 xs vs → xs.mapM (fun p => (rsv m1 k p.2).map fun d => (p.1, d)) = some ys → Rfs g w2 ys vs := fun xs vs ys r e => .ofPair (mapM_rel (R1 := Rf1 g w1) (R2 := Rf1 g w2) (fun x v y r e => by
      rw [Option.map_eq_some_iff] at e
      obtain ⟨d1, e1, e2⟩ := e
      cases e2
      exact ⟨r.1, ih _ _ _ r.2 e1⟩) r.pair e)
    have kvs : ∀ (xs : List (Key × D)) (vs : List (Key × V)) ys, Rkv g w1 xs vs → xs.mapM (fun p => (rsv m1 k p.2).map fun d => (p.1, d)) = some ys → Rkv g w2 ys vs := fun xs vs ys r e => .ofPair (mapM_rel (R1 := Rk1 g w1) (R2 := Rk1 g w2) (fun x v y r e => by
      rw [Option.map_eq_some_iff] at e
      obtain ⟨d1, e1, e2⟩ := e
      cases e2
      exact ⟨r.1, ih _ _ _ r.2 e1⟩) r.pair e)
    simp only [rsv] at e
    by_cases hn : R.nr d = true
    · rw [if_pos hn] at e
      cases e
      exact r.nr fr hn
    rw [if_neg hn] at e
    cases r with
    | non => cases e
    | bl b => cases e
    | int i => cases e
    | str x => cases e
    | tup h r =>
      simp only [Option.map_eq_some_iff] at e
      obtain ⟨ys, e1, rfl⟩ := e
      exact .tup (sqT_mono fr h) (lists _ _ _ r e1)
    | lst h r =>
      simp only [Option.map_eq_some_iff] at e
      obtain ⟨ys, e1, rfl⟩ := e
      exact .lst (fr _ _ h) (lists _ _ _ r e1)
    | scr h r =>
      simp only [Option.map_eq_some_iff] at e
      obtain ⟨ys, e1, rfl⟩ := e
      exact .scr (sqL_mono fr h) (lists _ _ _ r e1)
    | ins hc h r =>
      simp only [Option.map_eq_some_iff] at e
      obtain ⟨ys, e1, rfl⟩ := e
      exact .ins hc (fr _ _ h) (flds _ _ _ r e1)
    | dct h r =>
      simp only [Option.map_eq_some_iff] at e
      obtain ⟨ys, e1, rfl⟩ := e
      exact .dct (fr _ _ h) (kvs _ _ _ r e1)
    | ref n hn =>
      dsimp only at e
      split at e
      · rename_i xs en
        rw [Option.map_eq_some_iff] at e
        obtain ⟨ys, e1, rfl⟩ := e
        obtain ⟨vs, hv, rv⟩ := M.ob n _ en
        exact .lst (nw n _ _ en trivial hv) (lists _ _ _ rv e1)
      · rename_i C xs en
        rw [Option.map_eq_some_iff] at e
        obtain ⟨ys, e1, rfl⟩ := e
        obtain ⟨hc, dx, vs, hv, rv⟩ := M.ob n _ en
        exact .ins hc (nw n _ _ en trivial hv) (flds _ _ _ rv e1)
      · rename_i xs en
        rw [Option.map_eq_some_iff] at e
        obtain ⟨ys, e1, rfl⟩ := e
        obtain ⟨vs, hv, rv⟩ := M.ob n _ en
        exact .dct (nw n _ _ en trivial hv) (kvs _ _ _ rv e1)
      · cases e
theorem own_rel (M : Mem g w1 H1 m1) (fr : ∀ a xs, SqT g.K w1.F a xs → SqT g.K w2.F a xs) (nw : New w1 w2 H1 m1) : ∀ (k : Nat) (d : D) (v : V) (d' : D), Rv g w1 d v → own m1 k d = some d' → Rv g w2 d' v := by
  intro k
  induction k with
  | zero => intro d v d' r e; simp [own] at e
  | succ k ih =>
    intro d v d' r e
    have lists : ∀ (xs : List D) (vs : List V) ys, Rvs g w1 xs vs → xs.mapM (own m1 k) = some ys → Rvs g w2 ys vs := fun xs vs ys r e => .ofPair (mapM_rel (fun x v y r e => ih x v y r e) r.pair e)
    have flds : ∀ (xs : List (Nat × D)) (vs : List (Str × V)) ys, Rfs g w1 xs vs → xs.mapM (fun p => (own m1 k p.2).map fun d => (p.1, d)) = some ys → Rfs g w2 ys vs := fun xs vs ys r e => .ofPair (mapM_rel (R1 := Rf1 g w1) (R2 := Rf1 g w2) (fun x v y r e => by
      rw [Option.map_eq_some_iff] at e
      obtain ⟨d1, e1, e2⟩ := e
      cases e2
      exact ⟨r.1, ih _ _ _ r.2 e1⟩) r.pair e)
    have kvs : ∀ (xs : List (Key × D)) (vs : List (Key × V)) ys, Rkv g w1 xs vs → xs.mapM (fun p => (own m1 k p.2).map fun d => (p.1, d)) = some ys → Rkv g w2 ys vs := fun xs vs ys r e => .ofPair (mapM_rel (R1 := Rk1 g w1) (R2 := Rk1 g w2) (fun x v y r e => by
      rw [Option.map_eq_some_iff] at e
      obtain ⟨d1, e1, e2⟩ := e
      cases e2
      exact ⟨r.1, ih _ _ _ r.2 e1⟩) r.pair e)
    simp only [own] at e
    cases r with
    | non => cases e; exact .non
    | bl b => cases e; exact .bl b
    | int i => cases e; exact .int i
    | str x => cases e; exact .str x
    | tup h r =>
      simp only [Option.map_eq_some_iff] at e
      obtain ⟨ys, e1, rfl⟩ := e
      exact .tup (fr _ _ h) (lists _ _ _ r e1)
    | lst h r => cases e
    | scr h r => cases e
    | ins hc h r => cases e
    | dct h r => cases e
    | ref n hn =>
      dsimp only at e
      split at e
      · rename_i xs en
        rw [Option.map_eq_some_iff] at e
        obtain ⟨ys, e1, rfl⟩ := e
        obtain ⟨vs, hv, rv⟩ := M.ob n _ en
        exact .lst (nw n _ _ en trivial hv) (lists _ _ _ rv e1)
      · rename_i C xs en
        rw [Option.map_eq_some_iff] at e
        obtain ⟨ys, e1, rfl⟩ := e
        obtain ⟨hc, dx, vs, hv, rv⟩ := M.ob n _ en
        exact .ins hc (nw n _ _ en trivial hv) (flds _ _ _ rv e1)
      · rename_i xs en
        rw [Option.map_eq_some_iff] at e
        obtain ⟨ys, e1, rfl⟩ := e
        obtain ⟨vs, hv, rv⟩ := M.ob n _ en
        exact .dct (nw n _ _ en trivial hv) (kvs _ _ _ rv e1)
      · cases e

/-! ### worlds around a def that is run by itself -/
/-- where a memory's live things stand -/
def LA (w : Wd) (m : Mm) (a : Addr) : Prop := ∃ k o, m[k]? = some o ∧ O.live o ∧ w.ρ k = a
open Classical in
noncomputable def ovl (F : Hp) (w : Wd) (H : Hp) (m : Mm) : Hp := fun a => if LA w m a then H a else F a
open Classical in
noncomputable def cut (F : Hp) (w : Wd) (m : Mm) : Hp := fun a => if LA w m a then none else F a
theorem ovl_la {F : Hp} {a : Addr} (h : LA w m a) : ovl F w H m a = H a := if_pos h
theorem ovl_off {F : Hp} {a : Addr} (h : ¬ LA w m a) : ovl F w H m a = F a := if_neg h
theorem cut_la {F : Hp} {a : Addr} (h : LA w m a) : cut F w m a = none := if_pos h
theorem cut_off {F : Hp} {a : Addr} (h : ¬ LA w m a) : cut F w m a = F a := if_neg h
theorem Mem.notF (M : Mem g w H m) {a : Addr} {o : HO} (h : w.F a = some o) : ¬ LA w m a := fun ⟨k, u, e, l, z⟩ => by
  have q := M.nf k u e l
  rw [z, h] at q; cases q
theorem Mem.notG (M : Mem g w H m) {a : Addr} {o : HO} (h : w.G a = some o) : ¬ LA w m a := fun ⟨k, u, e, l, z⟩ => by
  have q := M.ng k u e l
  rw [z, h] at q; cases q
theorem Mem.some_of (M : Mem g w H m) {a : Addr} (h : LA w m a) : ∃ u, H a = some u ∧ w.F a = none ∧ w.G a = none := by
  obtain ⟨k, o, e, l, rfl⟩ := h
  obtain ⟨u, hu⟩ := M.at e (O.held_of l)
  exact ⟨u, hu, M.nf k o e l, M.ng k o e l⟩
theorem Mem.kept (M : Mem g w H m) {w3 : Wd} {H3 : Hp} (hr : w3.ρ = w.ρ) (hl : w3.len = w.len) (hF : ∀ a o, w.F a = some o → w3.F a = some o) (k : ∀ a, LA w m a → H3 a = H a) (hG : ∀ a o, w.G a = some o → w3.G a = some o) {n : Nat} {o : O} (e : m[n]? = some o) : ObR g w3 H3 n o := by
  have lf : w.lf w3 := ⟨hF, by rw [hl]; exact Nat.le_refl _, fun n _ => by rw [hr]⟩
  cases o with
  | dead => trivial
  | ldct kvs =>
    obtain ⟨od, vs, q, r⟩ := M.ob n _ e
    exact ⟨od, vs, by rw [hr]; exact hG _ _ q, r.mono' lf⟩
  | _ => exact (M.ob n _ e).keep lf (M.lt e) (fun u h => by rw [k _ ⟨n, _, e, trivial, rfl⟩]; exact h) (fun od x h => hG _ _ h)
/-- no id is handed over -/
noncomputable def w0b (w : Wd) (H : Hp) (m : Mm) : Wd := ⟨w.F, w.ρ, 0, ovl w.G w H m⟩
noncomputable def w3b (w w1 : Wd) (H1 : Hp) (m1 : Mm) : Wd := ⟨ovl w1.F w1 H1 m1, w.ρ, w.len, w.G⟩
theorem mem_0b (M : Mem g w H m) : Mem g (w0b w H m) H [] := by
  refine ⟨M.fr, rfl, fun n o e => by simp at e, fun n o e => by simp at e, fun n k o u e => by simp at e, fun a o e => ?_, fun n o e => by simp at e, fun a o e => ?_⟩
  · have e : ovl w.G w H m a = some o := e
    by_cases q : LA w m a
    · rw [ovl_la q] at e; exact e
    · rw [ovl_off q] at e; exact M.gr a o e
  · have e : ovl w.G w H m a = some o := e
    show w.F a = none
    by_cases q : LA w m a
    · exact (M.some_of q).choose_spec.2.1
    · rw [ovl_off q] at e; exact M.gf a o e
theorem mem_3b (M : Mem g w H m) (le : (w0b w H m).le w1) (M1 : Mem g w1 H1 m1) : w.le (w3b w w1 H1 m1) ∧ Mem g (w3b w w1 H1 m1) H1 m ∧ (∀ a o, w1.F a = some o → (w3b w w1 H1 m1).F a = some o) ∧ New w1 (w3b w w1 H1 m1) H1 m1 := by
  have fr : ∀ a o, w1.F a = some o → (w3b w w1 H1 m1).F a = some o := fun a o h => by
    show ovl w1.F w1 H1 m1 a = some o
    rw [ovl_off (M1.notF h)]; exact h
  have gG : ∀ a o, w.G a = some o → w1.G a = some o := fun a o h => le.gr a o (by
    show ovl w.G w H m a = some o
    rw [ovl_off (M.notG h)]; exact h)
  have gL : ∀ a, LA w m a → w1.G a = H a ∧ H1 a = H a ∧ ∃ u, w1.G a = some u := fun a h => by
    obtain ⟨u, hu, _⟩ := M.some_of h
    have q : w1.G a = some u := le.gr a u (by
      show ovl w.G w H m a = some u
      rw [ovl_la h]; exact hu)
    exact ⟨by rw [q, hu], by rw [M1.gr a u q, hu], u, q⟩
  have no3 : ∀ a u, w1.G a = some u → (w3b w w1 H1 m1).F a = none := fun a u h => by
    show ovl w1.F w1 H1 m1 a = none
    rw [ovl_off (M1.notG h)]; exact M1.gf a u h
  have hF : ∀ a o, w.F a = some o → (w3b w w1 H1 m1).F a = some o := fun a o h => fr a o (le.fr a o h)
  refine ⟨⟨⟨hF, Nat.le_refl _, fun _ _ => rfl⟩, fun _ _ h => h⟩, ⟨fun a o h => ?_, M.len, fun n o e => M.kept (w3 := w3b w w1 H1 m1) rfl rfl hF (fun a h => (gL a h).2.1) (fun _ _ h => h) e, fun n o e l => ?_, M.inj, fun a o h => M1.gr a o (gG a o h), M.ng, fun a o h => no3 a o (gG a o h)⟩, fr, fun k o u e l h => ?_⟩
  · have h : ovl w1.F w1 H1 m1 a = some o := h
    by_cases q : LA w1 m1 a
    · rw [ovl_la q] at h; exact h
    · rw [ovl_off q] at h; exact M1.fr a o h
  · obtain ⟨_, _, u, q⟩ := gL _ ⟨n, o, e, l, rfl⟩
    exact no3 _ u q
  · show ovl w1.F w1 H1 m1 (w1.ρ k) = some u
    rw [ovl_la ⟨k, o, e, l, rfl⟩]; exact h
/-- ids are handed over, as frozen things -/
noncomputable def w0c (w : Wd) (H : Hp) (m : Mm) : Wd := ⟨ovl w.F w H m, w.ρ, 0, w.G⟩
noncomputable def w3c (w w1 : Wd) (m : Mm) (H1 : Hp) (m1 : Mm) : Wd := ⟨cut (ovl w1.F w1 H1 m1) w m, w.ρ, w.len, w.G⟩
theorem fr_0c (M : Mem g w H m) : ∀ a o, w.F a = some o → (w0c w H m).F a = some o := fun a o h => by
  show ovl w.F w H m a = some o
  rw [ovl_off (M.notF h)]; exact h
theorem new_0c : New w (w0c w H m) H m := fun k o u e l h => by
  show ovl w.F w H m (w.ρ k) = some u
  rw [ovl_la ⟨k, o, e, l, rfl⟩]; exact h
theorem mem_0c (M : Mem g w H m) : Mem g (w0c w H m) H [] := by
  refine ⟨fun a o e => ?_, rfl, fun n o e => by simp at e, fun n o e => by simp at e, fun n k o u e => by simp at e, M.gr, fun n o e => by simp at e, fun a o e => ?_⟩
  · have e : ovl w.F w H m a = some o := e
    by_cases q : LA w m a
    · rw [ovl_la q] at e; exact e
    · rw [ovl_off q] at e; exact M.fr a o e
  · show ovl w.F w H m a = none
    rw [ovl_off (M.notG e)]; exact M.gf a o e
theorem mem_3c (M : Mem g w H m) (le : (w0c w H m).le w1) (M1 : Mem g w1 H1 m1) : w.le (w3c w w1 m H1 m1) ∧ Mem g (w3c w w1 m H1 m1) H1 m ∧ (∀ a xs, SqT g.K w1.F a xs → SqT g.K (w3c w w1 m H1 m1).F a xs) ∧ New w1 (w3c w w1 m H1 m1) H1 m1 := by
  have fL : ∀ a, LA w m a → ∃ u, H a = some u ∧ w1.F a = some u ∧ H1 a = some u := fun a h => by
    obtain ⟨u, hu, _⟩ := M.some_of h
    have q : w1.F a = some u := le.fr a u (by
      show ovl w.F w H m a = some u
      rw [ovl_la h]; exact hu)
    exact ⟨u, hu, q, M1.fr a u q⟩
  have fr : ∀ a o, w1.F a = some o → ¬ LA w m a → (w3c w w1 m H1 m1).F a = some o := fun a o h n => by
    show cut (ovl w1.F w1 H1 m1) w m a = some o
    rw [cut_off n, ovl_off (M1.notF h)]; exact h
  have hF : ∀ a o, w.F a = some o → (w3c w w1 m H1 m1).F a = some o := fun a o h => fr a o (le.fr a o (fr_0c M a o h)) (M.notF h)
  refine ⟨⟨⟨hF, Nat.le_refl _, fun _ _ => rfl⟩, fun _ _ h => h⟩, ⟨fun a o h => ?_, M.len, fun n o e => M.kept (w3 := w3c w w1 m H1 m1) rfl rfl hF (fun a h => ?_) (fun _ _ h => h) e, fun n o e l => ?_, M.inj, fun a o h => M1.gr a o (le.gr a o h), M.ng, fun a o h => ?_⟩, fun a xs h => ?_, fun k o u e l h => ?_⟩
  · have h : cut (ovl w1.F w1 H1 m1) w m a = some o := h
    by_cases n : LA w m a
    · rw [cut_la n] at h; cases h
    rw [cut_off n] at h
    by_cases q : LA w1 m1 a
    · rw [ovl_la q] at h; exact h
    · rw [ovl_off q] at h; exact M1.fr a o h
  · obtain ⟨u, h1, _, h2⟩ := fL a h
    rw [h1, h2]
  · show cut (ovl w1.F w1 H1 m1) w m (w.ρ n) = none
    exact cut_la ⟨n, o, e, l, rfl⟩
  · show cut (ovl w1.F w1 H1 m1) w m a = none
    have h1 := le.gr a o h
    rw [cut_off (M.notG h), ovl_off (M1.notG h1)]; exact M1.gf a o h1
  · have kd : ∀ u, LA w m a → H a = some u → (∀ xs, u ≠ .tup xs) ∧ ∀ o x, u ≠ .frz o x := fun u ⟨k, o, e, l, z⟩ hu => by
      have q := M.ob k o e
      rw [← z] at hu
      cases o with
      | lst xs =>
        obtain ⟨vs, q, _⟩ := q
        rw [q] at hu
        cases hu
        exact ⟨fun _ z => (nomatch z), fun _ _ z => (nomatch z)⟩
      | dct xs =>
        obtain ⟨vs, q, _⟩ := q
        rw [q] at hu
        cases hu
        exact ⟨fun _ z => (nomatch z), fun _ _ z => (nomatch z)⟩
      | ins C fs =>
        obtain ⟨_, _, vs, q, _⟩ := q
        rw [q] at hu
        cases hu
        exact ⟨fun _ z => (nomatch z), fun _ _ z => (nomatch z)⟩
      | dead => exact l.elim
      | ldct kvs => exact l.elim
    rcases h with (h | ⟨o, h⟩) | h
    · refine .inl (.inl (fr a _ h fun n => ?_))
      obtain ⟨u, h1, h2, _⟩ := fL a n
      rw [h] at h2
      cases h2
      exact (kd _ n h1).1 _ rfl
    · refine .inl (.inr ⟨o, fr a _ h fun n => ?_⟩)
      obtain ⟨u, h1, h2, _⟩ := fL a n
      rw [h] at h2
      cases h2
      exact (kd _ n h1).2 _ _ rfl
    · exact .inr h
  · have n : ¬ LA w m (w1.ρ k) := fun n => by
      obtain ⟨v, _, h2, _⟩ := fL _ n
      rw [M1.nf k o e l] at h2; cases h2
    show cut (ovl w1.F w1 H1 m1) w m (w1.ρ k) = some u
    rw [cut_off n, ovl_la ⟨k, o, e, l, rfl⟩]; exact h
end

/-! ### a def -/
theorem fin_ok {g : Gm} {w : Wd} {m : Mm} {Q : VK} {xk : XK} {r : Res Sx Fl} (h : Post (Rv g) g w xk Q (fin r)) :
    PostS g w (fun cls d _ H => xk cls d H) { nx := fun _ H' => Q .non H', rt := Q } r := by
  cases r with
  | ok f s =>
    cases f with
    | nx => exact fun w' σ' H' le M' S => h w' .non H' le M' .non
    | bk => exact absurd h id
    | ct => exact absurd h id
    | rt d => exact fun w' v H' le M' rv => h w' v H' le M' rv
  | exn C p s => exact fun w' σ' cls dx H' le M' S x => h w' cls dx H' le M' x
  | bad => exact absurd h id
theorem finb_ok {g : Gm} {w : Wd} {H : Hp} {m : Mm} {Q : VK} {xk : XK} {r : Res Sx Fl} (M : Mem g w H m) (h : Post (Rv g) g w xk Q (finP true m r)) :
    PostS g (w0b w H m) (fun cls d _ H => xk cls d H) { nx := fun _ H' => Q .non H', rt := Q } r := by
  have done : ∀ (d d' : D) (s : Sx), rsv s.hp 9 d = some d' → Post (Rv g) g w xk Q (.ok d' m) → ∀ w' v H', (w0b w H m).le w' → Mem g w' H' s.hp → Rv g w' d v → Q v H' := by
    intro d d' s e h w' v H' le M' rv
    obtain ⟨le3, M3, fr, nw⟩ := mem_3b M le M'
    exact h _ v H' le3 M3 (rsv_rel M' fr nw 9 d v d' rv e)
  cases r with
  | ok f s =>
    cases f with
    | nx => exact fun w' σ' H' le M' S => done .non .non s (by simp [rsv, R.nr]) (by simpa [finP, rtD, rsv, R.nr] using h) w' .non H' le M' .non
    | bk => exact absurd h id
    | ct => exact absurd h id
    | rt d =>
      intro w' v H' le M' rv
      have h : Post (Rv g) g w xk Q (match rsv s.hp 9 d with | some d => .ok d m | none => .bad) := h
      cases e : rsv s.hp 9 d with
      | none => rw [e] at h; exact absurd h id
      | some d' => rw [e] at h; exact done d d' s e h w' v H' le M' rv
  | exn C p s =>
    intro w' σ' cls dx H' le M' S x
    obtain ⟨le3, M3, fr, nw⟩ := mem_3b M le M'
    exact h _ cls dx H' le3 M3 x
  | bad => exact absurd h id
theorem finc_ok {g : Gm} {w : Wd} {H : Hp} {m : Mm} {Q : VK} {xk : XK} {r : Res Sx Fl} (M : Mem g w H m) (h : Post (Rv g) g w xk Q (finP false m r)) :
    PostS g (w0c w H m) (fun cls d _ H => xk cls d H) { nx := fun _ H' => Q .non H', rt := Q } r := by
  have done : ∀ (d d' : D) (s : Sx), own s.hp 9 d = some d' → Post (Rv g) g w xk Q (.ok d' m) → ∀ w' v H', (w0c w H m).le w' → Mem g w' H' s.hp → Rv g w' d v → Q v H' := by
    intro d d' s e h w' v H' le M' rv
    obtain ⟨le3, M3, fr, nw⟩ := mem_3c M le M'
    exact h _ v H' le3 M3 (own_rel M' fr nw 9 d v d' rv e)
  cases r with
  | ok f s =>
    cases f with
    | nx => exact fun w' σ' H' le M' S => done .non .non s (by simp [own]) (by simpa [finP, rtD, own] using h) w' .non H' le M' .non
    | bk => exact absurd h id
    | ct => exact absurd h id
    | rt d =>
      intro w' v H' le M' rv
      have h : Post (Rv g) g w xk Q (match own s.hp 9 d with | some d => .ok d m | none => .bad) := h
      cases e : own s.hp 9 d with
      | none => rw [e] at h; exact absurd h id
      | some d' => rw [e] at h; exact done d d' s e h w' v H' le M' rv
  | exn C p s =>
    intro w' σ' cls dx H' le M' S x
    obtain ⟨le3, M3, fr, nw⟩ := mem_3c M le M'
    exact h _ cls dx H' le3 M3 x
  | bad => exact absurd h id
theorem Slr.start {g : Gm} {w : Wd} {as : List D} {vs : List V} (r : Rvs g w as vs) (N : List Str) : Slr g w (as.map some ++ List.replicate (N.length - as.length) none) (L2.start N vs) := by
  unfold L2.start
  refine ⟨by simp [r.length], fun i d h => ?_⟩
  by_cases q : i < as.length
  · rw [List.getElem?_append_left (by simpa using q)] at h
    rw [List.getElem?_map] at h
    cases e : as[i]? with
    | none => rw [e] at h; cases h
    | some x =>
      rw [e] at h
      cases h
      obtain ⟨v, hv, rv⟩ := r.get e
      refine ⟨v, ?_, rv⟩
      rw [List.getElem?_append_left (by rw [List.length_map, ← r.length]; exact q), List.getElem?_map, hv]
      rfl
  · rw [List.getElem?_append_right (by simpa using Nat.le_of_not_lt q)] at h
    rw [List.getElem?_replicate] at h
    split at h <;> cases h
/-- a def as it stands: with defaults or without -/
def FunE (K : PySem.W.Frag) (x qual : Str) (st : Stmt) (fa : Addr) (dt : FuncData) : Prop := Fun K x qual st fa dt ∨ ∃ dvs kws, FunD K x qual (defArgs st) (defBody st) (defScope st) dvs kws fa dt
theorem FunE.okX {P : Program} {w : World} {K : PySem.W.Frag} {mg : Str → Option Value} {base : Heap} {x qual : Str} {st : Stmt} {f : Addr} {fd : FuncData} {N ps : List Str} {k : Nat} {sp : Sp} (F : FunE K x qual st f fd) (S : FnScope N ps (defScope st)) (len : ∀ vs H Q E, sp vs H Q E → vs.length = ps.length)
    (hbody : ∀ (cdv : Value) (A : Around) (outer : List Env) (s : Shared) (H : Hp) (vs : List V) (Q : VK) (E : XK), Room k (A.deeper (envOfC qual (defScope st) s.heap.objs.size f cdv)) → sp vs H Q E →
      ∃ t, PSs (cxOf (L2.CX P w) P w K mg base N qual (defScope st) f cdv A outer s H E) (defBody st) t ∧ t { nx := fun _ H' => Q .non H', rt := Q } (start N vs) H) : FnOk P w K mg base (L2.CX P w) (k + 1) f fd ps sp := by
  rcases F with F | ⟨dvs, kws, F⟩
  · exact F.okX S len hbody
  · exact F.ok S len hbody
/-- what stands in a row for a def of R -/
structure DefX (p : Pg) (cf : Cf) (K : PySem.W.Frag) (f : Nat) (fa : Addr) (dt : FuncData) (ps : List Str) : Prop where
  ex : ∃ (fd : FD) (x qual : Str) (st : Stmt) (N : List Str), p.fns[f]? = some fd ∧ FunE K x qual st fa dt ∧ FnScope N ps (defScope st) ∧ N.length = fd.nl ∧ ps.length = fd.np ∧
    mSs p cf N (defScope st) (fun _ => true) fd.body (defBody st) = true
  bd : Binds K dt ps []
def DefR (p : Pg) (cf : Cf) (K : PySem.W.Frag) (f : Nat) (fa : Addr) : Prop := ∃ dt ps, DefX p cf K f fa dt ps
def En.to (E : En) (n : Nat) : En := ⟨E.g, E.cf, E.p, callN E.p n, 2 * n, E.P, E.w, E.base⟩
/-- all that a row says, in R's words -/
structure Rok (E : En) : Prop where
  att : E.g.att = attOf E.cf.atl
  inj : ∀ a b, E.g.att a = E.g.att b → a = b
  blt : ∀ b : Bt, E.g.mg b.nm = none
  rng : E.g.mg "range" = none
  zip : E.g.mg "zip" = none
  enum : E.g.mg "enumerate" = none
  isi : E.g.mg "isinstance" = none
  bool : E.g.mg "bool" = none
  con : ∀ (i : Nat) (x : Str) (d : D), E.cf.ctl[i]? = some (some x) → E.p.cns[i]? = some d → ∃ u, E.g.mg x = some u ∧ CnOk E.g.K d u
  fn : ∀ f x, E.cf.fnm f = some x → ∃ fa, E.g.mg x = some (.ref fa) ∧ PySem.W.keepIn E.g.K (.ref fa) = true ∧ DefR E.p E.cf E.g.K f fa
  cls : ∀ C, C < E.g.ncls → Cls E.g.K (E.g.cad C) ∧ ∀ f, f < E.cf.natt → NoAttr E.g.K (E.g.cad C) (E.g.att f)
  ncl : ∀ C cd, E.p.cls[C]? = some cd → C < E.g.ncls
  mth : ∀ C cd k f, E.p.cls[C]? = some cd → cd.meths.lookup k = some f → ∃ fa, Meth E.g.K (E.g.cad C) (E.cf.mnm k) fa ∧ DefR E.p E.cf E.g.K f fa
  mat : ∀ a k, E.g.att a ≠ E.cf.mnm k
  mkc : ∀ C cd x, E.p.cls[C]? = some cd → E.cf.cnm C = some x → ∃ fa, E.g.mg x = some (.ref (E.g.cad C)) ∧ Mk E.g.K (E.g.cad C) fa ∧ DefR E.p E.cf E.g.K cd.init fa
theorem gok_of {E : En} (R : Rok E) (n : Nat) (h : ∀ f fa, DefR E.p E.cf E.g.K f fa → FnR (E.to n) f fa) : Gok (E.to n) where
  att := R.att
  inj := R.inj
  blt := R.blt
  rng := R.rng
  zip := R.zip
  enum := R.enum
  isi := R.isi
  bool := R.bool
  con := R.con
  fn := fun f x e => let ⟨fa, h1, h2, h3⟩ := R.fn f x e; ⟨fa, h1, h2, h f fa h3⟩
  cls := R.cls
  ncl := R.ncl
  mth := fun C cd k f h1 h2 => let ⟨fa, h3, h4⟩ := R.mth C cd k f h1 h2; ⟨fa, h3, h f fa h4⟩
  mat := R.mat
  mkc := fun C cd x h1 h2 => let ⟨fa, h3, h4, h5⟩ := R.mkc C cd x h1 h2; ⟨fa, h3, h4, h _ fa h5⟩
theorem def_step {E : En} {n f : Nat} {fa : Addr} {dt : FuncData} {ps : List Str} (hg : Gok (E.to n)) (h : DefX E.p E.cf E.g.K f fa dt ps) : FnOk E.P E.w E.g.K E.g.mg E.base (L2.CX E.P E.w) (2 * (n + 1)) fa dt ps (spR (E.to (n + 1)) f) := by
  obtain ⟨fd, x, qual, st, N, hf, F, S, hN, hps, hm⟩ := h.ex
  have hL : ∀ {vs : List V} {H : Hp} {Q : VK} {xk : XK}, spR (E.to (n + 1)) f vs H Q xk → vs.length = ps.length := by
    rintro vs H Q xk ⟨w, m, as, M, r, h⟩
    have h : PostE E.g w xk Q (callN E.p (n + 1) f as m) := h
    simp only [callN, hf] at h
    by_cases q : as.length = fd.np
    · rw [← r.length, q, hps]
    · rw [if_neg q] at h; exact absurd h id
  refine F.okX (k := 2 * n + 1) S (fun vs H Q xk h => hL h) fun cdv A outer s H vs Q xk hr h => ?_
  have hl := hL h
  obtain ⟨w, m, as, M, r, h⟩ := h
  have h : PostE E.g w xk Q (callN E.p (n + 1) f as m) := h
  simp only [callN, hf] at h
  have q : as.length = fd.np := by rw [r.length, hl, hps]
  have e : ∀ as' : List D, as'.length = vs.length → N.length - as'.length = fd.nl - fd.np := fun as' e => by rw [hN, e, hl, hps]
  rw [if_pos q] at h
  refine ⟨_, mSs_ok (E := E.to n) hg fd.body (defBody st) hm _ (fun cls d _ H => xk cls d H) ⟨⟨rfl, rfl, rfl, rfl, rfl, rfl, rfl, S.nd, hr, rfl⟩, rfl, takes_of rfl rfl rfl rfl, passes_of rfl, S.kind⟩, ?_⟩
  by_cases hp : fd.pure_ = true
  · rw [if_pos hp] at h
    by_cases hn : nrs as = true
    · rw [if_pos hn] at h
      have r0 : Rvs E.g (w0b w H m) as vs := Rvs.nr (w1 := w) (w2 := w0b w H m) (fun _ _ h => h) hn r
      refine ⟨w0b w H m, _, [], mem_0b M, Slr.start r0 N, ?_⟩
      rw [e as r0.length]
      exact finb_ok M h
    · rw [if_neg hn] at h
      cases z : as.mapM (rsv m 9) with
      | none => rw [z] at h; exact absurd h id
      | some as' =>
        rw [z] at h
        have r0 : Rvs E.g (w0c w H m) as' vs := .ofPair (mapM_rel (fun x v y r e => rsv_rel M (fr_0c M) new_0c 9 x v y r e) r.pair z)
        refine ⟨w0c w H m, _, [], mem_0c M, Slr.start r0 N, ?_⟩
        rw [e as' r0.length]
        exact finc_ok M h
  · rw [if_neg hp] at h
    refine ⟨w, _, m, M, Slr.start r N, ?_⟩
    rw [e as r.length]
    exact fin_ok (m := m) h
theorem def_ok {E : En} (R : Rok E) : ∀ (n f : Nat) (fa : Addr) (dt : FuncData) (ps : List Str), DefX E.p E.cf E.g.K f fa dt ps → FnOk E.P E.w E.g.K E.g.mg E.base (L2.CX E.P E.w) (2 * n) fa dt ps (spR (E.to n) f)
  | 0, f, fa, dt, ps, h => by
    refine ⟨fun vs H Q xk h => ?_, fun A outer s H args us vs Q xk hr e0 hb r h => ?_⟩
    · obtain ⟨w, m, as, M, r, h⟩ := h
      exact absurd h id
    · obtain ⟨w, m, as, M, r, h⟩ := h
      exact absurd h id
  | n + 1, f, fa, dt, ps, h => def_step (gok_of R n fun f fa ⟨dt, ps, h⟩ => ⟨⟨dt, ps, h.bd, def_ok R n f fa dt ps h⟩⟩) h
end R

/-! RSndD: a row in R's words, and a law's end. -/
namespace R
open PySem PySem.Spec PyProof.Rows L2

/-! ### names -/
def okName (x : Str) : Bool := x.cps.all fun c => Nat.ble c 1999999
theorem okName_no {n : Nat} : okName ⟨#[n + 2000000]⟩ = false := by
  have h : Nat.ble (n + 2000000) 1999999 = false := by
    cases q : Nat.ble (n + 2000000) 1999999 with
    | false => rfl
    | true => have := Nat.le_of_ble_eq_true q; omega
  unfold okName
  simp [h]
theorem nodup_get : ∀ {l : List Str}, l.Nodup → ∀ {a b : Nat} {x : Str}, l[a]? = some x → l[b]? = some x → a = b
  | [], _, a, b, x, h, _ => by simp at h
  | y :: r, hd, 0, 0, x, _, _ => rfl
  | y :: r, hd, 0, b + 1, x, h1, h2 => by
    simp at h1 h2
    subst h1
    exact absurd (List.mem_of_getElem? h2) (List.nodup_cons.mp hd).1
  | y :: r, hd, a + 1, 0, x, h1, h2 => by
    simp at h1 h2
    subst h2
    exact absurd (List.mem_of_getElem? h1) (List.nodup_cons.mp hd).1
  | y :: r, hd, a + 1, b + 1, x, h1, h2 => by
    simp at h1 h2
    rw [nodup_get (List.nodup_cons.mp hd).2 h1 h2]
theorem attOf_inj {l : List Str} (hd : l.Nodup) (hk : l.all okName = true) (a b : Nat) (h : attOf l a = attOf l b) : a = b := by
  unfold attOf at h
  rw [List.getD_eq_getElem?_getD, List.getD_eq_getElem?_getD] at h
  rw [List.all_eq_true] at hk
  by_cases qa : a < l.length
  · by_cases qb : b < l.length
    · rw [List.getElem?_eq_getElem qa, List.getElem?_eq_getElem qb] at h
      have h : l[a] = l[b] := h
      exact nodup_get hd (List.getElem?_eq_getElem qa) (by rw [h]; exact List.getElem?_eq_getElem qb)
    · rw [List.getElem?_eq_getElem qa, List.getElem?_eq_none (Nat.le_of_not_lt qb)] at h
      have q := hk _ (List.getElem_mem qa)
      have h : l[a] = ⟨#[b + 2000000]⟩ := h
      rw [h, okName_no] at q; cases q
  · by_cases qb : b < l.length
    · rw [List.getElem?_eq_none (Nat.le_of_not_lt qa), List.getElem?_eq_getElem qb] at h
      have q := hk _ (List.getElem_mem qb)
      have h : ⟨#[a + 2000000]⟩ = l[b] := h
      rw [← h, okName_no] at q; cases q
    · rw [List.getElem?_eq_none (Nat.le_of_not_lt qa), List.getElem?_eq_none (Nat.le_of_not_lt qb)] at h
      have h : (⟨#[a + 2000000]⟩ : Str) = ⟨#[b + 2000000]⟩ := h
      injection h with h
      injection h with h
      injection h with h
      omega
theorem att_no {l ms : List Str} (h : l.all (fun x => !ms.contains x && !(x == "")) = true) (hm : ms.all okName = true) (a k : Nat) : attOf l a ≠ ms.getD k "" := by
  have hk : okName (ms.getD k "") = true := by
    rw [List.getD_eq_getElem?_getD]
    by_cases q : k < ms.length
    · rw [List.getElem?_eq_getElem q]
      exact List.all_eq_true.mp hm _ (List.getElem_mem q)
    · rw [List.getElem?_eq_none (Nat.le_of_not_lt q)]; decide +kernel
  intro z
  unfold attOf at z
  by_cases qa : a < l.length
  · rw [List.getD_eq_getElem?_getD, List.getElem?_eq_getElem qa] at z
    have q := List.all_eq_true.mp h _ (List.getElem_mem qa)
    rw [Bool.and_eq_true, Bool.not_eq_true', Bool.not_eq_true'] at q
    have z : l[a] = ms.getD k "" := z
    rw [z] at q
    rw [List.getD_eq_getElem?_getD] at q
    by_cases qk : k < ms.length
    · rw [List.getElem?_eq_getElem qk] at q
      have : ms.contains ms[k] = true := by simp
      rw [show ((some ms[k]).getD "" : Str) = ms[k] from rfl, this] at q
      cases q.1
    · rw [List.getElem?_eq_none (Nat.le_of_not_lt qk)] at q
      have := q.2
      simp at this
  · rw [List.getD_eq_getElem?_getD, List.getElem?_eq_none (Nat.le_of_not_lt qa)] at z
    have z : (⟨#[a + 2000000]⟩ : Str) = ms.getD k "" := z
    rw [← z, okName_no] at hk
    cases hk

/-! ### a row's facts, list by list -/
section
variable (K : PySem.W.Frag) (mg : Str → Option Value) (p : Pg) (cf : Cf)
def FnAll : Nat → List (Option Str) → Prop
  | _, [] => True
  | i, none :: r => FnAll (i + 1) r
  | i, some x :: r => (∃ fa, mg x = some (.ref fa) ∧ PySem.W.keepIn K (.ref fa) = true ∧ DefR p cf K i fa) ∧ FnAll (i + 1) r
def MtAll (C : Addr) : List (Nat × Nat) → Prop
  | [] => True
  | (k, f) :: r => (∃ fa, Meth K C (cf.mnm k) fa ∧ DefR p cf K f fa) ∧ MtAll C r
def AtAll (C : Addr) : List Str → Prop
  | [] => True
  | x :: r => NoAttr K C x ∧ AtAll C r
/-- one class: where it stands, its methods, its __init__ -/
def ClAt (i : Nat) (C : Addr) (cd : CD) : Prop :=
  Cls K C ∧ AtAll K C cf.atl ∧ MtAll K p cf C cd.meths ∧ ∀ x, cf.cnm i = some x → ∃ fa, mg x = some (.ref C) ∧ Mk K C fa ∧ DefR p cf K cd.init fa
def ClAll (cad : Nat → Addr) : Nat → List CD → Prop
  | _, [] => True
  | i, cd :: r => ClAt K mg p cf i (cad i) cd ∧ ClAll cad (i + 1) r
end
section
variable {K : PySem.W.Frag} {mg : Str → Option Value} {p : Pg} {cf : Cf} {cad : Nat → Addr}
theorem FnAll.at : ∀ {l : List (Option Str)} {i f : Nat} {x : Str}, FnAll K mg p cf i l → l[f]? = some (some x) → ∃ fa, mg x = some (.ref fa) ∧ PySem.W.keepIn K (.ref fa) = true ∧ DefR p cf K (i + f) fa
  | [], _, f, _, _, e => by simp at e
  | none :: r, i, 0, x, h, e => by simp at e
  | none :: r, i, f + 1, x, h, e => by
    rw [show i + (f + 1) = i + 1 + f by omega]
    exact FnAll.at (l := r) h (by simpa using e)
  | some y :: r, i, 0, x, h, e => by
    simp at e
    subst e
    exact h.1
  | some y :: r, i, f + 1, x, h, e => by
    rw [show i + (f + 1) = i + 1 + f by omega]
    exact FnAll.at (l := r) h.2 (by simpa using e)
theorem MtAll.at {C : Addr} : ∀ {l : List (Nat × Nat)} {k f : Nat}, MtAll K p cf C l → l.lookup k = some f → ∃ fa, Meth K C (cf.mnm k) fa ∧ DefR p cf K f fa
  | [], _, _, _, e => by simp at e
  | (k', f') :: r, k, f, h, e => by
    rw [List.lookup_cons] at e
    by_cases q : k = k'
    · subst q
      simp at e
      subst e
      exact h.1
    · rw [beq_eq_false_iff_ne.mpr q] at e
      exact MtAll.at (l := r) h.2 e
theorem AtAll.at {C : Addr} : ∀ {l : List Str} {x : Str}, AtAll K C l → x ∈ l → NoAttr K C x
  | [], _, _, e => by cases e
  | y :: r, x, h, e => by
    rcases List.mem_cons.mp e with e | e
    · rw [e]; exact h.1
    · exact AtAll.at h.2 e
theorem ClAll.at : ∀ {l : List CD} {i C : Nat} {cd : CD}, ClAll K mg p cf cad i l → l[C]? = some cd → ClAt K mg p cf (i + C) (cad (i + C)) cd
  | [], _, C, _, _, e => by simp at e
  | cd' :: r, i, 0, cd, h, e => by
    simp at e
    subst e
    exact h.1
  | cd' :: r, i, C + 1, cd, h, e => by
    rw [show i + (C + 1) = i + 1 + C by omega]
    exact ClAll.at (l := r) h.2 (by simpa using e)
def bltNames : List Str := ["len", "int", "abs", "min", "max", "sum", "list", "tuple", "str", "ord", "repr", "range", "zip", "enumerate", "isinstance", "bool", "any", "sorted"]
def GlAll (mg : Str → Option Value) : List Str → Prop
  | [] => True
  | x :: r => mg x = none ∧ GlAll mg r
theorem GlAll.at : ∀ {l : List Str} {x : Str}, GlAll mg l → x ∈ l → mg x = none
  | [], _, _, e => by cases e
  | y :: r, x, h, e => by
    rcases List.mem_cons.mp e with e | e
    · rw [e]; exact h.1
    · exact GlAll.at h.2 e
/-- a module's constants -/
def CnAll (K : PySem.W.Frag) (mg : Str → Option Value) : List (Option Str) → List D → Prop
  | some x :: xs, k :: ks => (∃ u, mg x = some u ∧ CnOk K k u) ∧ CnAll K mg xs ks
  | none :: xs, _ :: ks => CnAll K mg xs ks
  | _, _ => True
theorem CnAll.at : ∀ {l : List (Option Str)} {ks : List D} {i : Nat} {x : Str} {k : D}, CnAll K mg l ks → l[i]? = some (some x) → ks[i]? = some k → ∃ u, mg x = some u ∧ CnOk K k u
  | [], _, i, x, k, _, e, _ => by simp at e
  | _ :: _, [], i, x, k, _, _, e => by simp at e
  | y :: l, c :: ks, 0, x, k, h, e1, e2 => by
    simp at e1 e2
    subst e1
    subst e2
    exact h.1
  | some y :: l, c :: ks, i + 1, x, k, h, e1, e2 => CnAll.at (i := i) h.2 (by simpa using e1) (by simpa using e2)
  | none :: l, c :: ks, i + 1, x, k, h, e1, e2 => CnAll.at (l := l) (ks := ks) (i := i) h (by simpa using e1) (by simpa using e2)
/-- a row's facts -/
structure RowOk (K : PySem.W.Frag) (mg : Str → Option Value) (p : Pg) (cf : Cf) (cad : Nat → Addr) : Prop where
  nd : cf.atl.Nodup
  ok1 : cf.atl.all okName = true
  ok2 : cf.mnl.all okName = true
  dis : cf.atl.all (fun x => !cf.mnl.contains x && !(x == "")) = true
  gl : GlAll mg bltNames
  fns : FnAll K mg p cf 0 cf.fnl
  cls : ClAll K mg p cf cad 0 p.cls
  con : CnAll K mg cf.ctl p.cns
theorem rok_of {K : PySem.W.Frag} {mg : Str → Option Value} {p : Pg} {cf : Cf} {cad : Nat → Addr} {c : Calls} {P : Program} {w : World} {base : Heap} (R : RowOk K mg p cf cad) : Rok ⟨⟨K, mg, cad, attOf cf.atl, p.cls.length⟩, cf, p, c, 0, P, w, base⟩ where
  att := rfl
  inj := attOf_inj R.nd R.ok1
  blt := fun b => R.gl.at (by cases b <;> decide +kernel)
  rng := R.gl.at (by decide +kernel)
  zip := R.gl.at (by decide +kernel)
  enum := R.gl.at (by decide +kernel)
  isi := R.gl.at (by decide +kernel)
  con := fun i x k e1 e2 => R.con.at e1 e2
  bool := R.gl.at (by decide +kernel)
  fn := fun f x e => by
    have e : cf.fnl.getD f none = some x := e
    rw [List.getD_eq_getElem?_getD] at e
    cases q : cf.fnl[f]? with
    | none => rw [q] at e; cases e
    | some y =>
      rw [q] at e
      have e : y = some x := e
      subst e
      have := R.fns.at q
      rwa [Nat.zero_add] at this
  cls := fun C hC => by
    have hC : C < p.cls.length := hC
    have := R.cls.at (List.getElem?_eq_getElem hC)
    rw [Nat.zero_add] at this
    refine ⟨this.1, fun f hf => ?_⟩
    have hf : f < cf.atl.length := hf
    have hm : attOf cf.atl f ∈ cf.atl := by
      unfold attOf
      rw [List.getD_eq_getElem?_getD, List.getElem?_eq_getElem hf]
      exact List.getElem_mem hf
    exact this.2.1.at hm
  ncl := fun C cd e => (List.getElem?_eq_some_iff.mp e).1
  mth := fun C cd k f e1 e2 => by
    have := R.cls.at e1
    rw [Nat.zero_add] at this
    exact this.2.2.1.at e2
  mat := att_no R.dis R.ok2
  mkc := fun C cd x e1 e2 => by
    have := R.cls.at e1
    rw [Nat.zero_add] at this
    obtain ⟨_, _, _, h⟩ := this
    exact h x e2
end

/-! ### the law -/
def spLaw (K : PySem.W.Frag) (n : Nat) : Sp := fun vs H Q _ => ∃ (a : Addr) (ns : List Int), vs = [.ref a] ∧ ns.length ≤ n ∧ SqL K H a (ns.map V.int) ∧ ∀ H', Q (.bl true) H'
theorem rvs_ints {g : Gm} {w : Wd} : ∀ ns : List Int, Rvs g w (ns.map D.int) (ns.map V.int)
  | [] => .nil
  | i :: r => .cons (.int i) (rvs_ints r)
/-- what R says of the law -/
def LawR (p : Pg) (n f : Nat) : Prop := ∀ ns : List Int, ns.length ≤ 63 → ∃ m, callN p n f [.scr (ns.map .int)] [] = .ok (.bl true) m
theorem law_ok {K : PySem.W.Frag} {mg : Str → Option Value} {p : Pg} {cf : Cf} {cad : Nat → Addr} {P : Program} {w : World} {base : Heap} {n f : Nat} {fa : Addr} {dt : FuncData} {x : Str} (R : RowOk K mg p cf cad) (L : LawR p n f) (h : DefX p cf K f fa dt [x]) :
    FnOk P w K mg base (L2.CX P w) (2 * n) fa dt [x] (spLaw K 63) := by
  refine FnOk.imp (def_ok (E := ⟨⟨K, mg, cad, attOf cf.atl, p.cls.length⟩, cf, p, fun _ _ _ => .bad, 0, P, w, base⟩) (rok_of R) n f fa dt [x] h) fun vs H Q xk h => ?_
  obtain ⟨a, ns, rfl, hl, hS, q⟩ := h
  obtain ⟨m, e⟩ := L ns hl
  refine ⟨⟨H, fun _ => 0, 0, fun _ => none⟩, [], [.scr (ns.map .int)], ⟨fun _ _ h => h, rfl, fun n o e => by simp at e, fun n o e => by simp at e, fun n k o u e => by simp at e, fun _ _ e => (by cases e), fun n o e => by simp at e, fun _ _ e => (by cases e)⟩, .cons (.scr hS (rvs_ints ns)) .nil, ?_⟩
  show Post _ _ _ _ Q (callN p n f [.scr (ns.map .int)] [])
  rw [e]
  intro w' v H' le M r
  cases r
  exact q H'
theorem law_walk {l : PySem.W.OpenLaw} {q : Program} {loose : List Str} {XP : (Str → Option Value) → Heap → Prop} {YP : World → Heap → Prop} {d : DefRec} {K : Params → PySem.W.Frag} {p : Pg} {cf : Cf} {n f : Nat} {x : Str} (hr : Room (2 * n) callerA) (L : LawR p n f) (hn : l.most = some 63) (hdf : d.params.defaults = [])
    (hY : ∀ (w : World) (h : Heap), YP w h → (K w.params).In h)
    (F : ∀ (w : World) (mg : Str → Option Value) (fa : Addr) (h : Heap), (K w.params).In h → h.Ns mainGlobals mg → mg d.name = some (.ref fa) →
      ∃ (fd : FuncData) (cad : Nat → Addr), (∀ (s : Shared) (u : Value), BindsTo s fd ⟨[u], []⟩ [(x, u)]) ∧ DefX p cf (K w.params) f fa fd [x] ∧ RowOk (K w.params) mg p cf cad) :
    PySem.W.WalkO q loose XP YP l.row.toRowW d [] (fun f vs => PySem.call f vs) :=
  L2.walk_of (n := 63) (k := 2 * n) (x := x) (CX := fun w => L2.CX l.prog w) (sp := fun w => spLaw (K w.params) 63) hn (by decide) hdf hr hY
    (fun w mg fa h h1 h2 h3 => let ⟨fd, cad, b, D, R⟩ := F w mg fa h h1 h2 h3
      ⟨fd, b, fun base _ _ => law_ok R L D⟩)
    (fun _ _ a ns hl _ hS => ⟨a, ns, rfl, hl, hS, fun _ => rfl⟩)
    fun _ _ _ _ _ z => by
      obtain ⟨_, _, _, _, _, _, _, _, _, _, _, _, z⟩ := z
      exact z
end R

/-! RLib: laws of R's operations on lists that are made by an index. -/
namespace R
open PySem
/-- a list by an index -/
def tab (c : Nat) (F : Nat → D) : D := .lst ((List.range c).map F)
abbrev vec (c : Nat) (f : Nat → Int) : D := tab c fun k => .int (f k)
theorem divOk_of {j : Int} (h : 0 < j) (h2 : j.natAbs < 2 ^ 8000) : divOk j = true := by
  unfold divOk
  rw [decide_eq_true h, Bool.true_and]
  have := (Nat.log2_lt (n := j.natAbs) (k := 8000) (by omega)).mpr h2
  exact Nat.ble_eq_true_of_le (by omega)
theorem divOk_small {j : Int} (h : 0 < j) (h2 : j ≤ 1208925819614629174706176) : divOk j = true := divOk_of h (Nat.lt_of_le_of_lt (m := 1208925819614629174706176) (by omega) (by
  have : (2 : Nat) ^ 80 < 2 ^ 8000 := Nat.pow_lt_pow_right (by decide) (by decide)
  exact this))
theorem szOk_of {n : Nat} (h : n ≤ 16777216) : szOk n = true := Nat.ble_eq_true_of_le h
theorem atI_nat' {α : Type} (xs : List α) (k : Nat) : L2.atI xs (k : Int) = xs[k]? := by
  cases e : xs[k]? with
  | some v => exact L2.atI_nat e
  | none =>
    have hk := List.getElem?_eq_none_iff.mp e
    unfold L2.atI L2.ixN
    rw [if_pos (by omega), if_neg (by omega)]
    rfl
theorem atI_last {α : Type} (xs : List α) (x : α) : L2.atI (xs ++ [x]) (-1) = some x := by
  unfold L2.atI L2.ixN
  rw [if_neg (by omega), if_pos (by simp; omega)]
  show (xs ++ [x])[(((xs ++ [x]).length : Int) + -1).toNat]? = some x
  have : (((xs ++ [x]).length : Int) + -1).toNat = xs.length := by simp; omega
  rw [this]; simp
theorem get_tab {c k : Nat} {F : Nat → D} (h : k < c) : ((List.range c).map F)[k]? = some (F k) := by
  rw [List.getElem?_map, List.getElem?_range h]; rfl
theorem idx_tab {m : Mm} {c k : Nat} {F : Nat → D} (h : k < c) : idxD m (tab c F) (.int (k : Int)) = some (F k) := by
  simp only [idxD, tab, seqOf, lstOf, atI_nat', get_tab h]
theorem len_tab {m : Mm} {c : Nat} {F : Nat → D} {o : Bool} : bltD .len o [tab c F] m = .ok (.int c) m := by
  simp [bltD, tab, seqOf, lstOf]
theorem list_tab {m : Mm} {c : Nat} {F : Nat → D} (h : c ≤ 16777216) : bltD .list_ false [tab c F] m = .ok (tab c F) m := by
  simp [bltD, tab, seqOf, lstOf, mkL, szOk_of h]
theorem intsOf_map {α : Type} (f : α → Int) : ∀ xs : List α, intsOf (xs.map fun k => D.int (f k)) = some (xs.map f)
  | [] => rfl
  | x :: xs => by
    have ih := intsOf_map f xs
    unfold intsOf at ih ⊢
    rw [List.map_cons, List.mapM_cons, ih]
    rfl
/-! ### least ones -/
/-- the least of f 0 .. f (c - 1) -/
def mn (c : Nat) (f : Nat → Int) : Int := minI ((List.range c).map f)
theorem mn_le {c k : Nat} {f : Nat → Int} (h : k < c) : mn c f ≤ f k := minI_le (List.mem_map.mpr ⟨k, List.mem_range.mpr h, rfl⟩)
theorem mn_at {c : Nat} (f : Nat → Int) (h : 0 < c) : ∃ k, k < c ∧ f k = mn c f := by
  have q : minI ((List.range c).map f) ∈ (List.range c).map f := minI_mem (by simp; omega)
  obtain ⟨k, hk, e⟩ := List.mem_map.mp q
  exact ⟨k, List.mem_range.mp hk, e⟩
theorem mn_eq {c : Nat} {f : Nat → Int} {z : Int} (h1 : ∀ k, k < c → z ≤ f k) {k : Nat} (h2 : k < c) (h3 : f k = z) : mn c f = z := by
  obtain ⟨j, hj, e⟩ := mn_at f (Nat.lt_of_le_of_lt (Nat.zero_le _) h2)
  have a := mn_le (f := f) h2
  have b := h1 j hj
  omega
theorem mn_congr {c : Nat} {f g : Nat → Int} (h : ∀ k, k < c → f k = g k) : mn c f = mn c g := by
  unfold mn
  rw [List.map_congr_left fun k hk => h k (List.mem_range.mp hk)]
theorem min1_vec {m : Mm} {c : Nat} {f : Nat → Int} {o : Bool} (h : 0 < c) : bltD .min1 o [vec c f] m = .ok (.int (mn c f)) m := by
  have e := intsOf_map f (List.range c)
  simp only [bltD, tab, lstOf, e, List.length_map, List.length_range]
  rw [if_neg (by omega)]; rfl
theorem idxOf_mem : ∀ {xs : List Int} {x : Int}, x ∈ xs → ∃ k, xs.idxOf? x = some k ∧ xs[k]? = some x
  | [], _, h => by cases h
  | y :: r, x, h => by
    by_cases q : y = x
    · subst q
      exact ⟨0, by simp [List.idxOf?, List.findIdx?_cons], rfl⟩
    · have h : x ∈ r := by
        rcases List.mem_cons.mp h with h | h
        · exact absurd h.symm q
        · exact h
      obtain ⟨k, h1, h2⟩ := idxOf_mem h
      refine ⟨k + 1, ?_, by simpa using h2⟩
      simp only [List.idxOf?] at h1 ⊢
      rw [List.findIdx?_cons, h1]
      simp [q]
theorem am_ex (c : Nat) (f : Nat → Int) : ∃ k, 0 < c → k < c ∧ f k = mn c f ∧ ((List.range c).map f).idxOf? (mn c f) = some k := by
  by_cases h : 0 < c
  · have q : minI ((List.range c).map f) ∈ (List.range c).map f := minI_mem (by simp; omega)
    obtain ⟨k, h1, h2⟩ := idxOf_mem q
    refine ⟨k, fun _ => ?_⟩
    have hk := (List.getElem?_eq_some_iff.mp h2).1
    rw [List.length_map, List.length_range] at hk
    rw [List.getElem?_map, List.getElem?_range hk] at h2
    exact ⟨hk, Option.some.inj h2, h1⟩
  · exact ⟨0, fun z => absurd z h⟩
/-- where the least one stands first -/
noncomputable def am (c : Nat) (f : Nat → Int) : Nat := Classical.choose (am_ex c f)
theorem am_lt {c : Nat} {f : Nat → Int} (h : 0 < c) : am c f < c := (Classical.choose_spec (am_ex c f) h).1
theorem am_mn {c : Nat} {f : Nat → Int} (h : 0 < c) : f (am c f) = mn c f := (Classical.choose_spec (am_ex c f) h).2.1
theorem index_vec {m : Mm} {c : Nat} {f : Nat → Int} {o : Bool} (h : 0 < c) : bmD .index o (vec c f) [.int (mn c f)] m = .ok (.int (am c f)) m := by
  have e := intsOf_map f (List.range c)
  have q : ((List.range c).map f).idxOf? (mn c f) = some (am c f) := (Classical.choose_spec (am_ex c f) h).2.2
  simp only [bmD, tab, lstOf, e, q]
theorem bmTy_tab {m : Mm} {c : Nat} {F : Nat → D} : bmTy .index m (tab c F) = true := rfl
/-! ### comprehensions and loops -/
theorem mapL_map {α : Type} {f : D → Mm → Res Mm (Option D)} {q : α → D} {g : α → D} {h : Mm} {xs : List α} (H : ∀ x ∈ xs, f (q x) h = .ok (some (g x)) h) : mapL f (xs.map q) h = .ok (xs.map g) h := by
  induction xs with
  | nil => rfl
  | cons x xs ih =>
    have e := H x List.mem_cons_self
    have ih := ih fun y hy => H y (List.mem_cons_of_mem _ hy)
    simp only [List.map_cons, mapL, e, ih, Res.bind_ok]
/-- a comprehension over range(c) -/
theorem mapL_rng {f : D → Mm → Res Mm (Option D)} {c : Nat} {h : Mm} (g : Nat → D) (H : ∀ k, k < c → f (.int (k : Int)) h = .ok (some (g k)) h) : mapL f ((List.range c).map fun (k : Nat) => .int (k : Int)) h = .ok ((List.range c).map g) h :=
  mapL_map fun k hk => H k (List.mem_range.mp hk)
theorem mapL_tab {f : D → Mm → Res Mm (Option D)} {c : Nat} {h : Mm} {F : Nat → D} (g : Nat → D) (H : ∀ k, k < c → f (F k) h = .ok (some (g k)) h) : mapL f ((List.range c).map F) h = .ok ((List.range c).map g) h :=
  mapL_map fun k hk => H k (List.mem_range.mp hk)
theorem forL_nx {f : D → Sx → Res Sx Fl} {c : Nat} {F : Nat → D} (S : Nat → Sx → Prop) {s : Sx} (h0 : S 0 s) (step : ∀ k s, k < c → S k s → ∃ s', f (F k) s = .ok .nx s' ∧ S (k + 1) s') : ∃ s', forL f ((List.range c).map F) s = .ok .nx s' ∧ S c s' := by
  have key : ∀ (n k : Nat) (s : Sx), k + n = c → S k s → ∃ s', forL f ((List.range' k n).map F) s = .ok .nx s' ∧ S c s' := by
    intro n
    induction n with
    | zero =>
      intro k s e h
      have : k = c := by omega
      subst this
      exact ⟨s, rfl, h⟩
    | succ n ih =>
      intro k s e h
      obtain ⟨s1, e1, h1⟩ := step k s (by omega) h
      obtain ⟨s2, e2, h2⟩ := ih (k + 1) s1 (by omega) h1
      refine ⟨s2, ?_, h2⟩
      rw [List.range'_succ, List.map_cons]
      simp only [forL, e1, Res.bind_ok, e2]
  rw [List.range_eq_range']
  exact key c 0 s (by omega) h0
/-- .. that may return -/
theorem forL_rt {f : D → Sx → Res Sx Fl} {c : Nat} {F : Nat → D} (S : Nat → Sx → Prop) {s : Sx} (h0 : S 0 s) (step : ∀ k s, k < c → S k s → ∃ s', (f (F k) s = .ok .nx s' ∨ f (F k) s = .ok .ct s') ∧ S (k + 1) s') : ∃ s', forL f ((List.range c).map F) s = .ok .nx s' ∧ S c s' := by
  have key : ∀ (n k : Nat) (s : Sx), k + n = c → S k s → ∃ s', forL f ((List.range' k n).map F) s = .ok .nx s' ∧ S c s' := by
    intro n
    induction n with
    | zero =>
      intro k s e h
      have : k = c := by omega
      subst this
      exact ⟨s, rfl, h⟩
    | succ n ih =>
      intro k s e h
      obtain ⟨s1, e1, h1⟩ := step k s (by omega) h
      obtain ⟨s2, e2, h2⟩ := ih (k + 1) s1 (by omega) h1
      refine ⟨s2, ?_, h2⟩
      rw [List.range'_succ, List.map_cons]
      rcases e1 with e1 | e1 <;> simp only [forL, e1, Res.bind_ok, e2]
  rw [List.range_eq_range']
  exact key c 0 s (by omega) h0
theorem small_of {n : Nat} (h : n ≤ 1000000) : small62 (n : Int) = true := by
  unfold small62
  exact Nat.ble_eq_true_of_le (by omega)
/-! ### without ids -/
theorem nrs_map {α : Type} {F : α → D} : ∀ {xs : List α}, (∀ x ∈ xs, nr (F x) = true) → nrs (xs.map F) = true
  | [], _ => rfl
  | x :: xs, h => by
    rw [List.map_cons]
    simp only [nrs, h x List.mem_cons_self, nrs_map fun y hy => h y (List.mem_cons_of_mem _ hy), Bool.and_self]
theorem nr_tab {c : Nat} {F : Nat → D} (h : ∀ k, nr (F k) = true) : nr (tab c F) = true := by
  unfold tab
  simp only [nr]
  exact nrs_map fun k _ => h k
theorem nr_vec {c : Nat} {f : Nat → Int} : nr (vec c f) = true := nr_tab fun _ => by simp only [nr]
theorem nr_mat {c d : Nat} {f : Nat → Nat → Int} : nr (tab d fun i => vec c (f i)) = true := nr_tab fun _ => nr_vec
theorem nr_scr {ns : List Int} : nr (.scr (ns.map .int)) = true := by
  simp only [nr]
  exact nrs_map fun _ _ => by simp only [nr]
theorem rsv_nr {h : Mm} {k : Nat} {d : D} (q : nr d = true) : rsv h (k + 1) d = some d := by
  unfold rsv
  rw [if_pos q]
theorem rsv9 {h : Mm} {d : D} (q : nr d = true) : rsv h 9 d = some d := rsv_nr q
theorem mapM_rsv {h : Mm} {k : Nat} : ∀ {xs : List D}, nrs xs = true → xs.mapM (rsv h (k + 1)) = some xs
  | [], _ => rfl
  | x :: xs, q => by
    simp only [nrs, Bool.and_eq_true] at q
    rw [List.mapM_cons, rsv_nr q.1, mapM_rsv q.2]
    rfl
theorem mapM_own {h : Mm} {k : Nat} {α : Type} {f : α → Int} : ∀ {xs : List α}, (xs.map fun x => D.int (f x)).mapM (own h (k + 1)) = some (xs.map fun x => D.int (f x))
  | [] => rfl
  | x :: xs => by
    rw [List.map_cons, List.mapM_cons, mapM_own (xs := xs)]
    simp [own]
theorem frz_nrs {k : Nat} {h : Mm} : ∀ {xs : List D}, nrs xs = true → thr (frzN (k + 1)) xs h = some (xs, h)
  | [], _ => rfl
  | x :: xs, q => by
    simp only [nrs, Bool.and_eq_true] at q
    have e : frzN (k + 1) x h = some (x, h) := by
      unfold frzN
      rw [if_pos q.1]
    simp only [thr, e, frz_nrs q.2, Option.bind_some]
/-- a list at an id is frozen -/
theorem frz_ref {h : Mm} {n : Nat} {xs : List D} (e : h[n]? = some (.lst xs)) (q : nrs xs = true) : frzD (.ref n) h = .ok (.lst xs) (h.set n .dead) := by
  unfold frzD frzN
  simp only [nr, e, frz_nrs q, Option.map_some]
  rfl
/-! ### a def that is run by itself, on values without ids -/
theorem call_pure {p : Pg} {n f : Nat} {fd : FD} {as : List D} {h : Mm} {d' : D} (hf : p.fns[f]? = some fd) (hl : as.length = fd.np) (hp : fd.pure_ = true) (hn : nrs as = true)
    (hb : ∃ d s, execSs p (callN p n) fd.body ⟨as.map some ++ List.replicate (fd.nl - fd.np) none, []⟩ = .ok (.rt d) s ∧ rsv s.hp 9 d = some d') : callN p (n + 1) f as h = .ok d' h := by
  obtain ⟨d, s, hb, hr⟩ := hb
  simp only [callN, hf]
  rw [if_pos hl, if_pos hp, if_pos hn, hb]
  simp only [finP, rtD, Option.bind_some, if_true, hr]
theorem call_own {p : Pg} {n f : Nat} {fd : FD} {as : List D} {h : Mm} {d' : D} (as' : List D) (hf : p.fns[f]? = some fd) (hl : as.length = fd.np) (hp : fd.pure_ = true) (hn : nrs as = false) (ha : as.mapM (rsv h 9) = some as')
    (hb : ∃ d s, execSs p (callN p n) fd.body ⟨as'.map some ++ List.replicate (fd.nl - fd.np) none, []⟩ = .ok (.rt d) s ∧ own s.hp 9 d = some d') : callN p (n + 1) f as h = .ok d' h := by
  obtain ⟨d, s, hb, hr⟩ := hb
  simp only [callN, hf]
  rw [if_pos hl, if_pos hp, if_neg (by rw [hn]; exact Bool.false_ne_true), ha]
  simp only [hb, finP, rtD, Option.bind_some, Bool.false_eq_true, if_false, hr]
theorem call_imp {p : Pg} {n f : Nat} {fd : FD} {as : List D} {h h' : Mm} {d : D} (hf : p.fns[f]? = some fd) (hl : as.length = fd.np) (hp : fd.pure_ = false)
    (hb : ∃ x s, execSs p (callN p n) fd.body ⟨as.map some ++ List.replicate (fd.nl - fd.np) none, h⟩ = .ok x s ∧ rtD x = some d ∧ s.hp = h') : callN p (n + 1) f as h = .ok d h' := by
  obtain ⟨x, s, hb, hx, hs⟩ := hb
  simp only [callN, hf]
  rw [if_pos hl, if_neg (by rw [hp]; exact Bool.false_ne_true), hb]
  simp only [fin, hx, hs]
end R

/-! RWp: statements of R, one after another. -/
namespace R
open PySem
def Wp (p : Pg) (c : Calls) (ms : List MS) (s : Sx) (Q : Fl → Sx → Prop) : Prop := ∃ f s', execSs p c ms s = .ok f s' ∧ Q f s'
/-- behind a statement that may return -/
def Nxt (p : Pg) (c : Calls) (ms : List MS) (Q : Fl → Sx → Prop) : Fl → Sx → Prop
  | .nx, s => Wp p c ms s Q
  | f, s => Q f s
variable {p : Pg} {c : Calls} {ms : List MS} {s : Sx} {Q : Fl → Sx → Prop} {sl : List (Option D)} {h h1 h2 h3 : Mm} {d x y : D} {i : Nat} {e o k : ME}
theorem wp_nil (q : Q .nx s) : Wp p c [] s Q := ⟨_, _, by simp only [execSs], q⟩
theorem wp_cons {m : MS} {s' : Sx} (a : execS p c m s = .ok .nx s') (q : Wp p c ms s' Q) : Wp p c (m :: ms) s Q := by
  obtain ⟨f, s2, e, q⟩ := q
  exact ⟨f, s2, by simp only [execSs, a, Res.bind_ok, e], q⟩
theorem wp_any {m : MS} {f : Fl} {s' : Sx} (a : execS p c m s = .ok f s') (q : Nxt p c ms Q f s') : Wp p c (m :: ms) s Q := by
  cases f with
  | nx => exact wp_cons a q
  | bk => exact ⟨_, _, by simp only [execSs, a, Res.bind_ok], q⟩
  | ct => exact ⟨_, _, by simp only [execSs, a, Res.bind_ok], q⟩
  | rt d => exact ⟨_, _, by simp only [execSs, a, Res.bind_ok], q⟩
theorem wp_set (a : evalE p c e sl h = .ok d h1) (q : Wp p c ms ⟨sl.set i (some d), h1⟩ Q) : Wp p c (.set i e :: ms) ⟨sl, h⟩ Q := wp_cons (by simp only [execS, a, up_ok]) q
theorem wp_ex (a : evalE p c e sl h = .ok d h1) (q : Wp p c ms ⟨sl, h1⟩ Q) : Wp p c (.ex e :: ms) ⟨sl, h⟩ Q := wp_cons (by simp only [execS, a, up_ok]) q
theorem wp_ret (a : evalE p c e sl h = .ok d h1) (q : Q (.rt d) ⟨sl, h1⟩) : Wp p c (.ret e :: ms) ⟨sl, h⟩ Q := wp_any (f := .rt d) (s' := ⟨sl, h1⟩) (by simp only [execS, a, up_ok]) q
theorem wp_unp {g : Tg} {sl' : List (Option D)} (a : evalE p c e sl h = .ok d h1) (b : bindT g d sl = some sl') (q : Wp p c ms ⟨sl', h1⟩ Q) : Wp p c (.unp g e :: ms) ⟨sl, h⟩ Q := wp_cons (by simp only [execS, a, up_ok, b]) q
theorem wp_setf {f : Nat} (a : evalE p c e sl h = .ok d h1) (b : evalE p c o sl h1 = .ok x h2) (z : setFD x f d h2 = some h3) (q : Wp p c ms ⟨sl, h3⟩ Q) : Wp p c (.setf o f e :: ms) ⟨sl, h⟩ Q := wp_cons (by simp only [execS, a, up_ok, b, z]) q
theorem wp_seti {k : ME} {h4 : Mm} (a : evalE p c e sl h = .ok d h1) (b : evalE p c o sl h1 = .ok x h2) (b2 : evalE p c k sl h2 = .ok y h3) (z : setID x y d h3 = some h4) (q : Wp p c ms ⟨sl, h4⟩ Q) : Wp p c (.seti o k e :: ms) ⟨sl, h⟩ Q := wp_cons (by simp only [execS, a, up_ok, b, b2, z]) q
theorem wp_augf {f : Nat} {op : Op} {v z : D} {h4 : Mm} (b : evalE p c o sl h = .ok x h1) (b1 : fldD h1 f x = some v) (a : evalE p c e sl h1 = .ok d h2) (b2 : augD op v d = some z) (b3 : clsD h2 x = clsD h1 x) (b4 : setFD x f z h2 = some h4) (q : Wp p c ms ⟨sl, h4⟩ Q) : Wp p c (.augf o f op e :: ms) ⟨sl, h⟩ Q :=
  wp_cons (by simp only [execS, b, up_ok, b1, a, b2, b3, b4, if_true]) q
theorem wp_aug {op : Op} {v z : D} (b : sl[i]? = some (some v)) (a : evalE p c e sl h = .ok d h1) (b2 : augD op v d = some z) (q : Wp p c ms ⟨sl.set i (some z), h1⟩ Q) : Wp p c (.aug i op e :: ms) ⟨sl, h⟩ Q :=
  wp_cons (by simp only [execS, b, up_ok, a, b2]) q
theorem wp_frzv {v z : D} (b : sl[i]? = some (some v)) (a : frzD v h = .ok z h1) (q : Wp p c ms ⟨sl.set i (some z), h1⟩ Q) : Wp p c (.frzv i :: ms) ⟨sl, h⟩ Q := wp_cons (by simp only [execS, b, up_ok, a]) q
theorem wp_frzs {n : Nat} {xs : List D} (b : sl[i]? = some (some (.ref n))) (a : h[n]? = some (.lst xs)) (q : Wp p c ms ⟨sl.set i (some (.lst xs)), h.set n .dead⟩ Q) : Wp p c (.frzs i :: ms) ⟨sl, h⟩ Q := wp_cons (by simp only [execS, b, a]) q
theorem wp_frzs_non (b : sl[i]? = some (some .non)) (q : Wp p c ms ⟨sl, h⟩ Q) : Wp p c (.frzs i :: ms) ⟨sl, h⟩ Q := wp_cons (by simp only [execS, b]) q
theorem wp_ite {m1 m2 : List MS} {b : Bool} (a : evalE p c k sl h = .ok x h1) (t : truthD h1 x = some b) (q : Wp p c (if b = true then m1 else m2) ⟨sl, h1⟩ (Nxt p c ms Q)) : Wp p c (.ite k m1 m2 :: ms) ⟨sl, h⟩ Q := by
  obtain ⟨f, s', e, q⟩ := q
  refine wp_any (f := f) (s' := s') ?_ q
  cases b with
  | true => simp only [execS, a, up_ok, t]; simpa using e
  | false => simp only [execS, a, up_ok, t]; simpa using e
theorem wp_then {m1 m2 : List MS} (a : evalE p c k sl h = .ok x h1) (t : truthD h1 x = some true) (q : Wp p c m1 ⟨sl, h1⟩ (Nxt p c ms Q)) : Wp p c (.ite k m1 m2 :: ms) ⟨sl, h⟩ Q := wp_ite (b := true) a t (by simpa using q)
theorem wp_else {m1 m2 : List MS} (a : evalE p c k sl h = .ok x h1) (t : truthD h1 x = some false) (q : Wp p c m2 ⟨sl, h1⟩ (Nxt p c ms Q)) : Wp p c (.ite k m1 m2 :: ms) ⟨sl, h⟩ Q := wp_ite (b := false) a t (by simpa using q)
/-- a loop over things by an index: S, what stands before each turn -/
theorem wp_for {g : Tg} {it : It} {body : List MS} {n : Nat} {F : Nat → D} (S : Nat → Sx → Prop) (a : evalI p c it sl h = .ok ((List.range n).map F) h1) (h0 : S 0 ⟨sl, h1⟩)
    (step : ∀ k s, k < n → S k s → ∃ sl', bindT g (F k) s.sl = some sl' ∧ Wp p c body ⟨sl', s.hp⟩ fun f s' => (f = .nx ∨ f = .ct) ∧ S (k + 1) s') (q : ∀ s, S n s → Wp p c ms s Q) : Wp p c (.for_ g it body :: ms) ⟨sl, h⟩ Q := by
  obtain ⟨s', e, hs⟩ := forL_rt (f := fun x s => match bindT g x s.sl with
        | some sl => execSs p c body ⟨sl, s.hp⟩
        | none => .bad) S h0 fun k s hk hS => by
    obtain ⟨sl', b, f, s', e, z, q⟩ := step k s hk hS
    refine ⟨s', ?_, q⟩
    rw [b]
    rcases z with z | z
    · subst z; exact .inl e
    · subst z; exact .inr e
  exact wp_cons (s' := s') (by simp only [execS, a, up_ok]; exact e) (q s' hs)
/-- the condition and the value of a comprehension over things by an index -/
theorem lc_at {obj : Bool} {elt : ME} {g : Tg} {it : It} {own : List Nat} {n : Nat} {F G : Nat → D} (a : evalI p c it sl h = .ok ((List.range n).map F) h1) (hn : n ≤ 16777216)
    (step : ∀ k, k < n → ∃ sl', bindT g (F k) (wipe sl own) = some sl' ∧ evalE p c elt sl' h1 = .ok (G k) h1) : evalE p c (.lc obj elt g it none own) sl h = mkL obj ((List.range n).map G) h1 := by
  simp only [evalE, a, Res.bind_ok]
  rw [mapL_map (g := G) fun k hk => ?_]
  · rfl
  · obtain ⟨sl', b, e⟩ := step k (List.mem_range.mp hk)
    simp only [b, e, noExn, Res.bind_ok]
theorem lc_tab {elt : ME} {g : Tg} {it : It} {own : List Nat} {n : Nat} {F G : Nat → D} (a : evalI p c it sl h = .ok ((List.range n).map F) h1) (hn : n ≤ 16777216)
    (step : ∀ k, k < n → ∃ sl', bindT g (F k) (wipe sl own) = some sl' ∧ evalE p c elt sl' h1 = .ok (G k) h1) : evalE p c (.lc false elt g it none own) sl h = .ok (tab n G) h1 := by
  rw [lc_at a hn step]
  simp only [mkL, List.length_map, List.length_range, szOk_of hn, if_true, Bool.false_eq_true, if_false]
  rfl
theorem lc_obj {elt : ME} {g : Tg} {it : It} {own : List Nat} {n : Nat} {F G : Nat → D} (a : evalI p c it sl h = .ok ((List.range n).map F) h1) (hn : n ≤ 16777216)
    (step : ∀ k, k < n → ∃ sl', bindT g (F k) (wipe sl own) = some sl' ∧ evalE p c elt sl' h1 = .ok (G k) h1) : evalE p c (.lc true elt g it none own) sl h = .ok (.ref h1.length) (h1 ++ [.lst ((List.range n).map G)]) := by
  rw [lc_at a hn step]
  simp only [mkL, List.length_map, List.length_range, szOk_of hn, if_true]
theorem it_rng {a : ME} {n : Nat} (e : evalE p c a sl h = .ok (.int (n : Int)) h1) (hn : n ≤ 1000000) : evalI p c (.rng1 a) sl h = .ok ((List.range n).map fun (k : Nat) => .int (k : Int)) h1 := by
  simp only [evalI, e, Res.bind_ok, small_of hn, if_true, Int.toNat_natCast]
theorem it_tab {a : ME} {n : Nat} {F : Nat → D} (e : evalE p c a sl h = .ok (tab n F) h1) : evalI p c (.seq a) sl h = .ok ((List.range n).map F) h1 := by
  simp only [evalI, e, Res.bind_ok, tab]
theorem it_zip {a b : ME} {n : Nat} {F G : Nat → D} (e : evalE p c a sl h = .ok (tab n F) h1) (e2 : evalE p c b sl h1 = .ok (tab n G) h2) : evalI p c (.zip a b) sl h = .ok ((List.range n).map fun k => .tup [F k, G k]) h2 := by
  simp only [evalI, e, e2, Res.bind_ok, tab, frzL]
  rw [List.zip_map']
  simp only [List.map_map]
  rfl
theorem set_last {α : Type} (xs : List α) (x y : α) : (xs ++ [x]).set xs.length y = xs ++ [y] := by
  rw [List.set_append_right _ _ (Nat.le_refl _), Nat.sub_self]; rfl
theorem get_last {α : Type} (xs : List α) (x : α) : (xs ++ [x])[xs.length]? = some x := by simp
theorem map_rng_succ {α : Type} (F : Nat → α) (j : Nat) : (List.range (j + 1)).map F = (List.range j).map F ++ [F j] := by rw [List.range_succ, List.map_append]; rfl
/-- x.append(e) where x stands at n -/
theorem ev_app {o e : ME} {obj : Bool} {n m : Nat} {F : Nat → D} (a : evalE p c o sl h = .ok (.ref n) h1) (l : h1[n]? = some (.lst ((List.range m).map F))) (b : evalE p c e sl h1 = .ok (F m) h2) (l2 : h2[n]? = some (.lst ((List.range m).map F))) (hm : m < 16777216) :
    evalE p c (.bm .append obj o [e]) sl h = .ok .non (h2.set n (.lst ((List.range (m + 1)).map F))) := by
  simp only [evalE, evalEs, a, b, Res.bind_ok, bmTy, lstOf, l, l2, Option.isSome_some, if_true, bmD, List.length_map, List.length_range, szOk_of (show m + 1 ≤ 16777216 by omega), map_rng_succ]
theorem call_run {n f : Nat} {fd : FD} {as : List D} {d' : D} (hf : p.fns[f]? = some fd) (hl : as.length = fd.np) (hp : fd.pure_ = true) (hn : nrs as = true)
    (hb : Wp p (callN p n) fd.body ⟨as.map some ++ List.replicate (fd.nl - fd.np) none, []⟩ fun f s => ∃ d, f = .rt d ∧ rsv s.hp 9 d = some d') : callN p (n + 1) f as h = .ok d' h := by
  obtain ⟨f', s, e, d, rfl, r⟩ := hb
  exact call_pure hf hl hp hn ⟨d, s, e, r⟩
theorem call_runO {n f : Nat} {fd : FD} {as as' : List D} {d' : D} (hf : p.fns[f]? = some fd) (hl : as.length = fd.np) (hp : fd.pure_ = true) (hn : nrs as = false) (ha : as.mapM (rsv h 9) = some as')
    (hb : Wp p (callN p n) fd.body ⟨as'.map some ++ List.replicate (fd.nl - fd.np) none, []⟩ fun f s => ∃ d, f = .rt d ∧ own s.hp 9 d = some d') : callN p (n + 1) f as h = .ok d' h := by
  obtain ⟨f', s, e, d, rfl, r⟩ := hb
  exact call_own as' hf hl hp hn ha ⟨d, s, e, r⟩
theorem call_runI {n f : Nat} {fd : FD} {as : List D} {d : D} (hf : p.fns[f]? = some fd) (hl : as.length = fd.np) (hp : fd.pure_ = false)
    (hb : Wp p (callN p n) fd.body ⟨as.map some ++ List.replicate (fd.nl - fd.np) none, h⟩ fun f s => rtD f = some d ∧ s.hp = h1) : callN p (n + 1) f as h = .ok d h1 := by
  obtain ⟨f', s, e, r, z⟩ := hb
  exact call_imp hf hl hp ⟨f', s, e, r, z⟩
end R

/-! RLib2: loops over lists, while, slices, lists of numbers. -/
namespace R
open PySem
variable {p : Pg} {c : Calls} {ms : List MS} {s : Sx} {Q : Fl → Sx → Prop} {sl : List (Option D)} {h h1 h2 h3 : Mm} {d x y : D} {i : Nat} {e o k : ME}
/-- a loop over a list; S: what stands while xs are left -/
theorem forL_rest {α : Type} {f : D → Sx → Res Sx Fl} {F : α → D} (S : List α → Sx → Prop) {QR : D → Sx → Prop}
    (step : ∀ a xs s, S (a :: xs) s → (∃ s', (f (F a) s = .ok .nx s' ∨ f (F a) s = .ok .ct s') ∧ S xs s') ∨ (∃ d s', f (F a) s = .ok (.rt d) s' ∧ QR d s') ∨ (∃ s', f (F a) s = .ok .bk s' ∧ S [] s')) :
    ∀ (xs : List α) (s : Sx), S xs s → (∃ s', forL f (xs.map F) s = .ok .nx s' ∧ S [] s') ∨ (∃ d s', forL f (xs.map F) s = .ok (.rt d) s' ∧ QR d s')
  | [], s, h => .inl ⟨s, rfl, h⟩
  | a :: xs, s, h => by
    rcases step a xs s h with ⟨s', e, hs⟩ | ⟨d, s', e, hq⟩ | ⟨s', e, hs⟩
    · rcases forL_rest S step xs s' hs with ⟨s2, e2, h2⟩ | ⟨d, s2, e2, h2⟩
      · refine .inl ⟨s2, ?_, h2⟩
        rw [List.map_cons]
        rcases e with e | e <;> simp only [forL, e, Res.bind_ok, e2]
      · refine .inr ⟨d, s2, ?_, h2⟩
        rw [List.map_cons]
        rcases e with e | e <;> simp only [forL, e, Res.bind_ok, e2]
    · refine .inr ⟨d, s', ?_, hq⟩
      rw [List.map_cons]
      simp only [forL, e, Res.bind_ok]
    · refine .inl ⟨s', ?_, hs⟩
      rw [List.map_cons]
      simp only [forL, e, Res.bind_ok]
theorem wp_forR {α : Type} {g : Tg} {it : It} {body : List MS} {F : α → D} {xs : List α} (S : List α → Sx → Prop) (a : evalI p c it sl h = .ok (xs.map F) h1) (h0 : S xs ⟨sl, h1⟩)
    (step : ∀ a xs s, S (a :: xs) s → ∃ sl', bindT g (F a) s.sl = some sl' ∧ Wp p c body ⟨sl', s.hp⟩ fun f s' => match f with
      | .nx => S xs s'
      | .ct => S xs s'
      | .bk => S [] s'
      | .rt d => Q (.rt d) s') (q : ∀ s, S [] s → Wp p c ms s Q) : Wp p c (.for_ g it body :: ms) ⟨sl, h⟩ Q := by
  have key := forL_rest (f := fun x s => match bindT g x s.sl with
        | some sl => execSs p c body ⟨sl, s.hp⟩
        | none => .bad) (F := F) S (QR := fun d s => Q (.rt d) s) (fun a xs s hS => by
    obtain ⟨sl', b, f, s', e, z⟩ := step a xs s hS
    simp only [b]
    cases f with
    | nx => exact .inl ⟨s', .inl e, z⟩
    | ct => exact .inl ⟨s', .inr e, z⟩
    | bk => exact .inr (.inr ⟨s', e, z⟩)
    | rt d => exact .inr (.inl ⟨d, s', e, z⟩)) xs ⟨sl, h1⟩ h0
  rcases key with ⟨s', e, hs⟩ | ⟨d, s', e, hq⟩
  · exact wp_cons (s' := s') (by simp only [execS, a, up_ok]; exact e) (q s' hs)
  · exact wp_any (f := .rt d) (s' := s') (by simp only [execS, a, up_ok]; exact e) hq
/-- while; S n: what stands before a test, n: a measure -/
theorem wp_while {fuel : Nat} {body : List MS} (S : Nat → Sx → Prop) {n : Nat} (hn : n < fuel) (h0 : S n s)
    (step : ∀ n s, S n s → ∃ x h1 b, evalE p c k s.sl s.hp = .ok x h1 ∧ truthD h1 x = some b ∧
      (b = true → Wp p c body ⟨s.sl, h1⟩ fun f s' => match f with
        | .nx => ∃ m, m < n ∧ S m s'
        | .ct => ∃ m, m < n ∧ S m s'
        | .bk => Wp p c ms s' Q
        | .rt d => Q (.rt d) s') ∧ (b = false → Wp p c ms ⟨s.sl, h1⟩ Q)) : Wp p c (.while_ fuel k body :: ms) s Q := by
  have key : ∀ (fuel n : Nat) (s : Sx), n < fuel → S n s → ∃ f s', whileL (fun s => up s.sl (evalE p c k s.sl s.hp) fun x h => match truthD h x with
      | some true => (execSs p c body ⟨s.sl, h⟩).bind fun r s => .ok (some r) s
      | some false => .ok none ⟨s.sl, h⟩
      | none => .bad) fuel s = .ok f s' ∧ Nxt p c ms Q f s' := by
    intro fuel
    induction fuel with
    | zero => intro n s hn; omega
    | succ fuel ih =>
      intro n s hn hS
      obtain ⟨x, h1, b, e, t, q1, q2⟩ := step n s hS
      cases b with
      | false =>
        refine ⟨.nx, ⟨s.sl, h1⟩, ?_, q2 rfl⟩
        simp only [whileL, e, up_ok, t, Res.bind_ok]
      | true =>
        obtain ⟨f, s', e2, z⟩ := q1 rfl
        cases f with
        | nx =>
          obtain ⟨m, hm, hS'⟩ := z
          obtain ⟨f, s2, e3, z3⟩ := ih m s' (by omega) hS'
          exact ⟨f, s2, by simp only [whileL, e, up_ok, t, Res.bind_ok, e2, e3], z3⟩
        | ct =>
          obtain ⟨m, hm, hS'⟩ := z
          obtain ⟨f, s2, e3, z3⟩ := ih m s' (by omega) hS'
          exact ⟨f, s2, by simp only [whileL, e, up_ok, t, Res.bind_ok, e2, e3], z3⟩
        | bk => exact ⟨.nx, s', by simp only [whileL, e, up_ok, t, Res.bind_ok, e2], z⟩
        | rt d => exact ⟨.rt d, s', by simp only [whileL, e, up_ok, t, Res.bind_ok, e2], z⟩
  obtain ⟨f, s', e, q⟩ := key fuel n s hn h0
  exact wp_any (f := f) (s' := s') (by simp only [execS]; exact e) q
/-- if, both ways -/
theorem wp_if {m1 m2 : List MS} (b : Bool) (a : evalE p c k sl h = .ok x h1) (t : truthD h1 x = some b) (q1 : b = true → Wp p c m1 ⟨sl, h1⟩ (Nxt p c ms Q)) (q2 : b = false → Wp p c m2 ⟨sl, h1⟩ (Nxt p c ms Q)) : Wp p c (.ite k m1 m2 :: ms) ⟨sl, h⟩ Q := by
  cases b with
  | true => exact wp_then a t (q1 rfl)
  | false => exact wp_else a t (q2 rfl)
theorem wp_dec {m1 m2 : List MS} (P : Prop) [Decidable P] (a : evalE p c k sl h = .ok (.bl (decide P)) h1) (q1 : P → Wp p c m1 ⟨sl, h1⟩ (Nxt p c ms Q)) (q2 : ¬ P → Wp p c m2 ⟨sl, h1⟩ (Nxt p c ms Q)) : Wp p c (.ite k m1 m2 :: ms) ⟨sl, h⟩ Q := by
  by_cases z : P
  · rw [decide_eq_true z] at a
    exact wp_then a rfl (q1 z)
  · rw [decide_eq_false z] at a
    exact wp_else a rfl (q2 z)
theorem wp_setsl {k2 : ME} {a b : Int} {h4 h5 : Mm} (e1 : evalE p c e sl h = .ok d h1) (e2 : evalE p c o sl h1 = .ok x h2) (e3 : evalE p c k sl h2 = .ok (.int a) h3) (e4 : evalE p c k2 sl h3 = .ok (.int b) h4) (z : setSD x a b d h4 = some h5) (q : Wp p c ms ⟨sl, h5⟩ Q) : Wp p c (.setsl o k k2 e :: ms) ⟨sl, h⟩ Q :=
  wp_cons (by simp only [execS, e1, up_ok, e2, e3, e4, z]) q
theorem wp_augi {op : Op} {v z u : D} {h4 : Mm} (a : evalE p c o sl h = .ok x h1) (b : evalE p c k sl h1 = .ok y h2) (g : idxM h2 x y = some v) (e1 : evalE p c e sl h2 = .ok u h3) (b2 : augD op v u = some z) (b4 : setID x y z h3 = some h4) (q : Wp p c ms ⟨sl, h4⟩ Q) : Wp p c (.augi o k op e :: ms) ⟨sl, h⟩ Q :=
  wp_cons (by simp only [execS, a, b, up_ok, g, e1, b2, b4]) q
/-- comprehensions over a list -/
theorem lc_list {obj : Bool} {elt : ME} {g : Tg} {it : It} {own : List Nat} {α : Type} {xs : List α} {F G : α → D} (a : evalI p c it sl h = .ok (xs.map F) h1) (hn : xs.length ≤ 16777216)
    (step : ∀ k ∈ xs, ∃ sl', bindT g (F k) (wipe sl own) = some sl' ∧ evalE p c elt sl' h1 = .ok (G k) h1) : evalE p c (.lc obj elt g it none own) sl h = (if obj = true then .ok (.ref h1.length) (h1 ++ [.lst (xs.map G)]) else .ok (.lst (xs.map G)) h1) := by
  simp only [evalE, a, Res.bind_ok]
  rw [mapL_map (g := G) fun k hk => ?_]
  · simp only [Res.bind_ok, mkL, List.length_map, szOk_of hn, if_true]
  · obtain ⟨sl', b, e⟩ := step k hk
    simp only [b, e, noExn, Res.bind_ok]
/-! ### slices -/
theorem cutD_nat {α : Type} {xs : List α} (a b : Nat) : cutD xs (some (a : Int)) (some (b : Int)) = (xs.drop a).take (b - a) := by
  unfold cutD
  rw [HT.sIx_nat, HT.sIx_nat]
  by_cases h : a ≤ xs.length
  · rw [Nat.min_eq_left h]
    by_cases h2 : b ≤ xs.length
    · rw [Nat.min_eq_left h2]
    · rw [Nat.min_eq_right (show xs.length ≤ b by omega), List.take_of_length_le (by rw [List.length_drop]; omega), List.take_of_length_le (by rw [List.length_drop]; omega)]
  · rw [Nat.min_eq_right (show xs.length ≤ a by omega), List.drop_length, List.drop_of_length_le (show xs.length ≤ a by omega)]
    simp
theorem cutD_to {α : Type} {xs : List α} (b : Nat) : cutD xs none (some (b : Int)) = xs.take b := by
  unfold cutD
  rw [HT.sIx_none, HT.sIx_nat, List.drop_zero, Nat.sub_zero]
  by_cases h2 : b ≤ xs.length
  · rw [Nat.min_eq_left h2]
  · rw [Nat.min_eq_right (by omega), List.take_of_length_le (Nat.le_refl _), List.take_of_length_le (by omega)]
theorem cutD_from {α : Type} {xs : List α} (a : Nat) : cutD xs (some (a : Int)) none = xs.drop a := by
  unfold cutD
  rw [HT.sIx_none, HT.sIx_nat]
  by_cases h : a ≤ xs.length
  · rw [Nat.min_eq_left h, List.take_of_length_le (by rw [List.length_drop]; omega)]
  · rw [Nat.min_eq_right (by omega), List.drop_length, List.drop_of_length_le (by omega)]
    simp
/-! ### lists of natural numbers -/
def ns (l : List Nat) : List D := l.map fun (n : Nat) => .int (n : Int)
abbrev bs (l : List Nat) : D := .lst (ns l)
@[simp] theorem ns_nil : ns [] = [] := rfl
@[simp] theorem ns_cons (a : Nat) (l : List Nat) : ns (a :: l) = .int (a : Int) :: ns l := rfl
@[simp] theorem ns_len (l : List Nat) : (ns l).length = l.length := by unfold ns; rw [List.length_map]
theorem ns_app (a b : List Nat) : ns a ++ ns b = ns (a ++ b) := by unfold ns; rw [List.map_append]
theorem ns_drop (a : List Nat) (n : Nat) : (ns a).drop n = ns (a.drop n) := by unfold ns; rw [List.map_drop]
theorem ns_take (a : List Nat) (n : Nat) : (ns a).take n = ns (a.take n) := by unfold ns; rw [List.map_take]
theorem ns_rep (n k : Nat) : ns (List.replicate n k) = List.replicate n (.int (k : Int)) := by unfold ns; rw [List.map_replicate]
theorem ns_get (a : List Nat) (i : Nat) : (ns a)[i]? = (a[i]?).map fun n => .int (n : Int) := by unfold ns; rw [List.getElem?_map]
theorem nrs_ns : ∀ l : List Nat, nrs (ns l) = true
  | [] => rfl
  | a :: l => by simp only [ns_cons, nrs, nr, nrs_ns l, Bool.and_self]
theorem nr_bs (l : List Nat) : nr (bs l) = true := by simp only [nr, nrs_ns]
/-- lists of such lists -/
def nss (l : List (List Nat)) : List D := l.map bs
@[simp] theorem nss_len (l : List (List Nat)) : (nss l).length = l.length := by unfold nss; rw [List.length_map]
theorem nrs_nss : ∀ l : List (List Nat), nrs (nss l) = true
  | [] => rfl
  | a :: l => by
    have := nrs_nss l
    unfold nss at this ⊢
    simp only [List.map_cons, nrs, nr_bs, this, Bool.and_self]
theorem nss_app (a b : List (List Nat)) : nss a ++ nss b = nss (a ++ b) := by unfold nss; rw [List.map_append]
theorem nss_drop (a : List (List Nat)) (n : Nat) : (nss a).drop n = nss (a.drop n) := by unfold nss; rw [List.map_drop]
theorem nss_take (a : List (List Nat)) (n : Nat) : (nss a).take n = nss (a.take n) := by unfold nss; rw [List.map_take]
theorem nss_get (a : List (List Nat)) (i : Nat) : (nss a)[i]? = (a[i]?).map bs := by unfold nss; rw [List.getElem?_map]
/-! ### operations on frozen lists -/
section
variable {m : Mm} {xs ys : List D} {b : Bool}
theorem add_lst (hz : xs.length + ys.length ≤ 16777216) : addD false m (.lst xs) (.lst ys) = .ok (.lst (xs ++ ys)) m := by
  simp only [addD, lstW, mkL, List.length_append, szOk_of hz, if_true, Bool.false_eq_true, if_false]
theorem mul_lst {k : Nat} (hk : k ≤ 1000000) (hz : xs.length * k ≤ 16777216) : mulD false m (.lst xs) (.int (k : Int)) = .ok (.lst (List.replicate k xs).flatten) m := by
  have e : (List.replicate k xs).flatten.length ≤ 16777216 := by
    rw [List.length_flatten, List.map_replicate, List.sum_replicate_nat, Nat.mul_comm]; exact hz
  simp only [mulD, lstW, small_of hk, if_true, Int.toNat_natCast, mkL, szOk_of e, Bool.false_eq_true, if_false]
theorem slc_lst {l u : Option Int} (hz : (cutD xs l u).length ≤ 16777216) : slcD false m (.lst xs) l u = .ok (.lst (cutD xs l u)) m := by
  simp only [slcD, lstOf, mkL, szOk_of hz, if_true, Bool.false_eq_true, if_false]
theorem len_lst {o : Bool} : bltD .len o [.lst xs] m = .ok (.int xs.length) m := by simp only [bltD, seqOf, lstOf]
theorem list_lst (hz : xs.length ≤ 16777216) : bltD .list_ false [.lst xs] m = .ok (.lst xs) m := by simp only [bltD, seqOf, lstOf, mkL, szOk_of hz, if_true, Bool.false_eq_true, if_false]
theorem idx_lst' {k : Nat} : idxD m (.lst xs) (.int (k : Int)) = xs[k]? := by simp only [idxD, seqOf, lstOf, atI_nat']
end
theorem cut_le {α : Type} {xs : List α} {l u : Option Int} {n : Nat} (h : xs.length ≤ n) : (cutD xs l u).length ≤ n := by
  unfold cutD
  rw [List.length_take, List.length_drop]; omega
theorem rep_one {α : Type} (k : Nat) (d : α) : (List.replicate k [d]).flatten = List.replicate k d := by
  induction k with
  | zero => rfl
  | succ k ih => rw [List.replicate_succ, List.replicate_succ, List.flatten_cons, ih]; rfl
end R

namespace PT
open PySem R
/-- 0: values.value_key (value) -/
def d_value_key : FD := ⟨1, 1, [.ite (.isi .int_ (.var 0)) [.ret (.tup [(.lit (.int 0)), (.var 0)])] [], .ret (.tup [(.lit (.int 1)), (.var 0)])], true, []⟩
/-- 1: values.row_key (row, parts, value) -/
def d_row_key : FD := ⟨1, 3, [.set 1 (.lst true []), .for_ (.nm 2) (.seq (.var 0)) [.ex (.bm .extend false (.var 1) [(.call 0 [(.var 2)])])], .frzv 1, .ret (.blt .tuple_ false [(.var 1)])], true, []⟩
/-- 2: values.key_of (item, row) -/
def d_key_of : FD := ⟨1, 2, [.set 1 (.tup []), .ite (.cmp .eq (.idx (.var 0) (.lit (.int 0))) (.lit (.str "fact"))) [.set 1 (.idx (.var 0) (.lit (.int 2)))] [], .ret (.tup [(.kidx 0 (.idx (.var 0) (.lit (.int 0)))), (.idx (.var 0) (.lit (.int 1))), (.var 1)])], true, []⟩
/-- 3: values.key_order (key, sort, name, row) -/
def d_key_order : FD := ⟨1, 4, [.unp (.tp [(.nm 1), (.nm 2), (.nm 3)]) (.var 0), .ret (.bin .add false (.tup [(.var 1), (.var 2)]) (.call 1 [(.var 3)]))], true, []⟩
/-- 4: states.State.__init__ (self, items, item) -/
def d_State___init__ : FD := ⟨2, 3, [.setf (.var 0) 0 .dnew, .setf (.var 0) 1 .dnew, .setf (.var 0) 2 .dnew, .setf (.var 0) 3 .dnew, .for_ (.nm 2) (.seq (.var 1)) [.ex (.meth (.var 0) 0 [(.var 2)])], .ex (.meth (.var 0) 2 [])], false, []⟩
/-- 5: states.State._put (self, item, sort, name) -/
def d_State__put : FD := ⟨2, 4, [.set 2 (.idx (.var 1) (.lit (.int 0))), .set 3 (.idx (.var 1) (.lit (.int 1))), .ite (.cmp .eq (.var 2) (.lit (.str "relation"))) [.dput (.fld (.var 0) 0) (.var 3) (.tup [(.idx (.var 1) (.lit (.int 2))), (.idx (.var 1) (.lit (.int 3)))]), .ex (.dsetd (.fld (.var 0) 1) (.var 3) (.lst true []))] [.ite (.cmp .eq (.var 2) (.lit (.str "fact"))) [.ite (.not_ (.meth (.var 0) 4 [(.var 3), (.idx (.var 1) (.lit (.int 2)))])) [.ex (.bm .append false (.dsetd (.fld (.var 0) 1) (.var 3) (.lst true [])) [(.idx (.var 1) (.lit (.int 2)))])] []] [.ite (.cmp .eq (.var 2) (.lit (.str "structure"))) [.dput (.fld (.var 0) 2) (.var 3) (.tup [(.idx (.var 1) (.lit (.int 2))), (.idx (.var 1) (.lit (.int 3))), (.idx (.var 1) (.lit (.int 4))), (.idx (.var 1) (.lit (.int 5)))])] [.dput (.fld (.var 0) 3) (.var 3) (.idx (.var 1) (.lit (.int 2)))]]]], false, []⟩
/-- 6: states.State._take (self, key, sort, name, row, other) -/
def d_State__take : FD := ⟨2, 6, [.unp (.tp [(.nm 2), (.nm 3), (.nm 4)]) (.var 1), .ite (.cmp .eq (.var 2) (.lit (.int 0))) [.ex (.lit .non)] [.ite (.cmp .eq (.var 2) (.lit (.int 1))) [.dput (.fld (.var 0) 1) (.var 3) (.lc true (.var 5) (.nm 5) (.seq (.dget2 (.fld (.var 0) 1) (.var 3) (.lst false []))) (some (.cmp .ne (.var 5) (.var 4))) [5])] [.ite (.cmp .eq (.var 2) (.lit (.int 2))) [.ex (.lit .non)] [.ex (.lit .non)]]]], false, []⟩
/-- 7: states.State._order_facts (self, kept, name) -/
def d_State__order_facts : FD := ⟨1, 3, [.set 1 .dnew, .forK (.nm 2) 0 (some 1) [.ite (.bop false [(.mem false (.var 2) (.fld (.var 0) 0)), (.cmp .gt (.blt .len false [(.idx (.fld (.var 0) 1) (.var 2))]) (.lit (.int 0)))]) [.dput (.var 1) (.var 2) (.srk true (.idx (.fld (.var 0) 1) (.var 2)) 1)] []], .setf (.var 0) 1 (.var 1)], false, []⟩
/-- 8: states.State.all_items (self, found, name, row) -/
def d_State_all_items : FD := ⟨1, 4, [.set 1 (.lst true []), .for_ (.nm 2) (.seq (.dsrt false (.fld (.var 0) 0))) [.ex (.bm .append false (.var 1) [(.bin .add false (.tup [(.lit (.str "relation")), (.var 2)]) (.idx (.fld (.var 0) 0) (.var 2)))])], .for_ (.nm 2) (.seq (.dsrt false (.fld (.var 0) 1))) [.ex (.bm .extend false (.var 1) [(.lc false (.tup [(.lit (.str "fact")), (.var 2), (.var 3)]) (.nm 3) (.seq (.idx (.fld (.var 0) 1) (.var 2))) none [3])])], .for_ (.nm 2) (.seq (.dsrt false (.fld (.var 0) 2))) [.ex (.bm .append false (.var 1) [(.bin .add false (.tup [(.lit (.str "structure")), (.var 2)]) (.idx (.fld (.var 0) 2) (.var 2)))])], .for_ (.nm 2) (.seq (.dsrt false (.fld (.var 0) 3))) [.ex (.bm .append false (.var 1) [(.tup [(.lit (.str "layout")), (.var 2), (.idx (.fld (.var 0) 3) (.var 2))])])], .frzv 1, .ret (.var 1)], true, []⟩
/-- 9: states.State.has (self, relation, row) -/
def d_State_has : FD := ⟨3, 3, [.ret (.mem false (.var 2) (.dget2 (.fld (.var 0) 1) (.var 1) (.lst false [])))], false, []⟩
/-- 10: states.State.copy (self) -/
def d_State_copy : FD := ⟨1, 1, [.ret (.make 0 [(.meth (.var 0) 3 [])])], false, []⟩
/-- 11: states.State.change (self, changes, result, word, what) -/
def d_State_change : FD := ⟨2, 5, [.set 2 (.meth (.var 0) 5 []), .for_ (.tp [(.nm 3), (.nm 4)]) (.seq (.var 1)) [.ite (.cmp .eq (.var 3) (.lit (.str "comes"))) [.ex (.meth (.var 2) 0 [(.var 4)])] [.ex (.meth (.var 2) 1 [(.var 4)])]], .ex (.meth (.var 2) 2 []), .frzv 2, .ret (.var 2)], true, []⟩
/-- 12: states.State.same_schema (self, other) -/
def d_State_same_schema : FD := ⟨2, 2, [.ite (.bop false [(.cmp .ne (.fld (.var 0) 0) (.fld (.var 1) 0)), (.cmp .ne (.fld (.var 0) 2) (.fld (.var 1) 2))]) [.ret (.lit (.bl false))] [], .ret (.cmp .eq (.fld (.var 0) 3) (.fld (.var 1) 3))], true, []⟩
/-- 13: states.between (first, second, old, new, gone, changes, key, item) -/
def d_between : FD := ⟨2, 8, [.set 2 (.lit .non), .set 3 (.lit .non), .set 4 (.lc false (.var 6) (.nm 6) (.seq (.var 2)) (some (.mem true (.var 6) (.var 3))) [6]), .set 5 (.lc true (.tup [(.lit (.str "goes")), (.var 6)]) (.nm 6) (.seq (.srk false (.var 4) 3)) none [6]), .for_ (.nm 6) (.seq (.srk false (.var 3) 3)) [.ite (.bop false [(.mem true (.var 6) (.var 2)), (.cmp .ne (.idx (.var 2) (.var 6)) (.idx (.var 3) (.var 6)))]) [.ex (.bm .append false (.var 5) [(.tup [(.lit (.str "comes")), (.idx (.var 3) (.var 6))])])] []], .frzv 5, .ret (.var 5)], true, []⟩
/-- 14: codes.write_number (number, data) -/
def d_write_number : FD := ⟨1, 2, [.set 1 (.lst true []), .while_ 10000000 (.cmp .ge (.var 0) (.lit (.int 128))) [.ex (.bm .append false (.var 1) [(.bin .add false (.bin .mod false (.var 0) (.lit (.int 128))) (.lit (.int 128)))]), .set 0 (.bin .fdiv false (.var 0) (.lit (.int 128)))], .frzv 1, .ret (.bin .add true (.var 1) (.lst false [(.var 0)]))], false, []⟩
/-- 15: codes.write_integer (number) -/
def d_write_integer : FD := ⟨1, 1, [.ret (.bin .add false (.lst false [(.blt .int_ false [(.cmp .lt (.var 0) (.lit (.int 0)))])]) (.frz (.call 14 [(.blt .abs_ false [(.var 0)])])))], true, []⟩
/-- 16: codes.write_list (items, data, item) -/
def d_write_list : FD := ⟨1, 3, [.set 1 (.call 14 [(.blt .len false [(.var 0)])]), .for_ (.nm 2) (.seq (.var 0)) [.ex (.bm .extend false (.var 1) [(.var 2)])], .frzv 1, .ret (.var 1)], true, []⟩
/-- 17: codes.write_string (text, character) -/
def d_write_string : FD := ⟨1, 2, [.ret (.call 16 [(.lc false (.frz (.call 14 [(.blt .ord_ false [(.var 1)])])) (.nm 1) (.seq (.var 0)) none [1])])], true, []⟩
/-- 18: codes.write_names (names, name) -/
def d_write_names : FD := ⟨1, 2, [.ret (.call 16 [(.lc false (.call 17 [(.var 1)]) (.nm 1) (.seq (.var 0)) none [1])])], true, []⟩
/-- 19: codes.write_value (value) -/
def d_write_value : FD := ⟨1, 1, [.ite (.isi .int_ (.var 0)) [.ret (.bin .add false (.lst false [(.lit (.int 0))]) (.call 15 [(.var 0)]))] [], .ret (.bin .add false (.lst false [(.lit (.int 1))]) (.call 17 [(.var 0)]))], true, []⟩
/-- 20: codes.write_row (row, value) -/
def d_write_row : FD := ⟨1, 2, [.ret (.call 16 [(.lc false (.call 19 [(.var 1)]) (.nm 1) (.seq (.var 0)) none [1])])], true, []⟩
/-- 21: codes.write_item (item, data) -/
def d_write_item : FD := ⟨1, 2, [.set 1 (.bin .add false (.lst false [(.kidx 0 (.idx (.var 0) (.lit (.int 0))))]) (.call 17 [(.idx (.var 0) (.lit (.int 1)))])), .ite (.cmp .eq (.idx (.var 0) (.lit (.int 0))) (.lit (.str "relation"))) [.ret (.bin .add false (.bin .add false (.var 1) (.call 18 [(.idx (.var 0) (.lit (.int 2)))])) (.frz (.call 14 [(.idx (.var 0) (.lit (.int 3)))])))] [], .ite (.cmp .eq (.idx (.var 0) (.lit (.int 0))) (.lit (.str "fact"))) [.ret (.bin .add false (.var 1) (.call 20 [(.idx (.var 0) (.lit (.int 2)))]))] [], .ite (.cmp .eq (.idx (.var 0) (.lit (.int 0))) (.lit (.str "structure"))) [.set 1 (.bin .add false (.bin .add false (.var 1) (.call 17 [(.idx (.var 0) (.lit (.int 2)))])) (.call 18 [(.idx (.var 0) (.lit (.int 3)))])), .ret (.bin .add false (.bin .add false (.var 1) (.frz (.call 14 [(.idx (.var 0) (.lit (.int 4)))]))) (.frz (.call 14 [(.idx (.var 0) (.lit (.int 5)))])))] [], .ret (.bin .add false (.var 1) (.call 18 [(.idx (.var 0) (.lit (.int 2)))]))], true, []⟩
/-- 22: codes.write_change (change, word, what, sort, name, row) -/
def d_write_change : FD := ⟨1, 6, [.unp (.tp [(.nm 1), (.nm 2)]) (.var 0), .ite (.cmp .eq (.var 1) (.lit (.str "comes"))) [.ret (.bin .add false (.lst false [(.lit (.int 0))]) (.call 21 [(.var 2)]))] [], .unp (.tp [(.nm 3), (.nm 4), (.nm 5)]) (.var 2), .ret (.bin .add false (.bin .add false (.bin .add false (.lst false [(.lit (.int 1))]) (.frz (.call 14 [(.var 3)]))) (.call 17 [(.var 4)])) (.call 20 [(.var 5)]))], true, []⟩
/-- 23: codes.write_changes (changes, change) -/
def d_write_changes : FD := ⟨1, 2, [.ret (.call 16 [(.lc false (.call 22 [(.var 1)]) (.nm 1) (.seq (.var 0)) none [1])])], true, []⟩
/-- 24: codes.write_image (commits, state, item) -/
def d_write_image : FD := ⟨2, 3, [.ret (.bin .add false (.frz (.call 14 [(.var 0)])) (.call 16 [(.lc false (.call 21 [(.var 2)]) (.nm 2) (.seq (.meth (.var 1) 3 [])) none [2])]))], true, []⟩
/-- 25: codes.Reader.__init__ (self, data) -/
def d_Reader___init__ : FD := ⟨2, 2, [.setf (.var 0) 11 (.blt .list_ false [(.var 1)]), .setf (.var 0) 12 (.lit (.int 0))], false, []⟩
/-- 26: codes.Reader.read_byte (self) -/
def d_Reader_read_byte : FD := ⟨1, 1, [.ite (.cmp .ge (.fld (.var 0) 12) (.blt .len false [(.fld (.var 0) 11)])) [.ex (.lit .non)] [], .augf (.var 0) 12 .add (.lit (.int 1)), .ret (.idx (.fld (.var 0) 11) (.bin .sub false (.fld (.var 0) 12) (.lit (.int 1))))], false, []⟩
/-- 27: codes.Reader.read_choice (self, count, byte) -/
def d_Reader_read_choice : FD := ⟨2, 3, [.set 2 (.meth (.var 0) 8 []), .ite (.cmp .ge (.var 2) (.var 1)) [.ex (.lit .non)] [], .ret (.var 2)], false, []⟩
/-- 28: codes.Reader.end (self) -/
def d_Reader_end : FD := ⟨1, 1, [.ite (.cmp .lt (.fld (.var 0) 12) (.blt .len false [(.fld (.var 0) 11)])) [.ex (.lit .non)] []], true, []⟩
/-- 29: codes.Reader.read_number (self, total, factor, index, byte) -/
def d_Reader_read_number : FD := ⟨1, 5, [.set 1 (.lit (.int 0)), .set 2 (.lit (.int 1)), .for_ (.nm 3) (.rng1 (.glb 3)) [.set 4 (.meth (.var 0) 8 []), .aug 1 .add (.bin .mul false (.bin .mod false (.var 4) (.lit (.int 128))) (.var 2)), .ite (.cmp .lt (.var 4) (.lit (.int 128))) [.ite (.bop true [(.cmp .eq (.var 4) (.lit (.int 0))), (.cmp .gt (.var 3) (.lit (.int 0)))]) [.ex (.lit .non)] [], .ret (.var 1)] [], .set 2 (.bin .mul false (.var 2) (.lit (.int 128)))], .ex (.lit .non)], false, []⟩
/-- 30: codes.Reader.read_integer (self, is_negative, number) -/
def d_Reader_read_integer : FD := ⟨1, 3, [.set 1 (.cmp .eq (.meth (.var 0) 9 [(.lit (.int 2))]) (.lit (.int 1))), .set 2 (.meth (.var 0) 11 []), .ite (.bop true [(.var 1), (.cmp .eq (.var 2) (.lit (.int 0)))]) [.ex (.lit .non)] [], .ret (.ife (.var 1) (.neg (.var 2)) (.var 2))], false, []⟩
/-- 31: codes.Reader.read_count (self, count) -/
def d_Reader_read_count : FD := ⟨1, 2, [.set 1 (.meth (.var 0) 11 []), .ite (.cmp .gt (.var 1) (.bin .sub false (.blt .len false [(.fld (.var 0) 11)]) (.fld (.var 0) 12))) [.ex (.lit .non)] [], .ret (.var 1)], false, []⟩
/-- 32: codes.Reader.read_character (self, code) -/
def d_Reader_read_character : FD := ⟨1, 2, [.set 1 (.meth (.var 0) 11 []), .ite (.cmp2 .le .lt (.lit (.int 32)) (.var 1) (.lit (.int 37))) [.ret (.idx (.glb 1) (.bin .sub false (.var 1) (.lit (.int 32))))] [], .ite (.cmp2 .le .lt (.lit (.int 38)) (.var 1) (.lit (.int 127))) [.ret (.idx (.glb 2) (.bin .sub false (.var 1) (.lit (.int 38))))] [], .ex (.lit .non)], false, []⟩
/-- 33: codes.Reader.read_string (self, _) -/
def d_Reader_read_string : FD := ⟨1, 2, [.ret (.bm .join false (.lit (.str "")) [(.lc false (.meth (.var 0) 14 []) (.nm 1) (.rng1 (.meth (.var 0) 13 [])) none [1])])], false, []⟩
/-- 34: codes.Reader.read_names (self, _) -/
def d_Reader_read_names : FD := ⟨1, 2, [.ret (.blt .tuple_ false [(.lc false (.meth (.var 0) 15 []) (.nm 1) (.rng1 (.meth (.var 0) 13 [])) none [1])])], false, []⟩
/-- 35: codes.Reader.read_value (self) -/
def d_Reader_read_value : FD := ⟨1, 1, [.ite (.cmp .eq (.meth (.var 0) 9 [(.lit (.int 2))]) (.lit (.int 0))) [.ret (.meth (.var 0) 12 [])] [], .ret (.meth (.var 0) 15 [])], false, []⟩
/-- 36: codes.Reader.read_row (self, _) -/
def d_Reader_read_row : FD := ⟨1, 2, [.ret (.blt .tuple_ false [(.lc false (.meth (.var 0) 17 []) (.nm 1) (.rng1 (.meth (.var 0) 13 [])) none [1])])], false, []⟩
/-- 37: codes.Reader.read_item (self, sort, name, columns, relation, buckets) -/
def d_Reader_read_item : FD := ⟨1, 6, [.set 1 (.idx (.glb 0) (.meth (.var 0) 9 [(.blt .len false [(.glb 0)])])), .set 2 (.meth (.var 0) 15 []), .ite (.cmp .eq (.var 1) (.lit (.str "relation"))) [.set 3 (.meth (.var 0) 16 []), .ret (.tup [(.var 1), (.var 2), (.var 3), (.meth (.var 0) 11 [])])] [], .ite (.cmp .eq (.var 1) (.lit (.str "fact"))) [.ret (.tup [(.var 1), (.var 2), (.meth (.var 0) 18 [])])] [], .ite (.cmp .eq (.var 1) (.lit (.str "structure"))) [.set 4 (.meth (.var 0) 15 []), .set 3 (.meth (.var 0) 16 []), .set 5 (.meth (.var 0) 11 []), .ret (.tup [(.var 1), (.var 2), (.var 4), (.var 3), (.var 5), (.meth (.var 0) 11 [])])] [], .ret (.tup [(.var 1), (.var 2), (.meth (.var 0) 16 [])])], false, []⟩
/-- 38: codes.Reader.read_change (self, sort, name) -/
def d_Reader_read_change : FD := ⟨1, 3, [.ite (.cmp .eq (.meth (.var 0) 9 [(.lit (.int 2))]) (.lit (.int 0))) [.ret (.tup [(.lit (.str "comes")), (.meth (.var 0) 19 [])])] [], .set 1 (.meth (.var 0) 9 [(.blt .len false [(.glb 0)])]), .set 2 (.meth (.var 0) 15 []), .ret (.tup [(.lit (.str "goes")), (.tup [(.var 1), (.var 2), (.meth (.var 0) 18 [])])])], false, []⟩
/-- 39: codes.Reader.read_changes (self, _) -/
def d_Reader_read_changes : FD := ⟨1, 2, [.ret (.lc false (.meth (.var 0) 20 []) (.nm 1) (.rng1 (.meth (.var 0) 13 [])) none [1])], false, []⟩
/-- 40: codes.Reader.read_image (self, commits, items, _) -/
def d_Reader_read_image : FD := ⟨1, 4, [.set 1 (.meth (.var 0) 11 []), .set 2 (.lc false (.meth (.var 0) 19 []) (.nm 3) (.rng1 (.meth (.var 0) 13 [])) none [3]), .ret (.tup [(.var 1), (.make 0 [(.var 2)])])], false, []⟩
/-- 41: blocks.fixed (number, count, data, _) -/
def d_fixed : FD := ⟨2, 4, [.set 2 (.lst true []), .for_ (.nm 3) (.rng1 (.var 1)) [.ex (.bm .append false (.var 2) [(.bin .mod false (.var 0) (.lit (.int 256)))]), .set 0 (.bin .fdiv false (.var 0) (.lit (.int 256)))], .frzv 2, .ret (.rev false (.var 2))], true, []⟩
/-- 42: blocks.number_of (data, total, byte) -/
def d_number_of : FD := ⟨1, 3, [.set 1 (.lit (.int 0)), .for_ (.nm 2) (.seq (.var 0)) [.set 1 (.bin .add false (.bin .mul false (.lit (.int 256)) (.var 1)) (.var 2))], .ret (.var 1)], true, []⟩
/-- 43: blocks.turn_of (sector) -/
def d_turn_of : FD := ⟨1, 1, [.ret (.call 42 [(.slc false (.var 0) none (some (.lit (.int 6))))])], true, []⟩
/-- 44: blocks.write_block (turn, data, content, pieces, front, start, piece) -/
def d_write_block : FD := ⟨2, 7, [.set 2 (.bin .add false (.call 41 [(.blt .len false [(.var 1)]), (.lit (.int 4))]) (.blt .list_ false [(.var 1)])), .set 3 (.lc false (.slc false (.var 2) (some (.var 5)) (some (.bin .add false (.var 5) (.glb 4)))) (.nm 5) (.rng3 (.lit (.int 0)) (.blt .len false [(.var 2)]) (.glb 4)) none [5]), .set 4 (.bin .add false (.call 41 [(.var 0), (.lit (.int 6))]) (.call 41 [(.blt .len false [(.var 3)]), (.lit (.int 4))])), .ret (.lc false (.bin .add false (.bin .add false (.var 4) (.var 6)) (.bin .mul false (.lst false [(.lit (.int 0))]) (.bin .sub false (.glb 4) (.blt .len false [(.var 6)])))) (.nm 6) (.seq (.var 3)) none [6])], true, []⟩
/-- 45: blocks.read_block (sectors, turn, count, content, sector, size) -/
def d_read_block : FD := ⟨2, 6, [.ite (.cmp .eq (.blt .len false [(.var 0)]) (.lit (.int 0))) [.ret (.lit .non)] [], .set 2 (.call 42 [(.slc false (.idx (.var 0) (.lit (.int 0))) (some (.lit (.int 6))) (some (.lit (.int 10))))]), .ite (.not_ (.cmp2 .le .le (.lit (.int 1)) (.var 2) (.blt .len false [(.var 0)]))) [.ret (.lit .non)] [], .set 3 (.lst false []), .for_ (.nm 4) (.seq (.slc false (.var 0) none (some (.var 2)))) [.ite (.cmp .ne (.call 43 [(.var 4)]) (.var 1)) [.ret (.lit .non)] [], .set 3 (.bin .add false (.var 3) (.slc false (.var 4) (some (.lit (.int 10))) none))], .set 5 (.call 42 [(.slc false (.var 3) none (some (.lit (.int 4))))]), .ite (.cmp .gt (.var 5) (.bin .sub false (.blt .len false [(.var 3)]) (.lit (.int 4)))) [.ret (.lit .non)] [], .ret (.tup [(.slc false (.var 3) (some (.lit (.int 4))) (some (.bin .add false (.lit (.int 4)) (.var 5)))), (.var 2)])], true, []⟩
/-- 46: blocks.region_start (size) -/
def d_region_start : FD := ⟨1, 1, [.ret (.bin .sub false (.var 0) (.bin .fdiv false (.bin .sub false (.var 0) (.lit (.int 2))) (.lit (.int 2))))], true, []⟩
/-- 47: blocks.area_size (size) -/
def d_area_size : FD := ⟨1, 1, [.ret (.bin .fdiv false (.bin .sub false (.call 46 [(.var 0)]) (.lit (.int 2))) (.lit (.int 2)))], true, []⟩
/-- 48: blocks.area_start (size, area) -/
def d_area_start : FD := ⟨2, 2, [.ret (.bin .add false (.lit (.int 2)) (.bin .mul false (.var 1) (.call 47 [(.var 0)])))], true, []⟩
/-- 49: blocks.head (turn, area) -/
def d_head : FD := ⟨2, 2, [.ret (.bin .add false (.bin .add false (.kcat 5 false (.call 41 [(.var 0), (.lit (.int 6))])) (.lst false [(.var 1)])) (.bin .mul false (.lst false [(.lit (.int 0))]) (.glb 6)))], true, []⟩
/-- 50: blocks.read_head (sector, turn, area) -/
def d_read_head : FD := ⟨1, 3, [.set 1 (.call 42 [(.slc false (.var 0) (some (.lit (.int 4))) (some (.lit (.int 10))))]), .set 2 (.idx (.var 0) (.lit (.int 10))), .ite (.bop false [(.cmp .lt (.var 1) (.lit (.int 1))), (.cmp .gt (.var 2) (.lit (.int 1))), (.cmp .ne (.var 0) (.call 49 [(.var 1), (.var 2)]))]) [.ret (.lit .non)] [], .ret (.tup [(.var 1), (.var 2)])], true, []⟩
/-- 51: blocks.counting_head (disk, found, place, told) -/
def d_counting_head : FD := ⟨1, 4, [.set 1 (.lit .non), .for_ (.nm 2) (.rng1 (.lit (.int 2))) [.set 3 (.call 50 [(.meth (.var 0) 62 [(.var 2)])]), .ite (.bop true [(.isn true (.var 3)), (.bop false [(.isn false (.var 1)), (.cmp .gt (.idx (.var 3) (.lit (.int 0))) (.idx (.var 1) (.lit (.int 1))))])]) [.set 1 (.tup [(.var 2), (.idx (.var 3) (.lit (.int 0))), (.idx (.var 3) (.lit (.int 1)))])] []], .ret (.var 1)], true, []⟩
/-- 52: blocks.area_sectors (disk, area, start, index) -/
def d_area_sectors : FD := ⟨2, 4, [.set 2 (.call 48 [(.meth (.var 0) 61 []), (.var 1)]), .ret (.lc false (.meth (.var 0) 62 [(.bin .add false (.var 2) (.var 3))]) (.nm 3) (.rng1 (.call 47 [(.meth (.var 0) 61 [])])) none [3])], true, []⟩
/-- 53: blocks.found (disk, told, sectors, block, place, turn, area, data, used, commits, state, count) -/
def d_found : FD := ⟨1, 12, [.set 1 (.call 51 [(.var 0)]), .ite (.isn false (.var 1)) [.ret (.lit .non)] [], .unp (.tp [(.nm 4), (.nm 5), (.nm 6)]) (.var 1), .set 2 (.call 52 [(.var 0), (.var 6)]), .unp (.tp [(.nm 7), (.nm 8)]) (.call 45 [(.var 2), (.var 5)]), .unp (.tp [(.nm 9), (.nm 10)]) (.meth (.make 2 [(.var 7)]) 22 []), .set 3 (.call 45 [(.slc false (.var 2) (some (.var 8)) none), (.var 5)]), .while_ 10000000 (.isn true (.var 3)) [.unp (.tp [(.nm 7), (.nm 11)]) (.var 3), .set 10 (.meth (.var 10) 6 [(.meth (.make 2 [(.var 7)]) 21 [])]), .aug 9 .add (.lit (.int 1)), .aug 8 .add (.var 11), .set 3 (.call 45 [(.slc false (.var 2) (some (.var 8)) none), (.var 5)])], .ret (.tup [(.var 4), (.var 5), (.var 6), (.var 9), (.var 10)])], true, []⟩
/-- 54: shapes._sector (count, data) -/
def d__sector : FD := ⟨2, 2, [.ret (.bin .add false (.bin .add false (.lst false [(.var 0)]) (.var 1)) (.bin .mul false (.lst false [(.lit (.int 0))]) (.bin .sub false (.bin .sub false (.glb 7) (.lit (.int 1))) (.blt .len false [(.var 1)]))))], true, []⟩
/-- 55: shapes.pack (rows, sectors, count, data, row, code) -/
def d_pack : FD := ⟨1, 6, [.set 1 (.lst true []), .set 2 (.lit (.int 0)), .set 3 (.lst false []), .for_ (.nm 4) (.seq (.var 0)) [.set 5 (.call 20 [(.var 4)]), .ite (.cmp .gt (.blt .len false [(.var 5)]) (.bin .sub false (.glb 7) (.lit (.int 1)))) [.ret (.lit .non)] [], .ite (.cmp .gt (.bin .add false (.blt .len false [(.var 3)]) (.blt .len false [(.var 5)])) (.bin .sub false (.glb 7) (.lit (.int 1)))) [.ex (.bm .append false (.var 1) [(.call 54 [(.var 2), (.var 3)])]), .set 2 (.lit (.int 0)), .set 3 (.lst false [])] [], .aug 2 .add (.lit (.int 1)), .set 3 (.bin .add false (.var 3) (.var 5))], .ite (.cmp .gt (.var 2) (.lit (.int 0))) [.ex (.bm .append false (.var 1) [(.call 54 [(.var 2), (.var 3)])])] [], .frzv 1, .ret (.var 1)], true, []⟩
/-- 56: shapes.bucket_of_values (values, buckets, total, byte) -/
def d_bucket_of_values : FD := ⟨2, 4, [.set 2 (.lit (.int 0)), .for_ (.nm 3) (.seq (.call 20 [(.var 0)])) [.set 2 (.bin .mod false (.bin .add false (.bin .add false (.bin .mul false (.lit (.int 31)) (.var 2)) (.var 3)) (.lit (.int 1))) (.var 1))], .ret (.var 2)], true, []⟩
/-- 57: shapes.values_of (state, structure, row, names, relation, columns, _, column) -/
def d_values_of : FD := ⟨3, 8, [.unp (.tp [(.nm 4), (.nm 5), (.nm 6), (.nm 6)]) (.idx (.fld (.var 0) 2) (.var 1)), .set 3 (.idx (.idx (.fld (.var 0) 0) (.var 4)) (.lit (.int 0))), .ret (.blt .tuple_ false [(.lc false (.idx (.var 2) (.bm .index false (.var 3) [(.var 7)])) (.nm 7) (.seq (.var 5)) none [7])])], true, []⟩
/-- 58: shapes.bucket (state, structure, row) -/
def d_bucket : FD := ⟨3, 3, [.ret (.call 56 [(.call 57 [(.var 0), (.var 1), (.var 2)]), (.idx (.idx (.fld (.var 0) 2) (.var 1)) (.lit (.int 2)))])], true, []⟩
/-- 59: shapes._filled (rows, room, used, _) -/
def d__filled : FD := ⟨2, 4, [.set 2 (.call 55 [(.var 0)]), .ite (.bop false [(.isn false (.var 2)), (.cmp .gt (.blt .len false [(.var 2)]) (.var 1))]) [.ret (.lit .non)] [], .ret (.bin .add false (.var 2) (.lc false (.blt .list_ false [(.glb 8)]) (.nm 3) (.rng1 (.bin .sub false (.var 1) (.blt .len false [(.var 2)]))) none [3]))], true, []⟩
/-- 60: shapes.relation_shape (state, name) -/
def d_relation_shape : FD := ⟨2, 2, [.ret (.call 59 [(.idx (.fld (.var 0) 1) (.var 1)), (.idx (.idx (.fld (.var 0) 0) (.var 1)) (.lit (.int 1)))])], true, []⟩
/-- 61: shapes.rows_of_buckets (state, name, rows, row, relation, _, buckets) -/
def d_rows_of_buckets : FD := ⟨2, 7, [.unp (.tp [(.nm 4), (.nm 5), (.nm 6), (.nm 5)]) (.idx (.fld (.var 0) 2) (.var 1)), .set 2 (.lc true (.lst false []) (.nm 5) (.rng1 (.var 6)) none [5]), .for_ (.nm 3) (.seq (.idx (.fld (.var 0) 1) (.var 4))) [.ex (.bm .append false (.idx (.var 2) (.call 58 [(.var 0), (.var 1), (.var 3)])) [(.var 3)])], .frzv 2, .ret (.var 2)], true, []⟩
/-- 62: shapes.structure_shape (state, name, sectors, rows, found) -/
def d_structure_shape : FD := ⟨2, 5, [.set 2 (.lst true []), .for_ (.nm 3) (.seq (.call 61 [(.var 0), (.var 1)])) [.set 4 (.call 59 [(.var 3), (.idx (.idx (.fld (.var 0) 2) (.var 1)) (.lit (.int 3)))]), .ite (.isn false (.var 4)) [.ret (.lit .non)] [], .ex (.bm .extend false (.var 2) [(.var 4)])], .frzv 2, .ret (.var 2)], true, []⟩
/-- 63: shapes.rooms (state, found, name, _, buckets, sectors) -/
def d_rooms : FD := ⟨1, 6, [.set 1 (.lc true (.tup [(.tup [(.lit (.str "relation")), (.var 2)]), (.idx (.idx (.fld (.var 0) 0) (.var 2)) (.lit (.int 1)))]) (.nm 2) (.seq (.dsrt false (.fld (.var 0) 0))) none [2]), .for_ (.nm 2) (.seq (.dsrt false (.fld (.var 0) 2))) [.unp (.tp [(.nm 3), (.nm 3), (.nm 4), (.nm 5)]) (.idx (.fld (.var 0) 2) (.var 2)), .ex (.bm .append false (.var 1) [(.tup [(.tup [(.lit (.str "structure")), (.var 2)]), (.bin .mul false (.var 4) (.var 5))])])], .frzv 1, .ret (.var 1)], true, []⟩
/-- 64: shapes.places (state, found, start, name, room) -/
def d_places : FD := ⟨1, 5, [.set 1 .dnew, .set 2 (.lit (.int 0)), .for_ (.tp [(.nm 3), (.nm 4)]) (.seq (.call 63 [(.var 0)])) [.dput (.var 1) (.var 3) (.var 2), .aug 2 .add (.var 4)], .frzv 1, .ret (.var 1)], true, []⟩
/-- 65: shapes.room_needed (state, _, room) -/
def d_room_needed : FD := ⟨1, 3, [.ret (.blt .sum_ false [(.lc false (.var 2) (.tp [(.nm 1), (.nm 2)]) (.seq (.call 63 [(.var 0)])) none [1, 2])])], true, []⟩
/-- 66: costs.offered (state, name) -/
def d_offered : FD := ⟨1, 2, [.ite (.not_ (.fld (.var 0) 3)) [.ret (.lst false [(.tup [])])] [], .ret (.lc false (.idx (.fld (.var 0) 3) (.var 1)) (.nm 1) (.seq (.dsrt false (.fld (.var 0) 3))) none [1])], true, []⟩
/-- 67: costs.used_of_relation (state, name) -/
def d_used_of_relation : FD := ⟨2, 2, [.ret (.blt .len false [(.call 55 [(.dget2 (.fld (.var 0) 1) (.var 1) (.lst false []))])])], true, []⟩
/-- 68: costs.used_of_bucket (state, name, place, rows, row) -/
def d_used_of_bucket : FD := ⟨3, 5, [.set 3 (.dget2 (.fld (.var 0) 1) (.idx (.idx (.fld (.var 0) 2) (.var 1)) (.lit (.int 0))) (.lst false [])), .ret (.blt .len false [(.call 55 [(.lc false (.var 4) (.nm 4) (.seq (.var 3)) (some (.cmp .eq (.call 58 [(.var 0), (.var 1), (.var 4)]) (.var 2))) [4])])])], true, []⟩
/-- 69: costs.pattern_values (state, name, call, columns, values, column) -/
def d_pattern_values : FD := ⟨3, 6, [.set 3 (.idx (.idx (.fld (.var 0) 0) (.idx (.var 2) (.lit (.int 0)))) (.lit (.int 0))), .set 4 (.blt .tuple_ false [(.lc false (.idx (.idx (.var 2) (.lit (.int 1))) (.bm .index false (.var 3) [(.var 5)])) (.nm 5) (.seq (.idx (.idx (.fld (.var 0) 2) (.var 1)) (.lit (.int 1)))) none [5])]), .ite (.mem false (.lit .non) (.var 4)) [.ret (.lit .non)] [], .ret (.var 4)], true, []⟩
/-- 70: costs.read_sectors (state, layout, call, place, first, count, name, values, relation, _, buckets, sectors, index, used, k) -/
def d_read_sectors : FD := ⟨3, 15, [.ite (.bop false [(.mem true (.idx (.var 2) (.lit (.int 0))) (.fld (.var 0) 0)), (.cmp .ne (.blt .len false [(.idx (.var 2) (.lit (.int 1)))]) (.blt .len false [(.idx (.idx (.fld (.var 0) 0) (.idx (.var 2) (.lit (.int 0)))) (.lit (.int 0)))]))]) [.ret (.lst false [])] [], .set 3 (.tup [(.lit (.str "relation")), (.idx (.var 2) (.lit (.int 0)))]), .set 4 (.lit (.int 0)), .set 5 (.call 67 [(.var 0), (.idx (.var 2) (.lit (.int 0)))]), .for_ (.nm 6) (.seq (.lit .non)) [.unp (.tp [(.nm 8), (.nm 9), (.nm 10), (.nm 11)]) (.idx (.fld (.var 0) 2) (.var 6)), .ite (.cmp .ne (.var 8) (.idx (.var 2) (.lit (.int 0)))) [.cont] [], .set 7 (.call 69 [(.var 0), (.var 6), (.var 2)]), .ite (.isn true (.var 7)) [.set 12 (.call 56 [(.var 7), (.var 10)]), .set 13 (.call 68 [(.var 0), (.var 6), (.var 12)]), .ite (.cmp .lt (.var 13) (.var 5)) [.set 3 (.tup [(.lit (.str "structure")), (.var 6)]), .set 4 (.bin .mul false (.var 12) (.var 11)), .set 5 (.var 13)] []] []], .ret (.lc false (.tup [(.var 3), (.bin .add false (.var 4) (.var 14))]) (.nm 14) (.rng1 (.var 5)) none [14])], true, []⟩
/-- 71: costs.all_read (state, layout, calls, found, call, sector) -/
def d_all_read : FD := ⟨3, 6, [.set 3 .dnew, .for_ (.nm 4) (.seq (.var 2)) [.for_ (.nm 5) (.seq (.call 70 [(.var 0), (.var 1), (.var 4)])) [.dput (.var 3) (.var 5) (.lit (.bl true))]], .frzv 3, .ret (.dsrt false (.var 3))], true, []⟩
/-- 72: costs.differing (place, before, after, index) -/
def d_differing : FD := ⟨3, 4, [.ret (.lc false (.tup [(.var 0), (.var 3)]) (.nm 3) (.rng1 (.blt .len false [(.var 2)])) (some (.cmp .ne (.idx (.var 1) (.var 3)) (.idx (.var 2) (.var 3)))) [3])], true, []⟩
/-- 73: costs.written (before, after, layout, found, name, relation) -/
def d_written : FD := ⟨3, 6, [.set 3 (.lst true []), .for_ (.nm 4) (.seq (.dsrt false (.fld (.var 0) 0))) [.ite (.cmp .ne (.dget2 (.fld (.var 0) 1) (.var 4) (.lst false [])) (.dget2 (.fld (.var 1) 1) (.var 4) (.lst false []))) [.ex (.bm .extend false (.var 3) [(.call 72 [(.tup [(.lit (.str "relation")), (.var 4)]), (.call 60 [(.var 0), (.var 4)]), (.call 60 [(.var 1), (.var 4)])])])] []], .for_ (.nm 4) (.seq (.lit .non)) [.set 5 (.idx (.idx (.fld (.var 0) 2) (.var 4)) (.lit (.int 0))), .ite (.cmp .ne (.dget2 (.fld (.var 0) 1) (.var 5) (.lst false [])) (.dget2 (.fld (.var 1) 1) (.var 5) (.lst false []))) [.ex (.bm .extend false (.var 3) [(.call 72 [(.tup [(.lit (.str "structure")), (.var 4)]), (.call 62 [(.var 0), (.var 4)]), (.call 62 [(.var 1), (.var 4)])])])] []], .frzv 3, .ret (.var 3)], true, []⟩
/-- 74: costs.cost (before, after, layout, calls) -/
def d_cost : FD := ⟨4, 4, [.ret (.bin .add false (.blt .len false [(.call 71 [(.var 0), (.var 2), (.var 3)])]) (.blt .len false [(.call 73 [(.var 0), (.var 1), (.var 2)])]))], true, []⟩
/-- 75: costs.excesses (before, after, calls, costs, least, layout, one) -/
def d_excesses : FD := ⟨3, 7, [.set 3 (.lc false (.call 74 [(.var 0), (.var 1), (.var 5), (.var 2)]) (.nm 5) (.seq (.call 66 [(.var 0)])) none [5]), .set 4 (.blt .min1 false [(.var 3)]), .ret (.lc false (.bin .sub false (.var 6) (.var 4)) (.nm 6) (.seq (.var 3)) none [6])], true, []⟩
/-- 76: costs.laying (state, structure, relation, _, buckets, sectors) -/
def d_laying : FD := ⟨2, 6, [.unp (.tp [(.nm 2), (.nm 3), (.nm 4), (.nm 5)]) (.idx (.fld (.var 0) 2) (.var 1)), .ret (.bin .add false (.idx (.idx (.fld (.var 0) 0) (.var 2)) (.lit (.int 1))) (.bin .mul false (.var 4) (.var 5)))], true, []⟩
/-- 77: costs.stands (state, layout, name) -/
def d_stands : FD := ⟨2, 3, [.ret (.blt .sum_ false [(.lc false (.call 76 [(.var 0), (.var 2)]) (.nm 2) (.seq (.var 1)) none [2])])], true, []⟩
/-- 78: costs.going (state, first, second, name) -/
def d_going : FD := ⟨3, 4, [.ret (.blt .sum_ false [(.lc false (.call 76 [(.var 0), (.var 3)]) (.nm 3) (.seq (.var 2)) (some (.mem true (.var 3) (.var 1))) [3])])], true, []⟩
/-- 79: costs.way (state, first, second) -/
def d_way : FD := ⟨3, 3, [.ret (.bin .add false (.call 78 [(.var 0), (.var 1), (.var 2)]) (.call 78 [(.var 0), (.var 2), (.var 1)]))], true, []⟩
/-- 80: policy.next_works (works, task, ways, count, served, x, s) -/
def d_next_works : FD := ⟨3, 7, [.set 3 (.blt .len false [(.var 0)]), .set 4 (.lc false (.bin .add false (.idx (.var 0) (.var 5)) (.bin .mul false (.lit (.int 2)) (.idx (.var 1) (.var 5)))) (.nm 5) (.rng1 (.var 3)) none [5]), .ret (.lc false (.blt .min1 false [(.lc false (.bin .add false (.idx (.var 4) (.var 5)) (.idx (.idx (.var 2) (.var 5)) (.var 6))) (.nm 5) (.rng1 (.var 3)) none [5])]) (.nm 6) (.rng1 (.var 3)) none [6])], true, []⟩
/-- 81: policy.first_least (sums) -/
def d_first_least : FD := ⟨1, 1, [.ret (.bm .index false (.var 0) [(.blt .min1 false [(.var 0)])])], true, []⟩
/-- 82: policy.Policy.__init__ (self, start, stands, ways, row) -/
def d_Policy___init__ : FD := ⟨4, 5, [.setf (.var 0) 4 (.var 1), .setf (.var 0) 5 (.blt .list_ false [(.var 2)]), .setf (.var 0) 6 (.lc false (.blt .list_ false [(.var 4)]) (.nm 4) (.seq (.var 3)) none [4]), .setf (.var 0) 7 (.var 1), .setf (.var 0) 8 (.lit (.int 0)), .setf (.var 0) 9 (.lst true []), .setf (.var 0) 10 (.lst true [(.blt .list_ false [(.idx (.fld (.var 0) 6) (.var 1))])])], false, []⟩
/-- 83: policy.Policy.going (self, first, second) -/
def d_Policy_going : FD := ⟨3, 3, [.ret (.bin .fdiv false (.bin .sub false (.bin .add false (.idx (.idx (.fld (.var 0) 6) (.var 1)) (.var 2)) (.idx (.fld (.var 0) 5) (.var 2))) (.idx (.fld (.var 0) 5) (.var 1))) (.lit (.int 2)))], true, []⟩
/-- 84: policy.Policy.serve (self, task, works, count, sums, goal, x) -/
def d_Policy_serve : FD := ⟨2, 7, [.set 1 (.blt .list_ false [(.var 1)]), .set 2 (.idx (.fld (.var 0) 10) (.neg (.lit (.int 1)))), .set 3 (.blt .len false [(.var 2)]), .set 4 (.lc false (.bin .add false (.bin .add false (.idx (.var 2) (.var 6)) (.bin .mul false (.lit (.int 2)) (.idx (.var 1) (.var 6)))) (.idx (.idx (.fld (.var 0) 6) (.var 6)) (.fld (.var 0) 7))) (.nm 6) (.rng1 (.var 3)) none [6]), .set 5 (.fld (.var 0) 7), .ite (.cmp .lt (.blt .min1 false [(.var 4)]) (.idx (.var 4) (.fld (.var 0) 7))) [.set 5 (.call 81 [(.var 4)])] [], .augf (.var 0) 8 .add (.bin .add false (.meth (.var 0) 23 [(.fld (.var 0) 7), (.var 5)]) (.idx (.var 1) (.var 5))), .setf (.var 0) 7 (.var 5), .ex (.bm .append false (.fld (.var 0) 9) [(.var 1)]), .ex (.bm .append false (.fld (.var 0) 10) [(.call 80 [(.var 2), (.var 1), (.fld (.var 0) 6)])]), .ret (.var 5)], false, []⟩
/-- 85: policy.Policy.hindsight (self, count, ends, place, plan, index, works, task, s, x) -/
def d_Policy_hindsight : FD := ⟨1, 10, [.set 1 (.blt .len false [(.fld (.var 0) 5)]), .set 2 (.lc false (.bin .add false (.idx (.idx (.fld (.var 0) 10) (.neg (.lit (.int 1)))) (.var 8)) (.idx (.fld (.var 0) 5) (.var 8))) (.nm 8) (.rng1 (.var 1)) none [8]), .set 3 (.call 81 [(.var 2)]), .set 4 (.lst true []), .for_ (.nm 5) (.rng3 (.bin .sub false (.blt .len false [(.fld (.var 0) 9)]) (.lit (.int 1))) (.neg (.lit (.int 1))) (.neg (.lit (.int 1)))) [.set 6 (.idx (.fld (.var 0) 10) (.var 5)), .set 7 (.idx (.fld (.var 0) 9) (.var 5)), .set 3 (.call 81 [(.lc false (.bin .add false (.bin .add false (.idx (.var 6) (.var 9)) (.bin .mul false (.lit (.int 2)) (.idx (.var 7) (.var 9)))) (.idx (.idx (.fld (.var 0) 6) (.var 9)) (.var 3))) (.nm 9) (.rng1 (.var 1)) none [9])]), .ex (.bm .append false (.var 4) [(.var 3)])], .frzv 4, .ret (.tup [(.bin .fdiv false (.bin .sub false (.blt .min1 false [(.var 2)]) (.idx (.fld (.var 0) 5) (.fld (.var 0) 4))) (.lit (.int 2))), (.rev false (.var 4))])], true, []⟩
/-- 86: policy.Policy.paper (self, ways, tasks, works, spent, plan, row, task, work) -/
def d_Policy_paper : FD := ⟨1, 9, [.unp (.tp [(.nm 4), (.nm 5)]) (.meth (.var 0) 25 []), .set 1 (.blt .tuple_ false [(.lc false (.blt .tuple_ false [(.var 6)]) (.nm 6) (.seq (.fld (.var 0) 6)) none [6])]), .set 2 (.blt .tuple_ false [(.lc false (.blt .tuple_ false [(.var 7)]) (.nm 7) (.seq (.fld (.var 0) 9)) none [7])]), .set 3 (.blt .tuple_ false [(.lc false (.blt .tuple_ false [(.var 8)]) (.nm 8) (.seq (.fld (.var 0) 10)) none [8])]), .ret (.tup [(.fld (.var 0) 4), (.blt .tuple_ false [(.fld (.var 0) 5)]), (.var 1), (.var 2), (.var 3), (.blt .tuple_ false [(.var 5)]), (.var 4)])], true, []⟩
/-- 87: papers.is_number (value) -/
def d_is_number : FD := ⟨1, 1, [.ret (.bop true [(.isi .int_ (.var 0)), (.not_ (.isi .bool_ (.var 0))), (.cmp2 .le .le (.lit (.int 0)) (.var 0) (.glb 9))])], true, []⟩
/-- 88: papers.is_row (value, count, part) -/
def d_is_row : FD := ⟨2, 3, [.ite (.bop false [(.not_ (.isi .tup_ (.var 0))), (.cmp .ne (.blt .len false [(.var 0)]) (.var 1))]) [.ret (.lit (.bl false))] [], .for_ (.nm 2) (.seq (.var 0)) [.ite (.not_ (.call 87 [(.var 2)])) [.ret (.lit (.bl false))] []], .ret (.lit (.bl true))], true, []⟩
/-- 89: papers.is_table (value, rows, count, row) -/
def d_is_table : FD := ⟨3, 4, [.ite (.bop false [(.not_ (.isi .tup_ (.var 0))), (.cmp .ne (.blt .len false [(.var 0)]) (.var 1))]) [.ret (.lit (.bl false))] [], .for_ (.nm 3) (.seq (.var 0)) [.ite (.not_ (.call 88 [(.var 3), (.var 2)])) [.ret (.lit (.bl false))] []], .ret (.lit (.bl true))], true, []⟩
/-- 90: papers.has_form (paper, count, place, start, stands, ways, tasks, work, row, spent) -/
def d_has_form : FD := ⟨1, 10, [.ite (.bop false [(.not_ (.isi .tup_ (.var 0))), (.cmp .ne (.blt .len false [(.var 0)]) (.lit (.int 7)))]) [.ret (.lit (.bl false))] [], .unp (.tp [(.nm 3), (.nm 4), (.nm 5), (.nm 6), (.nm 7), (.nm 8), (.nm 9)]) (.var 0), .ite (.bop false [(.not_ (.isi .tup_ (.var 4))), (.not_ (.cmp2 .le .le (.lit (.int 1)) (.blt .len false [(.var 4)]) (.glb 10)))]) [.ret (.lit (.bl false))] [], .set 1 (.blt .len false [(.var 4)]), .ite (.bop false [(.not_ (.call 88 [(.var 4), (.var 1)])), (.not_ (.call 87 [(.var 3)])), (.cmp .ge (.var 3) (.var 1)), (.not_ (.call 87 [(.var 9)]))]) [.ret (.lit (.bl false))] [], .ite (.bop false [(.not_ (.isi .tup_ (.var 6))), (.cmp .gt (.blt .len false [(.var 6)]) (.glb 11))]) [.ret (.lit (.bl false))] [], .ite (.bop false [(.not_ (.call 89 [(.var 5), (.var 1), (.var 1)])), (.not_ (.call 89 [(.var 6), (.blt .len false [(.var 6)]), (.var 1)]))]) [.ret (.lit (.bl false))] [], .ite (.bop false [(.not_ (.call 89 [(.var 7), (.bin .add false (.blt .len false [(.var 6)]) (.lit (.int 1))), (.var 1)])), (.not_ (.call 88 [(.var 8), (.blt .len false [(.var 6)])]))]) [.ret (.lit (.bl false))] [], .for_ (.nm 2) (.seq (.var 8)) [.ite (.cmp .ge (.var 2) (.var 1)) [.ret (.lit (.bl false))] []], .ret (.lit (.bl true))], true, []⟩
/-- 91: papers.ways_fit (stands, ways, x, y, double) -/
def d_ways_fit : FD := ⟨2, 5, [.for_ (.nm 2) (.rng1 (.blt .len false [(.var 0)])) [.ite (.cmp .ne (.idx (.idx (.var 1) (.var 2)) (.var 2)) (.lit (.int 0))) [.ret (.lit (.bl false))] [], .for_ (.nm 3) (.rng1 (.blt .len false [(.var 0)])) [.set 4 (.bin .sub false (.bin .add false (.idx (.idx (.var 1) (.var 2)) (.var 3)) (.idx (.var 0) (.var 3))) (.idx (.var 0) (.var 2))), .ite (.bop false [(.cmp .lt (.var 4) (.lit (.int 0))), (.cmp .eq (.bin .mod false (.var 4) (.lit (.int 2))) (.lit (.int 1)))]) [.ret (.lit (.bl false))] []]], .ret (.lit (.bl true))], true, []⟩
/-- 92: papers.works_fit (start, ways, tasks, work, count, s, index, least, x) -/
def d_works_fit : FD := ⟨4, 9, [.set 4 (.blt .len false [(.var 1)]), .for_ (.nm 5) (.rng1 (.var 4)) [.ite (.cmp .gt (.idx (.idx (.var 3) (.lit (.int 0))) (.var 5)) (.idx (.idx (.var 1) (.var 0)) (.var 5))) [.ret (.lit (.bl false))] []], .for_ (.nm 6) (.rng1 (.blt .len false [(.var 2)])) [.for_ (.nm 5) (.rng1 (.var 4)) [.set 7 (.blt .min1 false [(.lc false (.bin .add false (.bin .add false (.idx (.idx (.var 3) (.var 6)) (.var 8)) (.bin .mul false (.lit (.int 2)) (.idx (.idx (.var 2) (.var 6)) (.var 8)))) (.idx (.idx (.var 1) (.var 8)) (.var 5))) (.nm 8) (.rng1 (.var 4)) none [8])]), .ite (.cmp .gt (.idx (.idx (.var 3) (.bin .add false (.var 6) (.lit (.int 1)))) (.var 5)) (.var 7)) [.ret (.lit (.bl false))] []]], .ret (.lit (.bl true))], true, []⟩
/-- 93: papers.spends (paper, total, place, start, stands, ways, tasks, _, row, task, goal) -/
def d_spends : FD := ⟨1, 11, [.unp (.tp [(.nm 3), (.nm 4), (.nm 5), (.nm 6), (.nm 7), (.nm 8), (.nm 7)]) (.var 0), .set 1 (.lit (.int 0)), .set 2 (.var 3), .for_ (.tp [(.nm 9), (.nm 10)]) (.zip (.var 6) (.var 8)) [.aug 1 .add (.bin .add false (.bin .fdiv false (.bin .sub false (.bin .add false (.idx (.idx (.var 5) (.var 2)) (.var 10)) (.idx (.var 4) (.var 10))) (.idx (.var 4) (.var 2))) (.lit (.int 2))) (.idx (.var 9) (.var 10))), .set 2 (.var 10)], .ret (.var 1)], true, []⟩
/-- 94: papers.judge (paper, s, start, stands, ways, tasks, work, _, spent) -/
def d_judge : FD := ⟨1, 9, [.ite (.not_ (.call 90 [(.var 0)])) [.ret (.lit .non)] [], .unp (.tp [(.nm 2), (.nm 3), (.nm 4), (.nm 5), (.nm 6), (.nm 7), (.nm 8)]) (.var 0), .ite (.bop false [(.not_ (.call 91 [(.var 3), (.var 4)])), (.not_ (.call 92 [(.var 2), (.var 4), (.var 5), (.var 6)])), (.cmp .ne (.call 93 [(.var 0)]) (.var 8))]) [.ret (.lit .non)] [], .for_ (.nm 1) (.rng1 (.blt .len false [(.var 3)])) [.ite (.cmp .gt (.bin .add false (.bin .mul false (.lit (.int 2)) (.var 8)) (.idx (.var 3) (.var 2))) (.bin .add false (.idx (.idx (.var 6) (.neg (.lit (.int 1)))) (.var 1)) (.idx (.var 3) (.var 1)))) [.ret (.lit .non)] []], .ret (.var 8)], true, []⟩
/-- 95: questions.has_relation (literal) -/
def d_has_relation : FD := ⟨1, 1, [.ret (.cmp .ne (.idx (.var 0) (.lit (.int 0))) (.lit (.str "compare")))], true, []⟩
/-- 96: questions.names_in (terms, term) -/
def d_names_in : FD := ⟨1, 2, [.ret (.lc false (.idx (.var 1) (.lit (.int 1))) (.nm 1) (.seq (.var 0)) (some (.cmp .eq (.idx (.var 1) (.lit (.int 0))) (.lit (.str "variable")))) [1])], true, []⟩
/-- 97: questions.check_relation (state, literal, relation, terms) -/
def d_check_relation : FD := ⟨2, 4, [.unp (.tp [(.nm 2), (.nm 3)]) (.slc false (.var 1) (some (.neg (.lit (.int 2)))) none), .ite (.mem true (.var 2) (.fld (.var 0) 0)) [.ex (.lit .non)] [], .ite (.cmp .ne (.blt .len false [(.var 3)]) (.blt .len false [(.idx (.idx (.fld (.var 0) 0) (.var 2)) (.lit (.int 0)))])) [.ex (.lit .non)] []], true, []⟩
/-- 98: questions.check_term (term, known) -/
def d_check_term : FD := ⟨2, 2, [.ite (.cmp .eq (.idx (.var 0) (.lit (.int 0))) (.lit (.str "any"))) [.ex (.lit .non)] [], .ite (.bop true [(.cmp .eq (.idx (.var 0) (.lit (.int 0))) (.lit (.str "variable"))), (.mem true (.idx (.var 0) (.lit (.int 1))) (.var 1))]) [.ex (.lit .non)] []], true, []⟩
/-- 99: questions.newly_bound (literal, bound, names, term, name) -/
def d_newly_bound : FD := ⟨2, 5, [.ite (.cmp .eq (.idx (.var 0) (.lit (.int 0))) (.lit (.str "compare"))) [.for_ (.nm 3) (.seq (.slc false (.var 0) (some (.lit (.int 2))) none)) [.ex (.call 98 [(.var 3), (.var 1)])], .ret (.lst false [])] [], .set 2 (.call 96 [(.idx (.var 0) (.neg (.lit (.int 1))))]), .ite (.cmp .eq (.idx (.var 0) (.lit (.int 0))) (.lit (.str "fact"))) [.ret (.var 2)] [], .ite (.cmp .eq (.idx (.var 0) (.lit (.int 0))) (.lit (.str "not"))) [.for_ (.nm 4) (.seq (.var 2)) [.ite (.mem true (.var 4) (.var 1)) [.ex (.lit .non)] []], .ret (.lst false [])] [], .ite (.mem false (.idx (.var 0) (.lit (.int 1))) (.var 2)) [.ex (.lit .non)] [], .ite (.cmp .ne (.idx (.var 0) (.lit (.int 0))) (.lit (.str "count"))) [.ex (.call 98 [(.idx (.var 0) (.lit (.int 2))), (.bin .add false (.var 1) (.var 2))])] [], .ret (.lst false [(.idx (.var 0) (.lit (.int 1)))])], true, []⟩
/-- 100: questions.check (state, body, bound, literal, name) -/
def d_check : FD := ⟨2, 5, [.set 2 (.lst true []), .for_ (.nm 3) (.seq (.var 1)) [.ite (.call 95 [(.var 3)]) [.ex (.call 97 [(.var 0), (.var 3)])] [], .for_ (.nm 4) (.seq (.call 99 [(.var 3), (.var 2)])) [.ite (.mem true (.var 4) (.var 2)) [.ex (.bm .append false (.var 2) [(.var 4)])] []]], .frzv 2, .ret (.blt .tuple_ false [(.var 2)])], true, []⟩
/-- 101: questions.value_of (term, way) -/
def d_value_of : FD := ⟨2, 2, [.ite (.cmp .eq (.idx (.var 0) (.lit (.int 0))) (.lit (.str "value"))) [.ret (.idx (.var 0) (.lit (.int 1)))] [], .ret (.idx (.var 1) (.idx (.var 0) (.lit (.int 1))))], true, []⟩
/-- 102: questions.met (terms, row, way, found, term, value) -/
def d_met : FD := ⟨3, 6, [.set 3 (.lit .non), .for_ (.tp [(.nm 4), (.nm 5)]) (.zip (.var 0) (.var 1)) [.ite (.bop true [(.cmp .eq (.idx (.var 4) (.lit (.int 0))) (.lit (.str "value"))), (.cmp .ne (.idx (.var 4) (.lit (.int 1))) (.var 5))]) [.ret (.lit .non)] [], .ite (.bop true [(.cmp .eq (.idx (.var 4) (.lit (.int 0))) (.lit (.str "variable"))), (.cmp .ne (.dsetd (.var 3) (.idx (.var 4) (.lit (.int 1))) (.var 5)) (.var 5))]) [.ret (.lit .non)] []], .frzv 3, .ret (.var 3)], true, []⟩
/-- 103: questions.meetings (state, literal, way, found, row, each) -/
def d_meetings : FD := ⟨3, 6, [.set 3 (.lc false (.call 102 [(.idx (.var 1) (.neg (.lit (.int 1)))), (.var 4), (.var 2)]) (.nm 4) (.seq (.idx (.fld (.var 0) 1) (.idx (.var 1) (.neg (.lit (.int 2)))))) none [4]), .ret (.lc false (.var 5) (.nm 5) (.seq (.var 3)) (some (.isn true (.var 5))) [5])], true, []⟩
/-- 104: questions.compared (operator, first, second, left, right) -/
def d_compared : FD := ⟨3, 5, [.set 3 (.call 0 [(.var 1)]), .set 4 (.call 0 [(.var 2)]), .ite (.cmp .eq (.var 0) (.lit (.str "="))) [.ret (.cmp .eq (.var 3) (.var 4))] [], .ite (.cmp .eq (.var 0) (.lit (.str "<>"))) [.ret (.cmp .ne (.var 3) (.var 4))] [], .ite (.cmp .eq (.var 0) (.lit (.str "<"))) [.ret (.cmp .lt (.var 3) (.var 4))] [], .ite (.cmp .eq (.var 0) (.lit (.str "<="))) [.ret (.cmp .le (.var 3) (.var 4))] [], .ite (.cmp .eq (.var 0) (.lit (.str ">"))) [.ret (.cmp .gt (.var 3) (.var 4))] [], .ret (.cmp .ge (.var 3) (.var 4))], true, []⟩
/-- 105: questions.total_of (literal, found, values, each, value) -/
def d_total_of : FD := ⟨2, 5, [.ite (.cmp .eq (.idx (.var 0) (.lit (.int 0))) (.lit (.str "count"))) [.ret (.lst false [(.blt .len false [(.var 1)])])] [], .set 2 (.lc false (.call 101 [(.idx (.var 0) (.lit (.int 2))), (.var 3)]) (.nm 3) (.seq (.var 1)) none [3]), .ite (.cmp .eq (.idx (.var 0) (.lit (.int 0))) (.lit (.str "sum"))) [.ite (.blt .any_ false [(.lc false (.isi .str_ (.var 4)) (.nm 4) (.seq (.var 2)) none [4])]) [.ret (.lst false [])] [], .ret (.lst false [(.blt .sum_ false [(.var 2)])])] [], .set 2 (.srk false (.var 2) 0), .ite (.cmp .eq (.idx (.var 0) (.lit (.int 0))) (.lit (.str "least"))) [.ret (.slc false (.var 2) none (some (.lit (.int 1))))] [], .ret (.slc false (.var 2) (some (.neg (.lit (.int 1)))) none)], true, []⟩
/-- 106: questions.ways_behind (state, literal, way, found, behind, total, holds) -/
def d_ways_behind : FD := ⟨3, 7, [.ite (.cmp .eq (.idx (.var 1) (.lit (.int 0))) (.lit (.str "compare"))) [.set 6 (.call 104 [(.idx (.var 1) (.lit (.int 1))), (.call 101 [(.idx (.var 1) (.lit (.int 2))), (.var 2)]), (.call 101 [(.idx (.var 1) (.lit (.int 3))), (.var 2)])]), .ret (.ife (.var 6) (.lst false [(.var 2)]) (.lst false []))] [], .set 3 (.call 103 [(.var 0), (.var 1), (.var 2)]), .ite (.cmp .eq (.idx (.var 1) (.lit (.int 0))) (.lit (.str "fact"))) [.ret (.var 3)] [], .ite (.cmp .eq (.idx (.var 1) (.lit (.int 0))) (.lit (.str "not"))) [.ret (.ife (.var 3) (.lst false []) (.lst false [(.var 2)]))] [], .set 4 (.lst true []), .for_ (.nm 5) (.seq (.call 105 [(.var 1), (.var 3)])) [.ite (.cmp .eq (.dget2 (.var 2) (.idx (.var 1) (.lit (.int 1))) (.var 5)) (.var 5)) [.ex (.bm .append false (.var 4) [(.lit .non)])] []], .frzv 4, .ret (.var 4)], true, []⟩
/-- 107: questions.answer (state, body, columns, ways, literal, rows, way, behind, name) -/
def d_answer : FD := ⟨2, 9, [.set 2 (.call 100 [(.var 0), (.var 1)]), .set 3 (.lst false [.dnew]), .for_ (.nm 4) (.seq (.var 1)) [.set 3 (.lit .non)], .set 5 (.lit .non), .ret (.tup [(.var 2), (.srk false (.var 5) 1)])], true, []⟩
/-- 108: questions.pattern_of (terms, way, pattern, term) -/
def d_pattern_of : FD := ⟨2, 4, [.set 2 (.lst true []), .for_ (.nm 3) (.seq (.var 0)) [.ite (.cmp .eq (.idx (.var 3) (.lit (.int 0))) (.lit (.str "value"))) [.ex (.bm .append false (.var 2) [(.idx (.var 3) (.lit (.int 1)))])] [.ex (.bm .append false (.var 2) [(.ife (.cmp .eq (.idx (.var 3) (.lit (.int 0))) (.lit (.str "variable"))) (.lit .non) (.lit .non))])]], .frzv 2, .ret (.blt .tuple_ false [(.var 2)])], true, []⟩
/-- 109: questions.calls (state, body, found, ways, literal, way, behind) -/
def d_calls : FD := ⟨2, 7, [.set 2 (.lst true []), .set 3 (.lst false [.dnew]), .for_ (.nm 4) (.seq (.var 1)) [.ite (.call 95 [(.var 4)]) [.ex (.bm .extend false (.var 2) [(.lc false (.tup [(.idx (.var 4) (.neg (.lit (.int 2)))), (.call 108 [(.idx (.var 4) (.neg (.lit (.int 1)))), (.var 5)])]) (.nm 5) (.seq (.var 3)) none [5])])] [], .set 3 (.lit .non)], .frzv 2, .ret (.var 2)], true, []⟩
/-- 110: questions.meets (call, row, wanted, value) -/
def d_meets : FD := ⟨2, 4, [.ite (.cmp .ne (.blt .len false [(.idx (.var 0) (.lit (.int 1)))]) (.blt .len false [(.var 1)])) [.ret (.lit (.bl false))] [], .for_ (.tp [(.nm 2), (.nm 3)]) (.zip (.idx (.var 0) (.lit (.int 1))) (.var 1)) [.ite (.bop true [(.isn true (.var 2)), (.cmp .ne (.var 2) (.var 3))]) [.ret (.lit (.bl false))] []], .ret (.lit (.bl true))], true, []⟩
/-- 111: statements.need (holds, problem) -/
def d_need : FD := ⟨2, 2, [.ite (.not_ (.var 0)) [.ex (.lit .non)] []], true, []⟩
/-- 112: statements.first_repeated (names, index, name) -/
def d_first_repeated : FD := ⟨1, 3, [.for_ (.tp [(.nm 1), (.nm 2)]) (.enum (.var 0)) [.ite (.mem false (.var 2) (.slc false (.var 0) none (some (.var 1)))) [.ret (.lst false [(.var 2)])] []], .ret (.lst false [])], true, []⟩
/-- 113: statements.need_different (names, name) -/
def d_need_different : FD := ⟨1, 2, [.for_ (.nm 1) (.seq (.call 112 [(.var 0)])) [.ex (.lit .non)]], true, []⟩
/-- 114: statements.over (state, relation, name) -/
def d_over : FD := ⟨2, 3, [.ret (.lc false (.var 2) (.nm 2) (.seq (.dsrt false (.fld (.var 0) 2))) (some (.cmp .eq (.idx (.idx (.fld (.var 0) 2) (.var 2)) (.lit (.int 0))) (.var 1))) [2])], true, []⟩
/-- 115: statements.make_relation (state, statement, _, name, columns, room) -/
def d_make_relation : FD := ⟨2, 6, [.unp (.tp [(.nm 2), (.nm 3), (.nm 4), (.nm 5)]) (.var 1), .ex (.call 111 [(.mem true (.var 3) (.fld (.var 0) 0)), (.tup [(.lit (.str "exists")), (.lit (.str "relation")), (.var 3)])]), .ex (.call 113 [(.var 4)]), .ex (.call 111 [(.cmp2 .le .le (.lit (.int 1)) (.var 5) (.glb 12)), (.tup [(.lit (.str "room"))])]), .ret (.tup [(.lit .non), (.meth (.var 0) 6 [(.lst false [(.tup [(.lit (.str "comes")), (.tup [(.lit (.str "relation")), (.var 3), (.var 4), (.var 5)])])])])])], true, []⟩
/-- 116: statements.drop_relation (state, statement, name, structure, changes, row) -/
def d_drop_relation : FD := ⟨2, 6, [.set 2 (.idx (.var 1) (.lit (.int 1))), .ex (.call 111 [(.mem false (.var 2) (.fld (.var 0) 0)), (.tup [(.lit (.str "no relation")), (.var 2)])]), .for_ (.nm 3) (.seq (.call 114 [(.var 0), (.var 2)])) [.ex (.lit .non)], .set 4 (.lc false (.tup [(.lit (.str "goes")), (.tup [(.lit (.int 1)), (.var 2), (.var 5)])]) (.nm 5) (.seq (.idx (.fld (.var 0) 1) (.var 2))) none [5]), .ret (.tup [(.lit .non), (.meth (.var 0) 6 [(.bin .add false (.var 4) (.lst false [(.tup [(.lit (.str "goes")), (.tup [(.lit (.int 0)), (.var 2), (.tup [])])])]))])])], true, []⟩
/-- 117: statements.need_row (state, name, row) -/
def d_need_row : FD := ⟨3, 3, [.ex (.call 111 [(.mem false (.var 1) (.fld (.var 0) 0)), (.tup [(.lit (.str "no relation")), (.var 1)])]), .ex (.call 111 [(.cmp .eq (.blt .len false [(.var 2)]) (.blt .len false [(.idx (.idx (.fld (.var 0) 0) (.var 1)) (.lit (.int 0)))])), (.tup [(.lit (.str "width")), (.var 1)])])], true, []⟩
/-- 118: statements.add_fact (state, statement, after, structure, _, name, row) -/
def d_add_fact : FD := ⟨2, 7, [.unp (.tp [(.nm 4), (.nm 5), (.nm 6)]) (.var 1), .ex (.call 117 [(.var 0), (.var 5), (.var 6)]), .ite (.meth (.var 0) 4 [(.var 5), (.var 6)]) [.ret (.tup [(.lit (.bl false)), (.var 0)])] [], .ex (.call 111 [(.cmp .lt (.blt .len false [(.call 20 [(.var 6)])]) (.glb 7)), (.tup [(.lit (.str "long"))])]), .set 2 (.meth (.var 0) 6 [(.lst false [(.tup [(.lit (.str "comes")), (.tup [(.lit (.str "fact")), (.var 5), (.var 6)])])])]), .ex (.call 111 [(.isn true (.call 60 [(.var 2), (.var 5)])), (.tup [(.lit (.str "full")), (.lit (.str "relation")), (.var 5)])]), .for_ (.nm 3) (.seq (.call 114 [(.var 0), (.var 5)])) [.ex (.call 111 [(.isn true (.call 62 [(.var 2), (.var 3)])), (.tup [(.lit (.str "full")), (.lit (.str "structure")), (.var 3)])])], .ret (.tup [(.lit (.bl true)), (.var 2)])], true, []⟩
/-- 119: statements.remove_fact (state, statement, _, name, row) -/
def d_remove_fact : FD := ⟨2, 5, [.unp (.tp [(.nm 2), (.nm 3), (.nm 4)]) (.var 1), .ex (.call 117 [(.var 0), (.var 3), (.var 4)]), .ite (.not_ (.meth (.var 0) 4 [(.var 3), (.var 4)])) [.ret (.tup [(.lit (.bl false)), (.var 0)])] [], .ret (.tup [(.lit (.bl true)), (.meth (.var 0) 6 [(.lst false [(.tup [(.lit (.str "goes")), (.tup [(.lit (.int 1)), (.var 3), (.var 4)])])])])])], true, []⟩
/-- 120: statements.make_structure (state, statement, column, after, _, name, relation, columns, buckets, sectors) -/
def d_make_structure : FD := ⟨2, 10, [.unp (.tp [(.nm 4), (.nm 5), (.nm 6), (.nm 7), (.nm 8), (.nm 9)]) (.var 1), .ex (.call 111 [(.mem true (.var 5) (.fld (.var 0) 2)), (.tup [(.lit (.str "exists")), (.lit (.str "structure")), (.var 5)])]), .ex (.call 111 [(.mem false (.var 6) (.fld (.var 0) 0)), (.tup [(.lit (.str "no relation")), (.var 6)])]), .for_ (.nm 2) (.seq (.var 7)) [.ex (.call 111 [(.mem false (.var 2) (.idx (.idx (.fld (.var 0) 0) (.var 6)) (.lit (.int 0)))), (.tup [(.lit (.str "no column")), (.var 2)])])], .ex (.call 113 [(.var 7)]), .ex (.call 111 [(.cmp2 .le .le (.lit (.int 1)) (.var 8) (.glb 13)), (.tup [(.lit (.str "buckets"))])]), .ex (.call 111 [(.cmp2 .le .le (.lit (.int 1)) (.var 9) (.glb 14)), (.tup [(.lit (.str "sectors"))])]), .set 3 (.meth (.var 0) 6 [(.lst false [(.tup [(.lit (.str "comes")), (.var 1)])])]), .ex (.call 111 [(.isn true (.call 62 [(.var 3), (.var 5)])), (.tup [(.lit (.str "full")), (.lit (.str "structure")), (.var 5)])]), .ret (.tup [(.lit .non), (.var 3)])], true, []⟩
/-- 121: statements.take_structure (state, statement, name, layout) -/
def d_take_structure : FD := ⟨2, 4, [.set 2 (.idx (.var 1) (.lit (.int 1))), .ex (.call 111 [(.mem false (.var 2) (.fld (.var 0) 2)), (.tup [(.lit (.str "no structure")), (.var 2)])]), .for_ (.nm 3) (.seq (.dsrt false (.fld (.var 0) 3))) [.ex (.call 111 [(.mem true (.var 2) (.idx (.fld (.var 0) 3) (.var 3))), (.tup [(.lit (.str "used")), (.var 3)])])], .ret (.tup [(.lit .non), (.meth (.var 0) 6 [(.lst false [(.tup [(.lit (.str "goes")), (.tup [(.lit (.int 2)), (.var 2), (.tup [])])])])])])], true, []⟩
/-- 122: statements.make_layout (state, statement, structure, layout, _, name, structures) -/
def d_make_layout : FD := ⟨2, 7, [.unp (.tp [(.nm 4), (.nm 5), (.nm 6)]) (.var 1), .ex (.call 111 [(.mem true (.var 5) (.fld (.var 0) 3)), (.tup [(.lit (.str "exists")), (.lit (.str "layout")), (.var 5)])]), .for_ (.nm 2) (.seq (.var 6)) [.ex (.call 111 [(.mem false (.var 2) (.fld (.var 0) 2)), (.tup [(.lit (.str "no structure")), (.var 2)])])], .ex (.call 113 [(.var 6)]), .for_ (.nm 3) (.seq (.dsrt false (.fld (.var 0) 3))) [.ex (.call 111 [(.cmp .ne (.lit .non) (.lit .non)), (.tup [(.lit (.str "same")), (.var 3)])])], .ret (.tup [(.lit .non), (.meth (.var 0) 6 [(.lst false [(.tup [(.lit (.str "comes")), (.var 1)])])])])], true, []⟩
/-- 123: statements.leave_layout (state, statement, name) -/
def d_leave_layout : FD := ⟨2, 3, [.set 2 (.idx (.var 1) (.lit (.int 1))), .ex (.call 111 [(.mem false (.var 2) (.fld (.var 0) 3)), (.tup [(.lit (.str "no layout")), (.var 2)])]), .ret (.tup [(.lit .non), (.meth (.var 0) 6 [(.lst false [(.tup [(.lit (.str "goes")), (.tup [(.lit (.int 3)), (.var 2), (.tup [])])])])])])], true, []⟩
/-- 124: statements.ask (state, statement) -/
def d_ask : FD := ⟨2, 2, [.ret (.tup [(.call 107 [(.var 0), (.idx (.var 1) (.lit (.int 1)))]), (.var 0)])], true, []⟩
/-- 125: statements.show (state, statement, item) -/
def d_show : FD := ⟨2, 3, [.ret (.tup [(.lc false (.var 2) (.nm 2) (.seq (.meth (.var 0) 3 [])) (some (.cmp .ne (.idx (.var 2) (.lit (.int 0))) (.lit (.str "fact")))) [2]), (.var 0)])], true, []⟩
/-- 126: statements.say (state, statement) -/
def d_say : FD := ⟨2, 2, [.ret (.lit .non)], true, []⟩
/-- 127: statements.statement_calls (state, statement) -/
def d_statement_calls : FD := ⟨2, 2, [.ite (.mem true (.idx (.var 1) (.lit (.int 0))) (.tup [(.lit (.str "ask")), (.lit (.str "add")), (.lit (.str "remove"))])) [.ret (.lst false [])] [], .ex (.lit .non), .ite (.cmp .eq (.idx (.var 1) (.lit (.int 0))) (.lit (.str "ask"))) [.ret (.call 109 [(.var 0), (.idx (.var 1) (.lit (.int 1)))])] [], .ret (.lst false [(.tup [(.idx (.var 1) (.lit (.int 1))), (.idx (.var 1) (.lit (.int 2)))])])], true, []⟩
/-- 128: store.Store.__init__ (self, disk, told, place, turn, area) -/
def d_Store___init__ : FD := ⟨2, 6, [.setf (.var 0) 21 (.var 1), .ex (.meth (.var 1) 65 [(.call 46 [(.meth (.var 1) 61 [])])]), .set 2 (.call 53 [(.var 1)]), .setf (.var 0) 22 (.lit (.int 0)), .setf (.var 0) 23 (.make 0 []), .ite (.isn false (.var 2)) [.ex (.meth (.var 0) 29 [(.lit (.int 1)), (.lit (.int 0)), (.lit (.int 0)), (.lit (.int 0)), (.fld (.var 0) 23)])] [.unp (.tp [(.nm 3), (.nm 4), (.nm 5), (.nm 0), (.nm 0)]) (.var 2), .ex (.meth (.var 0) 29 [(.meth (.var 0) 27 [(.var 4)]), (.bin .sub false (.lit (.int 1)) (.var 5)), (.bin .sub false (.lit (.int 1)) (.var 3)), (.fld (.var 0) 22), (.fld (.var 0) 23)])]], false, []⟩
/-- 129: store.Store.new_turn (self, turn, sectors, sector) -/
def d_Store_new_turn : FD := ⟨2, 4, [.set 2 (.bin .add false (.call 52 [(.fld (.var 0) 21), (.lit (.int 0))]) (.call 52 [(.fld (.var 0) 21), (.lit (.int 1))])), .ret (.bin .add false (.lit (.int 1)) (.blt .max1 false [(.bin .add false (.lst false [(.var 1)]) (.lc false (.call 43 [(.var 3)]) (.nm 3) (.seq (.var 2)) none [3]))]))], true, []⟩
/-- 130: store.Store.write_all (self, start, sectors, index, sector) -/
def d_Store_write_all : FD := ⟨3, 5, [.for_ (.tp [(.nm 3), (.nm 4)]) (.enum (.var 2)) [.ex (.meth (.fld (.var 0) 21) 68 [(.bin .add false (.var 1) (.var 3)), (.var 4)])], .ex (.meth (.fld (.var 0) 21) 69 [])], false, []⟩
/-- 131: store.Store.write_new (self, turn, area, place, commits, state, block) -/
def d_Store_write_new : FD := ⟨6, 7, [.set 6 (.call 44 [(.var 1), (.call 24 [(.var 4), (.var 5)])]), .ex (.meth (.var 0) 28 [(.call 48 [(.meth (.fld (.var 0) 21) 61 []), (.var 2)]), (.var 6)]), .ex (.meth (.var 0) 28 [(.var 3), (.lst false [(.call 49 [(.var 1), (.var 2)])])]), .setf (.var 0) 24 (.var 1), .setf (.var 0) 25 (.var 2), .setf (.var 0) 26 (.var 3), .setf (.var 0) 27 (.blt .len false [(.var 6)])], false, []⟩
/-- 132: store.Store.can_hold (self, state, size, block) -/
def d_Store_can_hold : FD := ⟨2, 4, [.set 2 (.meth (.fld (.var 0) 21) 61 []), .set 3 (.call 44 [(.lit (.int 1)), (.call 24 [(.bin .add false (.fld (.var 0) 22) (.lit (.int 1))), (.var 1)])]), .ret (.bop true [(.cmp .le (.blt .len false [(.var 3)]) (.call 47 [(.var 2)])), (.cmp .le (.call 65 [(.var 1)]) (.bin .sub false (.var 2) (.call 46 [(.var 2)])))])], true, []⟩
/-- 133: store.Store.fits (self, changes) -/
def d_Store_fits : FD := ⟨2, 2, [.ret (.meth (.var 0) 30 [(.meth (.fld (.var 0) 23) 6 [(.var 1)])])], true, []⟩
/-- 134: store.Store.commit (self, changes, state, block, size) -/
def d_Store_commit : FD := ⟨2, 5, [.set 2 (.meth (.fld (.var 0) 23) 6 [(.var 1)]), .ite (.not_ (.meth (.var 0) 30 [(.var 2)])) [.ex (.lit .non)] [], .set 3 (.call 44 [(.fld (.var 0) 24), (.call 23 [(.var 1)])]), .set 4 (.meth (.fld (.var 0) 21) 61 []), .ite (.cmp .le (.bin .add false (.fld (.var 0) 27) (.blt .len false [(.var 3)])) (.call 47 [(.var 4)])) [.ex (.meth (.var 0) 28 [(.bin .add false (.call 48 [(.var 4), (.fld (.var 0) 25)]) (.fld (.var 0) 27)), (.var 3)]), .augf (.var 0) 27 .add (.blt .len false [(.var 3)])] [.ex (.meth (.var 0) 29 [(.bin .add false (.fld (.var 0) 24) (.lit (.int 1))), (.bin .sub false (.lit (.int 1)) (.fld (.var 0) 25)), (.bin .sub false (.lit (.int 1)) (.fld (.var 0) 26)), (.bin .add false (.fld (.var 0) 22) (.lit (.int 1))), (.var 2)])], .augf (.var 0) 22 .add (.lit (.int 1)), .setf (.var 0) 23 (.var 2)], false, []⟩
/-- 135: transactions.told_by (state, statement, answer, made) -/
def d_told_by : FD := ⟨2, 4, [.ex (.lit .non), .ret (.tup [(.tup [(.lit (.str "answer")), (.var 2)]), (.var 3)])], true, []⟩
/-- 136: transactions.Run.__init__ (self, state) -/
def d_Run___init__ : FD := ⟨2, 2, [.setf (.var 0) 23 (.var 1), .setf (.var 0) 28 (.lst true [])], false, []⟩
/-- 137: transactions.Run.go_back (self, name, index) -/
def d_Run_go_back : FD := ⟨2, 3, [.for_ (.nm 2) (.rng3 (.bin .sub false (.blt .len false [(.fld (.var 0) 28)]) (.lit (.int 1))) (.neg (.lit (.int 1))) (.neg (.lit (.int 1)))) [.ite (.cmp .eq (.idx (.idx (.fld (.var 0) 28) (.var 2)) (.lit (.int 0))) (.var 1)) [.setf (.var 0) 23 (.idx (.idx (.fld (.var 0) 28) (.var 2)) (.lit (.int 1))), .setf (.var 0) 28 (.slc true (.fld (.var 0) 28) none (some (.bin .add false (.var 2) (.lit (.int 1))))), .ret (.lit (.bl true))] []], .ret (.lit (.bl false))], false, []⟩
/-- 138: transactions.Run.take (self, word, told, kind, what, _) -/
def d_Run_take : FD := ⟨2, 6, [.unp (.tp [(.nm 3), (.nm 4), (.nm 5)]) (.var 1), .set 2 (.lit .non), .ite (.cmp .eq (.var 3) (.lit (.str "statement"))) [.unp (.tp [(.nm 2), (.nm 0)]) (.call 135 [(.fld (.var 0) 23), (.var 4)])] [.ite (.cmp .eq (.var 3) (.lit (.str "savepoint"))) [.ex (.bm .append false (.fld (.var 0) 28) [(.tup [(.var 4), (.fld (.var 0) 23)])])] [.ex (.meth (.var 0) 33 [(.var 4)])]], .ret (.var 2)], false, []⟩
/-- 139: transactions.Words.__init__ (self) -/
def d_Words___init__ : FD := ⟨1, 1, [.setf (.var 0) 29 (.lst true [])], false, []⟩
/-- 140: transactions.Words._run (self, state, run, word) -/
def d_Words__run : FD := ⟨2, 4, [.set 2 (.make 5 [(.var 1)]), .for_ (.nm 3) (.seq (.fld (.var 0) 29)) [.ex (.meth (.var 2) 34 [(.var 3)])], .frzv 2, .ret (.var 2)], true, []⟩
/-- 141: transactions.Words.own (self, state) -/
def d_Words_own : FD := ⟨2, 2, [.ret (.meth (.fld (.meth (.var 0) 35 [(.var 1)]) 23) 5 [])], true, []⟩
/-- 142: transactions.Words.say (self, state, statement, told, _) -/
def d_Words_say : FD := ⟨3, 5, [.unp (.tp [(.nm 3), (.nm 4)]) (.call 135 [(.fld (.meth (.var 0) 35 [(.var 1)]) 23), (.var 2)]), .ex (.bm .append false (.fld (.var 0) 29) [(.tup [(.lit (.str "statement")), (.var 2), (.blt .repr_ false [(.var 3)])])]), .ite (.cmp .eq (.idx (.var 3) (.lit (.int 0))) (.lit (.str "problem"))) [.ex (.lit .non)] [], .ret (.idx (.var 3) (.lit (.int 1)))], false, []⟩
/-- 143: transactions.Words.savepoint (self, name) -/
def d_Words_savepoint : FD := ⟨2, 2, [.ex (.bm .append false (.fld (.var 0) 29) [(.tup [(.lit (.str "savepoint")), (.var 1), (.lit .non)])])], false, []⟩
/-- 144: transactions.Words.rollback_to (self, state, name) -/
def d_Words_rollback_to : FD := ⟨3, 3, [.ite (.not_ (.meth (.meth (.var 0) 35 [(.var 1)]) 33 [(.var 2)])) [.ex (.lit .non)] [], .ex (.bm .append false (.fld (.var 0) 29) [(.tup [(.lit (.str "rollback")), (.var 2), (.lit .non)])])], false, []⟩
/-- 145: transactions.Words.again (self, state, run, index, word, told) -/
def d_Words_again : FD := ⟨2, 6, [.set 2 (.make 5 [(.var 1)]), .set 3 (.lit (.int 0)), .for_ (.nm 4) (.seq (.fld (.var 0) 29)) [.set 5 (.meth (.var 2) 34 [(.var 4)]), .ite (.isn true (.var 5)) [.ite (.cmp .ne (.blt .repr_ false [(.var 5)]) (.idx (.var 4) (.lit (.int 2)))) [.ret (.tup [(.var 3), (.var 5), (.lit .non)])] [], .aug 3 .add (.lit (.int 1))] []], .frzv 2, .ret (.tup [(.lit .non), (.lit .non), (.meth (.fld (.var 2) 23) 5 [])])], true, []⟩
/-- 146: transactions.Words.all_calls (self, state, run, found, word) -/
def d_Words_all_calls : FD := ⟨2, 5, [.set 2 (.make 5 [(.var 1)]), .set 3 (.lst true []), .for_ (.nm 4) (.seq (.fld (.var 0) 29)) [.ite (.cmp .eq (.idx (.var 4) (.lit (.int 0))) (.lit (.str "statement"))) [.ex (.bm .extend false (.var 3) [(.call 127 [(.fld (.var 2) 23), (.idx (.var 4) (.lit (.int 1)))])])] [], .ex (.meth (.var 2) 34 [(.var 4)])], .frzv 3, .ret (.var 3)], true, []⟩
/-- 147: database.Database.__init__ (self, disk) -/
def d_Database___init__ : FD := ⟨2, 2, [.ite (.not_ (.meth (.var 1) 72 [])) [.ex (.lit .non)] [], .ite (.fld (.var 1) 13) [.ex (.lit .non)] [], .setf (.var 0) 30 (.var 1), .setf (.var 0) 31 (.meth (.var 1) 73 []), .setf (.var 0) 32 (.make 4 [(.var 1)]), .setf (.var 0) 33 (.idx (.call 66 [(.fld (.fld (.var 0) 32) 23)]) (.lit (.int 0))), .ex (.meth (.var 0) 47 []), .ex (.meth (.var 0) 48 []), .setf (.var 1) 13 (.lit (.bl true))], false, []⟩
/-- 148: database.Database.check_open (self) -/
def d_Database_check_open : FD := ⟨1, 1, [.ite (.cmp .ne (.meth (.fld (.var 0) 30) 73 []) (.fld (.var 0) 31)) [.ex (.lit .non)] []], true, []⟩
/-- 149: database.Database.state (self) -/
def d_Database_state : FD := ⟨1, 1, [.ret (.fld (.fld (.var 0) 32) 23)], true, []⟩
/-- 150: database.Database._shape (self, state, place) -/
def d_Database__shape : FD := ⟨3, 3, [.ite (.cmp .eq (.idx (.var 2) (.lit (.int 0))) (.lit (.str "relation"))) [.ret (.call 60 [(.var 1), (.idx (.var 2) (.lit (.int 1)))])] [], .ret (.call 62 [(.var 1), (.idx (.var 2) (.lit (.int 1)))])], true, []⟩
/-- 151: database.Database._write (self, state, sectors, start, starts, shapes, place, index) -/
def d_Database__write : FD := ⟨3, 8, [.set 3 (.call 46 [(.meth (.fld (.var 0) 30) 61 [])]), .set 4 (.call 64 [(.var 1)]), .set 5 .dnew, .for_ (.tp [(.nm 6), (.nm 7)]) (.seq (.var 2)) [.ite (.mem true (.var 6) (.var 5)) [.dput (.var 5) (.var 6) (.meth (.var 0) 44 [(.var 1), (.var 6)])] [], .ex (.meth (.fld (.var 0) 30) 68 [(.bin .add false (.bin .add false (.var 3) (.idx (.var 4) (.var 6))) (.var 7)), (.idx (.idx (.var 5) (.var 6)) (.var 7))])]], false, []⟩
/-- 152: database.Database._whole (self, state, place, index) -/
def d_Database__whole : FD := ⟨3, 4, [.ret (.lc false (.tup [(.var 2), (.var 3)]) (.nm 3) (.rng1 (.blt .len false [(.meth (.var 0) 44 [(.var 1), (.var 2)])])) none [3])], true, []⟩
/-- 153: database.Database._write_all (self, state, name) -/
def d_Database__write_all : FD := ⟨1, 3, [.set 1 (.fld (.fld (.var 0) 32) 23), .for_ (.nm 2) (.seq (.dsrt false (.fld (.var 1) 0))) [.ex (.meth (.var 0) 45 [(.var 1), (.meth (.var 0) 46 [(.var 1), (.tup [(.lit (.str "relation")), (.var 2)])])])], .for_ (.nm 2) (.seq (.lit .non)) [.ex (.meth (.var 0) 45 [(.var 1), (.meth (.var 0) 46 [(.var 1), (.tup [(.lit (.str "structure")), (.var 2)])])])]], false, []⟩
/-- 154: database.Database._begin_phase (self, state, layouts, ways, first, second, layout) -/
def d_Database__begin_phase : FD := ⟨1, 7, [.set 1 (.fld (.fld (.var 0) 32) 23), .set 2 (.call 66 [(.var 1)]), .set 3 (.lc false (.lc false (.call 79 [(.var 1), (.var 4), (.var 5)]) (.nm 5) (.seq (.var 2)) none [5]) (.nm 4) (.seq (.var 2)) none [4]), .setf (.var 0) 34 (.var 2), .setf (.var 0) 35 (.make 1 [(.bm .index false (.var 2) [(.fld (.var 0) 33)]), (.lc false (.call 77 [(.var 1), (.var 6)]) (.nm 6) (.seq (.var 2)) none [6]), (.var 3)]), .setf (.var 0) 36 (.lit (.int 0))], false, []⟩
/-- 155: database.Database._move (self, layout, state, name) -/
def d_Database__move : FD := ⟨2, 4, [.set 2 (.fld (.fld (.var 0) 32) 23), .for_ (.nm 3) (.seq (.var 1)) [.ite (.mem true (.var 3) (.fld (.var 0) 33)) [.ex (.meth (.fld (.var 0) 30) 65 [(.idx (.idx (.fld (.var 2) 0) (.idx (.idx (.fld (.var 2) 2) (.var 3)) (.lit (.int 0)))) (.lit (.int 1)))]), .ex (.meth (.var 0) 45 [(.var 2), (.meth (.var 0) 46 [(.var 2), (.tup [(.lit (.str "structure")), (.var 3)])])])] []], .setf (.var 0) 33 (.var 1)], false, []⟩
/-- 156: database.Database._serve (self, before, after, calls, task) -/
def d_Database__serve : FD := ⟨4, 5, [.set 4 (.call 75 [(.var 1), (.var 2), (.var 3)]), .augf (.var 0) 36 .add (.call 74 [(.var 1), (.var 2), (.idx (.fld (.var 0) 34) (.bm .index false (.var 4) [(.lit (.int 0))])), (.var 3)]), .ite (.cmp .gt (.blt .max1 false [(.var 4)]) (.lit (.int 0))) [.ex (.meth (.var 0) 49 [(.idx (.fld (.var 0) 34) (.meth (.fld (.var 0) 35) 24 [(.var 4)]))])] [], .ex (.meth (.fld (.var 0) 30) 65 [(.blt .len false [(.call 71 [(.var 1), (.fld (.var 0) 33), (.var 3)])])])], false, []⟩
/-- 157: database.Database._restart (self) -/
def d_Database__restart : FD := ⟨1, 1, [.ite (.cmp .ge (.blt .len false [(.fld (.fld (.var 0) 35) 9)]) (.glb 16)) [.ex (.meth (.var 0) 48 [])] []], false, []⟩
/-- 158: database.Database.read_call (self, calls, state) -/
def d_Database_read_call : FD := ⟨2, 3, [.ex (.meth (.var 0) 51 []), .set 2 (.fld (.fld (.var 0) 32) 23), .ex (.meth (.var 0) 50 [(.var 2), (.var 2), (.var 1)])], false, []⟩
/-- 159: database.Database.commit_call (self, calls, made, before, changes) -/
def d_Database_commit_call : FD := ⟨3, 5, [.set 3 (.fld (.fld (.var 0) 32) 23), .set 4 (.call 13 [(.var 3), (.var 2)]), .ite (.not_ (.meth (.fld (.var 0) 32) 31 [(.var 4)])) [.ex (.meth (.var 0) 52 [(.var 1)]), .ex (.lit .non)] [], .ite (.not_ (.meth (.var 3) 7 [(.var 2)])) [.ex (.meth (.var 0) 54 [(.var 1), (.var 4)]), .retn] [], .ex (.meth (.var 0) 51 []), .ex (.meth (.var 0) 50 [(.var 3), (.var 2), (.var 1)]), .ex (.meth (.fld (.var 0) 32) 32 [(.var 4)]), .ex (.meth (.var 0) 45 [(.var 2), (.call 73 [(.var 3), (.var 2), (.fld (.var 0) 33)])])], false, []⟩
/-- 160: database.Database._commit_schema (self, calls, changes, before, layouts) -/
def d_Database__commit_schema : FD := ⟨3, 5, [.set 3 (.fld (.fld (.var 0) 32) 23), .ex (.meth (.fld (.var 0) 30) 65 [(.blt .len false [(.call 71 [(.var 3), (.fld (.var 0) 33), (.var 1)])])]), .ex (.meth (.fld (.var 0) 30) 65 [(.call 65 [(.var 3)])]), .ex (.meth (.fld (.var 0) 32) 32 [(.var 2)]), .set 4 (.call 66 [(.fld (.fld (.var 0) 32) 23)]), .ite (.mem true (.fld (.var 0) 33) (.var 4)) [.setf (.var 0) 33 (.idx (.var 4) (.lit (.int 0)))] [], .ex (.meth (.var 0) 47 []), .ex (.meth (.var 0) 48 [])], false, []⟩
/-- 161: database.Database.session (self) -/
def d_Database_session : FD := ⟨1, 1, [.ex (.meth (.var 0) 42 []), .ret (.make 8 [(.var 0)])], true, []⟩
/-- 162: database.Database.status (self, policy) -/
def d_Database_status : FD := ⟨1, 2, [.ex (.meth (.var 0) 42 []), .set 1 (.fld (.var 0) 35), .ret (.tup [(.fld (.fld (.var 0) 32) 22), (.fld (.var 0) 33), (.blt .len false [(.fld (.var 1) 9)]), (.fld (.var 0) 36), (.fld (.var 1) 8)])], true, []⟩
/-- 163: database.Database.hindsight (self, spent, plan, index) -/
def d_Database_hindsight : FD := ⟨1, 4, [.ex (.meth (.var 0) 42 []), .unp (.tp [(.nm 1), (.nm 2)]) (.meth (.fld (.var 0) 35) 25 []), .ret (.tup [(.var 1), (.lc false (.idx (.fld (.var 0) 34) (.var 3)) (.nm 3) (.seq (.var 2)) none [3])])], true, []⟩
/-- 164: database.Database.paper (self) -/
def d_Database_paper : FD := ⟨1, 1, [.ex (.meth (.var 0) 42 []), .ret (.meth (.fld (.var 0) 35) 26 [])], true, []⟩
/-- 165: database.Session.__init__ (self, database) -/
def d_Session___init__ : FD := ⟨2, 2, [.setf (.var 0) 37 (.var 1), .setf (.var 0) 29 (.lit .non)], false, []⟩
/-- 166: database.Session.run (self, statement, state, calls, answer, made) -/
def d_Session_run : FD := ⟨2, 6, [.ex (.meth (.fld (.var 0) 37) 42 []), .set 2 (.meth (.fld (.var 0) 37) 43 []), .ite (.isn true (.fld (.var 0) 29)) [.ex (.meth (.fld (.var 0) 37) 52 [(.call 127 [(.meth (.fld (.var 0) 29) 36 [(.var 2)]), (.var 1)])]), .ret (.meth (.fld (.var 0) 29) 37 [(.var 2), (.var 1)])] [], .ex (.lit .non), .set 3 (.call 127 [(.var 2), (.var 1)]), .ite (.call 13 [(.var 2), (.var 5)]) [.ex (.meth (.fld (.var 0) 37) 53 [(.var 3), (.var 5)])] [.ex (.meth (.fld (.var 0) 37) 52 [(.var 3)])], .ret (.var 4)], false, []⟩
/-- 167: database.Session.begin (self) -/
def d_Session_begin : FD := ⟨1, 1, [.ex (.meth (.fld (.var 0) 37) 42 []), .ite (.isn true (.fld (.var 0) 29)) [.ex (.lit .non)] [], .setf (.var 0) 29 (.make 6 [])], false, []⟩
/-- 168: database.Session._open_words (self) -/
def d_Session__open_words : FD := ⟨1, 1, [.ex (.meth (.fld (.var 0) 37) 42 []), .ite (.isn false (.fld (.var 0) 29)) [.ex (.lit .non)] [], .ret (.fld (.var 0) 29)], true, []⟩
/-- 169: database.Session.commit (self, words, state, calls, index, told, made) -/
def d_Session_commit : FD := ⟨1, 7, [.set 1 (.meth (.var 0) 59 []), .set 2 (.meth (.fld (.var 0) 37) 43 []), .unp (.tp [(.nm 4), (.nm 5), (.nm 6)]) (.meth (.var 1) 40 [(.var 2)]), .set 3 (.meth (.var 1) 41 [(.var 2)]), .setf (.var 0) 29 (.lit .non), .ite (.isn true (.var 4)) [.ex (.meth (.fld (.var 0) 37) 52 [(.var 3)]), .ret (.tup [(.var 4), (.var 5)])] [], .ite (.call 13 [(.var 2), (.var 6)]) [.ex (.meth (.fld (.var 0) 37) 53 [(.var 3), (.var 6)])] [.ex (.meth (.fld (.var 0) 37) 52 [(.var 3)])], .ret (.lit .non)], false, []⟩
/-- 170: database.Session.rollback (self) -/
def d_Session_rollback : FD := ⟨1, 1, [.ex (.meth (.var 0) 59 []), .setf (.var 0) 29 (.lit .non)], false, []⟩
/-- 171: database.Session.savepoint (self, name) -/
def d_Session_savepoint : FD := ⟨2, 2, [.ex (.meth (.meth (.var 0) 59 []) 38 [(.var 1)])], false, []⟩
/-- 172: database.Session.rollback_to (self, name) -/
def d_Session_rollback_to : FD := ⟨2, 2, [.ex (.meth (.meth (.var 0) 59 []) 39 [(.meth (.fld (.var 0) 37) 43 []), (.var 1)])], false, []⟩
/-- 173: disk.Disk.__init__ (self, sectors, _) -/
def d_Disk___init__ : FD := ⟨2, 3, [.ite (.bop false [(.not_ (.isi .int_ (.var 1))), (.isi .bool_ (.var 1)), (.not_ (.cmp2 .le .le (.glb 17) (.var 1) (.glb 18)))]) [.ex (.lit .non)] [], .setf (.var 0) 13 (.lit (.bl false)), .setf (.var 0) 14 (.lc true (.bin .mul false (.lst false [(.lit (.int 0))]) (.glb 19)) (.nm 2) (.rng1 (.var 1)) none [2]), .setf (.var 0) 15 (.blt .list_ true [(.fld (.var 0) 14)]), .setf (.var 0) 16 (.lst true []), .setf (.var 0) 17 (.lit (.bl true)), .setf (.var 0) 18 (.lit .non), .setf (.var 0) 19 (.lit (.int 0)), .setf (.var 0) 20 (.lit .non)], false, []⟩
/-- 174: disk.Disk.size (self) -/
def d_Disk_size : FD := ⟨1, 1, [.ret (.blt .len false [(.fld (.var 0) 14)])], true, []⟩
/-- 175: disk.Disk.read (self, index) -/
def d_Disk_read : FD := ⟨2, 2, [.ret (.blt .list_ false [(.idx (.fld (.var 0) 15) (.var 1))])], true, []⟩
/-- 176: disk.Disk.pending (self) -/
def d_Disk_pending : FD := ⟨1, 1, [.ret (.blt .len false [(.fld (.var 0) 16)])], true, []⟩
/-- 177: disk.Disk.counts (self) -/
def d_Disk_counts : FD := ⟨1, 1, [.ret (.tup [(.idx (.fld (.var 0) 20) (.lit (.str "reads"))), (.idx (.fld (.var 0) 20) (.lit (.str "writes"))), (.idx (.fld (.var 0) 20) (.lit (.str "logs"))), (.idx (.fld (.var 0) 20) (.lit (.str "syncs")))])], true, []⟩
/-- 178: disk.Disk.note_reads (self, count) -/
def d_Disk_note_reads : FD := ⟨2, 2, [.augi (.fld (.var 0) 20) (.lit (.str "reads")) .add (.var 1)], false, []⟩
/-- 179: disk.Disk.lose_power (self) -/
def d_Disk_lose_power : FD := ⟨1, 1, [.setf (.var 0) 17 (.lit (.bl false)), .setf (.var 0) 13 (.lit (.bl false)), .setf (.var 0) 18 (.lit .non), .augf (.var 0) 19 .add (.lit (.int 1))], false, []⟩
/-- 180: disk.Disk.operate (self) -/
def d_Disk_operate : FD := ⟨1, 1, [.ite (.bop true [(.fld (.var 0) 17), (.cmp .eq (.fld (.var 0) 18) (.lit (.int 0)))]) [.ex (.meth (.var 0) 66 [])] [], .ite (.not_ (.fld (.var 0) 17)) [.ex (.lit .non)] [], .ite (.isn true (.fld (.var 0) 18)) [.setf (.var 0) 18 (.bin .sub false (.fld (.var 0) 18) (.lit (.int 1)))] []], false, []⟩
/-- 181: disk.Disk.write (self, index, data) -/
def d_Disk_write : FD := ⟨3, 3, [.ex (.meth (.var 0) 67 []), .seti (.fld (.var 0) 15) (.var 1) (.blt .list_ false [(.var 2)]), .ex (.bm .append false (.fld (.var 0) 16) [(.tup [(.var 1), (.blt .list_ false [(.var 2)])])]), .ite (.cmp .lt (.var 1) (.call 46 [(.meth (.var 0) 61 [])])) [.augi (.fld (.var 0) 20) (.lit (.str "logs")) .add (.lit (.int 1))] [.augi (.fld (.var 0) 20) (.lit (.str "writes")) .add (.lit (.int 1))]], false, []⟩
/-- 182: disk.Disk.sync (self) -/
def d_Disk_sync : FD := ⟨1, 1, [.ex (.meth (.var 0) 67 []), .setf (.var 0) 14 (.blt .list_ true [(.fld (.var 0) 15)]), .setf (.var 0) 16 (.lst true []), .augi (.fld (.var 0) 20) (.lit (.str "syncs")) .add (.lit (.int 1))], false, []⟩
/-- 183: disk.Disk.fail_after (self, operations) -/
def d_Disk_fail_after : FD := ⟨2, 2, [.ite (.not_ (.fld (.var 0) 17)) [.ex (.lit .non)] [], .setf (.var 0) 18 (.var 1)], false, []⟩
/-- 184: disk.Disk.power (self, kept, arrives, index, data) -/
def d_Disk_power : FD := ⟨2, 5, [.ite (.fld (.var 0) 17) [.ex (.meth (.var 0) 66 [])] [], .for_ (.tp [(.nm 2), (.tp [(.nm 3), (.nm 4)])]) (.zip (.var 1) (.fld (.var 0) 16)) [.ite (.var 2) [.seti (.fld (.var 0) 14) (.var 3) (.var 4)] []], .setf (.var 0) 15 (.blt .list_ true [(.fld (.var 0) 14)]), .setf (.var 0) 16 (.lst true []), .setf (.var 0) 17 (.lit (.bl true))], false, []⟩
/-- 185: disk.Disk.is_on (self) -/
def d_Disk_is_on : FD := ⟨1, 1, [.ret (.fld (.var 0) 17)], true, []⟩
/-- 186: disk.Disk.losses (self) -/
def d_Disk_losses : FD := ⟨1, 1, [.ret (.fld (.var 0) 19)], true, []⟩
def d_Refused___init__ : FD := ⟨0, 0, [], true, []⟩
def fns : List FD := [d_value_key, d_row_key, d_key_of, d_key_order, d_State___init__, d_State__put, d_State__take, d_State__order_facts, d_State_all_items, d_State_has, d_State_copy, d_State_change, d_State_same_schema, d_between, d_write_number, d_write_integer, d_write_list, d_write_string, d_write_names, d_write_value, d_write_row, d_write_item, d_write_change, d_write_changes, d_write_image, d_Reader___init__, d_Reader_read_byte, d_Reader_read_choice, d_Reader_end, d_Reader_read_number, d_Reader_read_integer, d_Reader_read_count, d_Reader_read_character, d_Reader_read_string, d_Reader_read_names, d_Reader_read_value, d_Reader_read_row, d_Reader_read_item, d_Reader_read_change, d_Reader_read_changes, d_Reader_read_image, d_fixed, d_number_of, d_turn_of, d_write_block, d_read_block, d_region_start, d_area_size, d_area_start, d_head, d_read_head, d_counting_head, d_area_sectors, d_found, d__sector, d_pack, d_bucket_of_values, d_values_of, d_bucket, d__filled, d_relation_shape, d_rows_of_buckets, d_structure_shape, d_rooms, d_places, d_room_needed, d_offered, d_used_of_relation, d_used_of_bucket, d_pattern_values, d_read_sectors, d_all_read, d_differing, d_written, d_cost, d_excesses, d_laying, d_stands, d_going, d_way, d_next_works, d_first_least, d_Policy___init__, d_Policy_going, d_Policy_serve, d_Policy_hindsight, d_Policy_paper, d_is_number, d_is_row, d_is_table, d_has_form, d_ways_fit, d_works_fit, d_spends, d_judge, d_has_relation, d_names_in, d_check_relation, d_check_term, d_newly_bound, d_check, d_value_of, d_met, d_meetings, d_compared, d_total_of, d_ways_behind, d_answer, d_pattern_of, d_calls, d_meets, d_need, d_first_repeated, d_need_different, d_over, d_make_relation, d_drop_relation, d_need_row, d_add_fact, d_remove_fact, d_make_structure, d_take_structure, d_make_layout, d_leave_layout, d_ask, d_show, d_say, d_statement_calls, d_Store___init__, d_Store_new_turn, d_Store_write_all, d_Store_write_new, d_Store_can_hold, d_Store_fits, d_Store_commit, d_told_by, d_Run___init__, d_Run_go_back, d_Run_take, d_Words___init__, d_Words__run, d_Words_own, d_Words_say, d_Words_savepoint, d_Words_rollback_to, d_Words_again, d_Words_all_calls, d_Database___init__, d_Database_check_open, d_Database_state, d_Database__shape, d_Database__write, d_Database__whole, d_Database__write_all, d_Database__begin_phase, d_Database__move, d_Database__serve, d_Database__restart, d_Database_read_call, d_Database_commit_call, d_Database__commit_schema, d_Database_session, d_Database_status, d_Database_hindsight, d_Database_paper, d_Session___init__, d_Session_run, d_Session_begin, d_Session__open_words, d_Session_commit, d_Session_rollback, d_Session_savepoint, d_Session_rollback_to, d_Disk___init__, d_Disk_size, d_Disk_read, d_Disk_pending, d_Disk_counts, d_Disk_note_reads, d_Disk_lose_power, d_Disk_operate, d_Disk_write, d_Disk_sync, d_Disk_fail_after, d_Disk_power, d_Disk_is_on, d_Disk_losses, d_Refused___init__]
def cns : List D := [.tup [.str "relation", .str "fact", .str "structure", .str "layout"], .str " !\"#$", .str "&'()*+,-./0123456789:;<=>?@ABCDEFGHIJKLMNOPQRSTUVWXYZ[\\]^_`abcdefghijklmnopqrstuvwxyz{|}~", .int 60, .int 54, .scr [.int 82, .int 85, .int 76, .int 69], .int 53, .int 64, .tup [.int 0, .int 0, .int 0, .int 0, .int 0, .int 0, .int 0, .int 0, .int 0, .int 0, .int 0, .int 0, .int 0, .int 0, .int 0, .int 0, .int 0, .int 0, .int 0, .int 0, .int 0, .int 0, .int 0, .int 0, .int 0, .int 0, .int 0, .int 0, .int 0, .int 0, .int 0, .int 0, .int 0, .int 0, .int 0, .int 0, .int 0, .int 0, .int 0, .int 0, .int 0, .int 0, .int 0, .int 0, .int 0, .int 0, .int 0, .int 0, .int 0, .int 0, .int 0, .int 0, .int 0, .int 0, .int 0, .int 0, .int 0, .int 0, .int 0, .int 0, .int 0, .int 0, .int 0, .int 0], .int 1000000000000, .int 16, .int 1000, .int 40, .int 16, .int 8, .non, .int 1000, .int 60, .int 400, .int 64]
-- const 0: ('values', 'SORTS')
-- const 1: ('codes', 'BEFORE_PERCENT')
-- const 2: ('codes', 'AFTER_PERCENT')
-- const 3: ('codes', 'NUMBER_BYTES')
-- const 4: ('blocks', 'PIECE')
-- const 5: ('blocks', 'MARK')
-- const 6: ('blocks', 'HEAD_ZEROS')
-- const 7: ('shapes', 'SECTOR')
-- const 8: ('shapes', 'EMPTY')
-- const 9: ('papers', 'GREATEST')
-- const 10: ('papers', 'MOST_LAYOUTS')
-- const 11: ('papers', 'MOST_TASKS')
-- const 12: ('statements', 'MOST_ROOM')
-- const 13: ('statements', 'MOST_BUCKETS')
-- const 14: ('statements', 'MOST_SECTORS')
-- const 15: ('statements', 'FORMS')
-- const 16: ('database', 'MOST_TASKS')
-- const 17: ('disk', 'FEWEST')
-- const 18: ('disk', 'MOST')
-- const 19: ('disk', 'SECTOR')
-- fields: 0 relations, 1 facts, 2 structures, 3 layouts, 4 start, 5 stands, 6 ways, 7 now, 8 spent, 9 tasks, 10 works, 11 data, 12 at, 13 in_use, 14 lasting, 15 seen, 16 waiting, 17 powered, 18 left, 19 failures, 20 numbers, 21 disk, 22 commits, 23 state, 24 turn, 25 area, 26 place, 27 used, 28 marks, 29 _words, 30 _disk, 31 _losses, 32 _store, 33 _lies, 34 _layouts, 35 _policy, 36 _base, 37 _database, 38 problem
-- methods: 0 _put, 1 _take, 2 _order_facts, 3 all_items, 4 has, 5 copy, 6 change, 7 same_schema, 8 read_byte, 9 read_choice, 10 end, 11 read_number, 12 read_integer, 13 read_count, 14 read_character, 15 read_string, 16 read_names, 17 read_value, 18 read_row, 19 read_item, 20 read_change, 21 read_changes, 22 read_image, 23 going, 24 serve, 25 hindsight, 26 paper, 27 new_turn, 28 write_all, 29 write_new, 30 can_hold, 31 fits, 32 commit, 33 go_back, 34 take, 35 _run, 36 own, 37 say, 38 savepoint, 39 rollback_to, 40 again, 41 all_calls, 42 check_open, 43 state, 44 _shape, 45 _write, 46 _whole, 47 _write_all, 48 _begin_phase, 49 _move, 50 _serve, 51 _restart, 52 read_call, 53 commit_call, 54 _commit_schema, 55 session, 56 status, 57 run, 58 begin, 59 _open_words, 60 rollback, 61 size, 62 read, 63 pending, 64 counts, 65 note_reads, 66 lose_power, 67 operate, 68 write, 69 sync, 70 fail_after, 71 power, 72 is_on, 73 losses
end PT
namespace R
open PySem
/-! ### plain data: None, ints, texts, tuples, lists -/
mutual
def plD : Nat → D → Bool
  | _, .non => true
  | _, .int _ => true
  | _, .str x => PyData.strOk x
  | k + 1, .tup xs => plDs k xs
  | k + 1, .lst xs => plDs k xs
  | _, _ => false
def plDs : Nat → List D → Bool
  | _, [] => true
  | k, d :: ds => plD k d && plDs k ds
end
mutual
def pd : D → PyData
  | .non => .none
  | .int i => .int i
  | .str x => .str x
  | .tup xs => .tuple (pds xs)
  | .lst xs => .list (pds xs)
  | _ => .none
def pds : List D → List PyData
  | [] => []
  | d :: ds => pd d :: pds ds
end
mutual
theorem toP_pl {m : Mm} : ∀ (k : Nat) (d : D), plD k d = true → toP m (k + 1) d = some (pd d)
  | k, .non, _ => rfl
  | k, .int _, _ => rfl
  | k, .str _, _ => rfl
  | 0, .tup xs, h => by simp [plD] at h
  | k + 1, .tup xs, h => by
    simp only [plD] at h
    simp only [toP, toPs_pl k xs h, Option.map_some, pd]
  | 0, .lst xs, h => by simp [plD] at h
  | k + 1, .lst xs, h => by
    simp only [plD] at h
    simp only [toP, toPs_pl k xs h, Option.map_some, pd]
  | k, .bl _, h => by cases k <;> simp [plD] at h
  | k, .scr _, h => by cases k <;> simp [plD] at h
  | k, .dct _, h => by cases k <;> simp [plD] at h
  | k, .ins _ _, h => by cases k <;> simp [plD] at h
  | k, .ref _, h => by cases k <;> simp [plD] at h
theorem toPs_pl {m : Mm} : ∀ (k : Nat) (ds : List D), plDs k ds = true → ds.mapM (toP m (k + 1)) = some (pds ds)
  | k, [], _ => rfl
  | k, d :: ds, h => by
    simp only [plDs, Bool.and_eq_true] at h
    rw [List.mapM_cons, toP_pl k d h.1, toPs_pl k ds h.2]; rfl
end
mutual
theorem lay_pl : ∀ (k : Nat) (d : D), plD k d = true → PyData.canLay0 (pd d) = true
  | k, .non, _ => by simp only [pd, PyData.canLay0]
  | k, .int _, _ => by simp only [pd, PyData.canLay0]
  | k, .str z, h => by
    have h : PyData.strOk z = true := by cases k <;> simpa only [plD] using h
    simp only [pd, PyData.canLay0, h]
  | 0, .tup xs, h => by simp [plD] at h
  | k + 1, .tup xs, h => by
    simp only [plD] at h
    simp only [pd, PyData.canLay0, lays_pl k xs h]
  | 0, .lst xs, h => by simp [plD] at h
  | k + 1, .lst xs, h => by
    simp only [plD] at h
    simp only [pd, PyData.canLay0, lays_pl k xs h]
  | k, .bl _, h => by cases k <;> simp [plD] at h
  | k, .scr _, h => by cases k <;> simp [plD] at h
  | k, .dct _, h => by cases k <;> simp [plD] at h
  | k, .ins _ _, h => by cases k <;> simp [plD] at h
  | k, .ref _, h => by cases k <;> simp [plD] at h
theorem lays_pl : ∀ (k : Nat) (ds : List D), plDs k ds = true → PyData.canLayAll0 (pds ds) = true
  | k, [], _ => by simp only [pds, PyData.canLayAll0]
  | k, d :: ds, h => by
    simp only [plDs, Bool.and_eq_true] at h
    simp only [pds, PyData.canLayAll0, lay_pl k d h.1, lays_pl k ds h.2, Bool.and_self]
end
mutual
theorem dep_pl : ∀ (k : Nat) (d : D), plD k d = true → PyData.depth (pd d) ≤ k
  | k, .non, _ => by simp only [pd, PyData.depth]; omega
  | k, .int _, _ => by simp only [pd, PyData.depth]; omega
  | k, .str _, _ => by simp only [pd, PyData.depth]; omega
  | 0, .tup xs, h => by simp [plD] at h
  | k + 1, .tup xs, h => by
    simp only [plD] at h
    have := deps_pl k xs h
    simp only [pd, PyData.depth]; omega
  | 0, .lst xs, h => by simp [plD] at h
  | k + 1, .lst xs, h => by
    simp only [plD] at h
    have := deps_pl k xs h
    simp only [pd, PyData.depth]; omega
  | k, .bl _, h => by cases k <;> simp [plD] at h
  | k, .scr _, h => by cases k <;> simp [plD] at h
  | k, .dct _, h => by cases k <;> simp [plD] at h
  | k, .ins _ _, h => by cases k <;> simp [plD] at h
  | k, .ref _, h => by cases k <;> simp [plD] at h
theorem deps_pl : ∀ (k : Nat) (ds : List D), plDs k ds = true → PyData.depthAll (pds ds) ≤ k
  | k, [], _ => by simp only [pds, PyData.depthAll]; omega
  | k, d :: ds, h => by
    simp only [plDs, Bool.and_eq_true] at h
    have h1 := dep_pl k d h.1
    have h2 := deps_pl k ds h.2
    simp only [pds, PyData.depthAll]; omega
end
theorem shaped_pl {k : Nat} (hk : k ≤ 60) {d : D} (h : plD k d = true) : SeqAt.shaped (pd d) = true := by
  unfold SeqAt.shaped
  rw [lay_pl k d h, Bool.true_and]
  have := dep_pl k d h
  exact decide_eq_true (by omega)
mutual
theorem eqv_pl : ∀ (k : Nat) (a b : D), plD k a = true → plD k b = true → PyData.eqv (pd a) (pd b) = true → a = b
  | k, .non, b, _, hb, e => by
    cases b <;> first
      | rfl
      | (cases k <;> simp [plD] at hb; done)
      | (simp only [pd, PyData.eqv] at e; cases e)
  | k, .int i, b, _, hb, e => by
    cases b <;> first
      | (simp only [pd, PyData.eqv] at e; rw [beq_iff_eq.mp e]; done)
      | (cases k <;> simp [plD] at hb; done)
      | (simp only [pd, PyData.eqv] at e; cases e)
  | k, .str i, b, _, hb, e => by
    cases b <;> first
      | (simp only [pd, PyData.eqv] at e; rw [beq_iff_eq.mp e]; done)
      | (cases k <;> simp [plD] at hb; done)
      | (simp only [pd, PyData.eqv] at e; cases e)
  | 0, .tup xs, b, h, _, _ => by simp [plD] at h
  | k + 1, .tup xs, b, h, hb, e => by
    cases b <;> first
      | (simp only [pd, PyData.eqv] at e; simp only [plD] at h hb; rw [eqvs_pl k _ _ h hb e]; done)
      | (simp [plD] at hb; done)
      | (simp only [pd, PyData.eqv] at e; cases e)
  | 0, .lst xs, b, h, _, _ => by simp [plD] at h
  | k + 1, .lst xs, b, h, hb, e => by
    cases b <;> first
      | (simp only [pd, PyData.eqv] at e; simp only [plD] at h hb; rw [eqvs_pl k _ _ h hb e]; done)
      | (simp [plD] at hb; done)
      | (simp only [pd, PyData.eqv] at e; cases e)
  | k, .bl _, _, h, _, _ => by cases k <;> simp [plD] at h
  | k, .scr _, _, h, _, _ => by cases k <;> simp [plD] at h
  | k, .dct _, _, h, _, _ => by cases k <;> simp [plD] at h
  | k, .ins _ _, _, h, _, _ => by cases k <;> simp [plD] at h
  | k, .ref _, _, h, _, _ => by cases k <;> simp [plD] at h
theorem eqvs_pl : ∀ (k : Nat) (a b : List D), plDs k a = true → plDs k b = true → PyData.eqvAll (pds a) (pds b) = true → a = b
  | k, [], [], _, _, _ => rfl
  | k, [], _ :: _, _, _, e => by simp only [pds, PyData.eqvAll] at e; cases e
  | k, _ :: _, [], _, _, e => by simp only [pds, PyData.eqvAll] at e; cases e
  | k, a :: as, b :: bs, h, hb, e => by
    simp only [plDs, Bool.and_eq_true] at h hb
    simp only [pds, PyData.eqvAll, Bool.and_eq_true] at e
    rw [eqv_pl k a b h.1 hb.1 e.1, eqvs_pl k as bs h.2 hb.2 e.2]
end
open Classical in
theorem eq_pl {m : Mm} {a b : D} (ha : plD 8 a = true) (hb : plD 8 b = true) : eqD m a b = some (decide (a = b)) := by
  have core : (match toP m 9 a, toP m 9 b with
    | some p, some q => if SeqAt.shaped p = true ∧ SeqAt.shaped q = true then some (PyData.eqv p q) else none
    | _, _ => none) = some (decide (a = b)) := by
    rw [toP_pl 8 a ha, toP_pl 8 b hb]
    dsimp only
    rw [if_pos ⟨shaped_pl (by decide) ha, shaped_pl (by decide) hb⟩]
    by_cases q : a = b
    · subst q
      rw [decide_eq_true rfl, SeqAt.eqv_refl _ (lay_pl 8 a ha)]
    · rw [decide_eq_false q]
      cases e : PyData.eqv (pd a) (pd b) with
      | true => exact absurd (eqv_pl 8 a b ha hb e) q
      | false => rfl
  unfold eqD
  split
  · rename_i i j
    by_cases q : i = j
    · subst q; simp
    · have : (D.int i) ≠ .int j := fun z => q (D.int.inj z)
      rw [decide_eq_false this, beq_eq_false_iff_ne.mpr q]
  · rename_i i j
    by_cases q : i = j
    · subst q; simp
    · have : (D.str i) ≠ .str j := fun z => q (D.str.inj z)
      rw [decide_eq_false this, decide_eq_false q]
  · exact core
theorem eq_same {m : Mm} {a : D} (ha : plD 8 a = true) : eqD m a a = some true := by
  rw [eq_pl ha ha]; simp
theorem eq_diff {m : Mm} {a b : D} (ha : plD 8 a = true) (hb : plD 8 b = true) (q : a ≠ b) : eqD m a b = some false := by
  rw [eq_pl ha hb]; simp [q]
theorem pl_ns {k : Nat} : ∀ l : List Nat, plDs k (ns l) = true
  | [] => by simp only [ns_nil, plDs]
  | a :: l => by simp only [ns_cons, plDs, plD, pl_ns l, Bool.and_self]
theorem pl_bs {k : Nat} {l : List Nat} : plD (k + 1) (bs l) = true := by simp only [plD, pl_ns]
theorem pl_nss {k : Nat} : ∀ l : List (List Nat), plDs (k + 1) (nss l) = true
  | [] => by simp only [nss, List.map_nil, plDs]
  | a :: l => by
    have := pl_nss (k := k) l
    unfold nss at this ⊢
    simp only [List.map_cons, plDs, pl_bs, this, Bool.and_self]
theorem ns_inj : ∀ {a b : List Nat}, ns a = ns b → a = b
  | [], [], _ => rfl
  | [], _ :: _, h => by cases h
  | _ :: _, [], h => by cases h
  | a :: as, b :: bs, h => by
    rw [ns_cons, ns_cons] at h
    injection h with h1 h2
    injection h1 with h1
    rw [ns_inj h2, Int.ofNat.inj h1]
end R
namespace R
open PySem
theorem szNil : szOk 0 = true := rfl
theorem szOne : szOk (0 + 1) = true := rfl
theorem szTwo : szOk (0 + 1 + 1) = true := rfl
theorem szThree : szOk (0 + 1 + 1 + 1) = true := rfl
theorem szFour : szOk (0 + 1 + 1 + 1 + 1) = true := rfl
theorem szFive : szOk (0 + 1 + 1 + 1 + 1 + 1) = true := rfl
/-- a def that is run by itself, whatever its arguments hold, whose value holds no list -/
theorem call_runA {p : Pg} {n f : Nat} {fd : FD} {as as' : List D} {h : Mm} {d' : D} (hf : p.fns[f]? = some fd) (hl : as.length = fd.np) (hp : fd.pure_ = true) (ha : as.mapM (rsv h 9) = some as')
    (hb : Wp p (callN p n) fd.body ⟨as'.map some ++ List.replicate (fd.nl - fd.np) none, []⟩ fun f s => ∃ d, f = .rt d ∧ rsv s.hp 9 d = some d' ∧ own s.hp 9 d = some d') : callN p (n + 1) f as h = .ok d' h := by
  obtain ⟨f', s, e, d, rfl, r, o⟩ := hb
  by_cases hn : nrs as = true
  · have z : as.mapM (rsv h 9) = some as := mapM_rsv hn
    rw [z] at ha
    cases ha
    exact call_pure hf hl hp hn ⟨d, s, e, r⟩
  · exact call_own as' hf hl hp (by simpa using hn) ha ⟨d, s, e, o⟩
theorem mulOk_l {i j : Int} (h : i.natAbs ≤ 18446744073709551615) : mulOk i j = true := by
  unfold mulOk
  rw [Nat.ble_eq_true_of_le h, Bool.true_or, Bool.true_or]
theorem mulOk_r {i j : Int} (h : j.natAbs ≤ 18446744073709551615) : mulOk i j = true := by
  unfold mulOk
  rw [Nat.ble_eq_true_of_le h, Bool.or_true, Bool.true_or]
end R
namespace PB
open PySem R PT
structure BlkP (p : Pg) : Prop where
  f41 : p.fns[41]? = some d_fixed
  f42 : p.fns[42]? = some d_number_of
  f43 : p.fns[43]? = some d_turn_of
  f44 : p.fns[44]? = some d_write_block
  f45 : p.fns[45]? = some d_read_block
  f46 : p.fns[46]? = some d_region_start
  f47 : p.fns[47]? = some d_area_size
  f48 : p.fns[48]? = some d_area_start
  f49 : p.fns[49]? = some d_head
  f50 : p.fns[50]? = some d_read_head
  c4 : p.cns[4]? = some (.int 54)
  c5 : p.cns[5]? = some (.scr [.int 82, .int 85, .int 76, .int 69])
  c6 : p.cns[6]? = some (.int 53)
variable {p : Pg}
/-! ### numbers in bytes -/
def dg : Nat → Nat → List Nat
  | 0, _ => []
  | c + 1, a => a % 256 :: dg c (a / 256)
def fixL (c a : Nat) : List Nat := (dg c a).reverse
theorem dg_len : ∀ c a, (dg c a).length = c
  | 0, _ => rfl
  | c + 1, a => by rw [dg, List.length_cons, dg_len c]
theorem fixL_len (c a : Nat) : (fixL c a).length = c := by unfold fixL; rw [List.length_reverse, dg_len]
theorem dg_succ : ∀ c a, dg (c + 1) a = dg c a ++ [a / 256 ^ c % 256]
  | 0, a => by simp [dg]
  | c + 1, a => by
    rw [dg, dg_succ c (a / 256), dg, List.cons_append, Nat.div_div_eq_div_mul, Nat.pow_succ, Nat.mul_comm]
theorem divOk256 : divOk 256 = true := divOk_small (by decide) (by decide)
theorem emod256 (a : Nat) : (a : Int) % 256 = ((a % 256 : Nat) : Int) := by omega
theorem ediv256 (a : Nat) : (a : Int) / 256 = ((a / 256 : Nat) : Int) := by omega
theorem lt256 : decide ((0 : Int) < 256) = true := rfl
theorem fixed_ok (P : BlkP p) {n c a : Nat} (hc : c ≤ 1000) (h : Mm) : callN p (n + 1) 41 [.int (a : Int), .int (c : Int)] h = .ok (bs (fixL c a)) h := by
  refine call_run P.f41 rfl rfl rfl ?_
  simp only [d_fixed, List.map_cons, List.map_nil, List.cons_append, List.nil_append, List.replicate_succ, List.replicate_zero, Nat.reduceSub, List.replicate]
  refine wp_set (d := .ref 0) (h1 := [.lst []]) (by simp only [execSs, execS, evalE, evalEs, evalB, evalO, evalI, up_ok, Res.bind_ok, List.getElem?_cons_zero, List.getElem?_cons_succ, List.set_cons_zero, List.set_cons_succ, List.map_cons, List.map_nil, List.cons_append, List.nil_append, Nat.add_one_sub_one, Cn.d, if_true, wipe, bindT, bindTs, binD, arD, mkT, Bool.false_eq_true, if_false, Nat.reduceSub, Option.bind_some, szNil, szOne, szTwo, szThree, szFour, szFive, List.length_nil, List.length_cons, mkL] <;> rfl) ?_
  simp only [List.set_cons_zero, List.set_cons_succ]
  refine wp_for (n := c) (F := fun k => .int (k : Int)) (h1 := [.lst []]) (fun k s => ∃ x3, s = ⟨[some (.int ((a / 256 ^ k : Nat) : Int)), some (.int (c : Int)), some (.ref 0), x3], [.lst (ns (dg k a))]⟩)
    (it_rng (by simp only [execSs, execS, evalE, evalEs, evalB, evalO, evalI, up_ok, Res.bind_ok, List.getElem?_cons_zero, List.getElem?_cons_succ, List.set_cons_zero, List.set_cons_succ, List.map_cons, List.map_nil, List.cons_append, List.nil_append, Nat.add_one_sub_one, Cn.d, if_true, wipe, bindT, bindTs, binD, arD, mkT, Bool.false_eq_true, if_false, Nat.reduceSub, Option.bind_some, szNil, szOne, szTwo, szThree, szFour, szFive, List.length_nil, List.length_cons] <;> rfl) (by omega)) ⟨none, by simp [dg]⟩ ?_ ?_
  · rintro k s hk ⟨x3, rfl⟩
    refine ⟨_, rfl, ?_⟩
    refine wp_ex (h1 := [.lst (ns (dg (k + 1) a))]) (d := .non) (by
      have e : szOk ((ns (dg k a)).length + 1) = true := szOk_of (by rw [ns_len, dg_len]; omega)
      simp only [execSs, execS, evalE, evalEs, evalB, evalO, evalI, up_ok, Res.bind_ok, List.getElem?_cons_zero, List.getElem?_cons_succ, List.set_cons_zero, List.set_cons_succ, List.map_cons, List.map_nil, List.cons_append, List.nil_append, Nat.add_one_sub_one, Cn.d, if_true, wipe, bindT, bindTs, binD, arD, mkT, Bool.false_eq_true, if_false, Nat.reduceSub, Option.bind_some, szNil, szOne, szTwo, szThree, szFour, szFive, List.length_nil, List.length_cons, bmTy, lstOf, Option.isSome_some, bmD, e, lt256, dg_succ, ← ns_app, ns_cons, ns_nil, emod256] <;> rfl) ?_
    refine wp_set (d := .int ((a / 256 ^ (k + 1) : Nat) : Int)) (by
      simp only [execSs, execS, evalE, evalEs, evalB, evalO, evalI, up_ok, Res.bind_ok, List.getElem?_cons_zero, List.getElem?_cons_succ, List.set_cons_zero, List.set_cons_succ, List.map_cons, List.map_nil, List.cons_append, List.nil_append, Nat.add_one_sub_one, Cn.d, if_true, wipe, bindT, bindTs, binD, arD, mkT, Bool.false_eq_true, if_false, Nat.reduceSub, Option.bind_some, szNil, szOne, szTwo, szThree, szFour, szFive, List.length_nil, List.length_cons, divOk256, Nat.pow_succ, ← Nat.div_div_eq_div_mul, ediv256] <;> rfl) ?_
    exact wp_nil ⟨.inl rfl, _, rfl⟩
  rintro s ⟨x3, rfl⟩
  refine wp_frzv rfl (frz_ref rfl (nrs_ns _)) ?_
  simp only [List.set_cons_zero, List.set_cons_succ]
  refine wp_ret (d := bs (fixL c a)) (by
    have e : szOk (ns (fixL c a)).length = true := szOk_of (by rw [ns_len, fixL_len]; omega)
    have e2 : (ns (dg c a)).reverse = ns (fixL c a) := by unfold ns fixL; rw [List.map_reverse]
    simp only [execSs, execS, evalE, evalEs, evalB, evalO, evalI, up_ok, Res.bind_ok, List.getElem?_cons_zero, List.getElem?_cons_succ, List.set_cons_zero, List.set_cons_succ, List.map_cons, List.map_nil, List.cons_append, List.nil_append, Nat.add_one_sub_one, Cn.d, if_true, wipe, bindT, bindTs, binD, arD, mkT, Bool.false_eq_true, if_false, Nat.reduceSub, Option.bind_some, szNil, szOne, szTwo, szThree, szFour, szFive, List.length_nil, List.length_cons, lstOf, mkL, e, e2] <;> rfl) ⟨_, rfl, rsv9 (nr_bs _)⟩
end PB
namespace PB
open PySem R PT
variable {p : Pg}
theorem add_bs {m : Mm} {a b : List Nat} (hz : a.length + b.length ≤ 16777216) : addD false m (bs a) (bs b) = .ok (bs (a ++ b)) m := by
  rw [add_lst (by rw [ns_len, ns_len]; exact hz), ns_app]
theorem add_nss {m : Mm} {a b : List (List Nat)} (hz : a.length + b.length ≤ 16777216) : addD false m (.lst (nss a)) (.lst (nss b)) = .ok (.lst (nss (a ++ b))) m := by
  rw [add_lst (by rw [nss_len, nss_len]; exact hz), nss_app]
theorem mul_bs {m : Mm} {a k : Nat} (hk : k ≤ 1000000) : mulD false m (.lst [.int (a : Int)]) (.int (k : Int)) = .ok (bs (List.replicate k a)) m := by
  rw [mul_lst hk (by simp; omega), rep_one]
  unfold bs; rw [ns_rep]
theorem slc_bs {m : Mm} {a : List Nat} {l u : Option Int} (hz : a.length ≤ 16777216) : slcD false m (bs a) l u = .ok (bs (cutD a l u)) m := by
  rw [slc_lst (cut_le (by rw [ns_len]; exact hz))]
  unfold bs cutD
  rw [ns_len, ns_drop, ns_take]
theorem slc_nss {m : Mm} {a : List (List Nat)} {l u : Option Int} (hz : a.length ≤ 16777216) : slcD false m (.lst (nss a)) l u = .ok (.lst (nss (cutD a l u))) m := by
  rw [slc_lst (cut_le (by rw [nss_len]; exact hz))]
  unfold cutD
  rw [nss_len, nss_drop, nss_take]
theorem len_bs {m : Mm} {o : Bool} {a : List Nat} : bltD .len o [bs a] m = .ok (.int (a.length : Int)) m := by rw [len_lst, ns_len]
theorem len_nss {m : Mm} {o : Bool} {a : List (List Nat)} : bltD .len o [.lst (nss a)] m = .ok (.int (a.length : Int)) m := by rw [len_lst, nss_len]
theorem list_bs {m : Mm} {a : List Nat} (hz : a.length ≤ 16777216) : bltD .list_ false [bs a] m = .ok (bs a) m := list_lst (by rw [ns_len]; exact hz)
theorem mulOk256 {j : Int} : mulOk 256 j = true := mulOk_l (by decide)
def numL (l : List Nat) : Nat := l.foldl (fun t b => 256 * t + b) 0
theorem number_of_ok (P : BlkP p) {n : Nat} {l : List Nat} (h : Mm) : callN p (n + 1) 42 [bs l] h = .ok (.int (numL l : Int)) h := by
  refine call_run P.f42 rfl rfl (by simp only [nrs, nr_bs, Bool.and_self]) ?_
  simp only [d_number_of, List.map_cons, List.map_nil, List.cons_append, List.nil_append, List.replicate_succ, List.replicate_zero, Nat.reduceSub, List.replicate]
  refine wp_set (by simp only [execSs, execS, evalE, evalEs, evalB, evalO, evalI, up_ok, Res.bind_ok, List.getElem?_cons_zero, List.getElem?_cons_succ, List.set_cons_zero, List.set_cons_succ, List.map_cons, List.map_nil, List.cons_append, List.nil_append, Nat.add_one_sub_one, Cn.d, if_true, wipe, bindT, bindTs, binD, arD, mkT, Bool.false_eq_true, if_false, Nat.reduceSub, Option.bind_some, szNil, szOne, szTwo, szThree, szFour, szFive, List.length_nil, List.length_cons] <;> rfl) ?_
  simp only [List.set_cons_zero, List.set_cons_succ]
  refine wp_forR (α := Nat) (F := fun n => .int (n : Int)) (xs := l) (h1 := []) (fun xs s => ∃ t x2, s = ⟨[some (bs l), some (.int ((t : Nat) : Int)), x2], []⟩ ∧ xs.foldl (fun t b => 256 * t + b) t = numL l) (by simp only [execSs, execS, evalE, evalEs, evalB, evalO, evalI, up_ok, Res.bind_ok, List.getElem?_cons_zero, List.getElem?_cons_succ, List.set_cons_zero, List.set_cons_succ, List.map_cons, List.map_nil, List.cons_append, List.nil_append, Nat.add_one_sub_one, Cn.d, if_true, wipe, bindT, bindTs, binD, arD, mkT, Bool.false_eq_true, if_false, Nat.reduceSub, Option.bind_some, szNil, szOne, szTwo, szThree, szFour, szFive, List.length_nil, List.length_cons] <;> rfl) ⟨0, none, rfl, rfl⟩ ?_ ?_
  · rintro a xs s ⟨t, x2, rfl, e⟩
    refine ⟨_, rfl, ?_⟩
    refine wp_set (d := .int ((256 * t + a : Nat) : Int)) (by simp only [execSs, execS, evalE, evalEs, evalB, evalO, evalI, up_ok, Res.bind_ok, List.getElem?_cons_zero, List.getElem?_cons_succ, List.set_cons_zero, List.set_cons_succ, List.map_cons, List.map_nil, List.cons_append, List.nil_append, Nat.add_one_sub_one, Cn.d, if_true, wipe, bindT, bindTs, binD, arD, mkT, Bool.false_eq_true, if_false, Nat.reduceSub, Option.bind_some, szNil, szOne, szTwo, szThree, szFour, szFive, List.length_nil, List.length_cons, mulD, mulOk256, addD] <;> rfl) ?_
    exact wp_nil ⟨256 * t + a, _, rfl, e⟩
  rintro s ⟨t, x2, rfl, e⟩
  have e : t = numL l := e
  subst e
  refine wp_ret (by simp only [execSs, execS, evalE, evalEs, evalB, evalO, evalI, up_ok, Res.bind_ok, List.getElem?_cons_zero, List.getElem?_cons_succ, List.set_cons_zero, List.set_cons_succ, List.map_cons, List.map_nil, List.cons_append, List.nil_append, Nat.add_one_sub_one, Cn.d, if_true, wipe, bindT, bindTs, binD, arD, mkT, Bool.false_eq_true, if_false, Nat.reduceSub, Option.bind_some, szNil, szOne, szTwo, szThree, szFour, szFive, List.length_nil, List.length_cons] <;> rfl) ?_
  exact ⟨_, rfl, rsv9 rfl⟩
theorem numL_app (a : List Nat) (b : Nat) : numL (a ++ [b]) = 256 * numL a + b := by unfold numL; rw [List.foldl_append]; rfl
theorem fixL_succ (c a : Nat) : fixL (c + 1) a = fixL c (a / 256) ++ [a % 256] := by unfold fixL; rw [dg, List.reverse_cons]
theorem num_fix : ∀ c a, numL (fixL c a) = a % 256 ^ c
  | 0, a => by simp [fixL, dg, numL, Nat.mod_one]
  | c + 1, a => by
    rw [fixL_succ, numL_app, num_fix c, Nat.pow_succ, Nat.mul_comm (256 ^ c) 256, Nat.mod_mul]; omega
theorem num_fix' {c a : Nat} (h : a < 256 ^ c) : numL (fixL c a) = a := by rw [num_fix, Nat.mod_eq_of_lt h]
theorem turn_of_ok (P : BlkP p) {n : Nat} {l : List Nat} (hz : l.length ≤ 16777216) (h : Mm) : callN p (n + 2) 43 [bs l] h = .ok (.int (numL (l.take 6) : Int)) h := by
  refine call_run P.f43 rfl rfl (by simp only [nrs, nr_bs, Bool.and_self]) ?_
  simp only [d_turn_of, List.map_cons, List.map_nil, List.cons_append, List.nil_append, List.replicate_succ, List.replicate_zero, Nat.reduceSub, List.replicate]
  have e : cutD l none (some 6) = l.take 6 := cutD_to 6
  refine wp_ret (by simp only [execSs, execS, evalE, evalEs, evalB, evalO, evalI, up_ok, Res.bind_ok, List.getElem?_cons_zero, List.getElem?_cons_succ, List.set_cons_zero, List.set_cons_succ, List.map_cons, List.map_nil, List.cons_append, List.nil_append, Nat.add_one_sub_one, Cn.d, if_true, wipe, bindT, bindTs, binD, arD, mkT, Bool.false_eq_true, if_false, Nat.reduceSub, Option.bind_some, szNil, szOne, szTwo, szThree, szFour, szFive, List.length_nil, List.length_cons, slc_bs hz, e, number_of_ok P] <;> rfl) ?_
  exact ⟨_, rfl, rsv9 rfl⟩
/-! ### blocks -/
def nChunk (l : Nat) : Nat := (l + 53) / 54
def chunks (c : List Nat) : List (List Nat) := (List.range (nChunk c.length)).map fun k => (c.drop (54 * k)).take 54
def wbS (f pc : List Nat) : List Nat := f ++ pc ++ List.replicate (54 - pc.length) 0
def wb (t : Nat) (l : List Nat) : List (List Nat) :=
  (chunks (fixL 4 l.length ++ l)).map (wbS (fixL 6 t ++ fixL 4 (nChunk (l.length + 4))))
theorem chunks_len (c : List Nat) : (chunks c).length = nChunk c.length := by unfold chunks; rw [List.length_map, List.length_range]
theorem chunk_le {c pc : List Nat} (h : pc ∈ chunks c) : pc.length ≤ 54 := by
  obtain ⟨k, _, rfl⟩ := List.mem_map.mp h
  rw [List.length_take]; omega
theorem rng54 {l : Nat} (h : l ≤ 1000000) : rngOk 0 (l : Int) 54 = true ∧ Builtin.Range.rangeSize 0 (l : Int) 54 = (nChunk l : Int) := by
  have e : Builtin.Range.rangeSize 0 (l : Int) 54 = (nChunk l : Int) := by
    unfold Builtin.Range.rangeSize nChunk
    rw [if_pos (by decide)]
    split
    · omega
    · have : l = 0 := by omega
      subst this; rfl
  refine ⟨?_, e⟩
  have fits : ∀ i : Int, -20000000 ≤ i → i ≤ 20000000 → Builtin.Range.rangeFitsLong i = true := fun i h1 h2 => by
    unfold Builtin.Range.rangeFitsLong
    simp only [Bool.and_eq_true, decide_eq_true_eq]
    omega
  have hn : nChunk l ≤ 20000 := by unfold nChunk; omega
  have s : Builtin.Range.small 0 (l : Int) 54 = true := by
    unfold Builtin.Range.small
    rw [e, fits 0 (by omega) (by omega), fits (l : Int) (by omega) (by omega), fits 54 (by omega) (by omega), fits (nChunk l : Int) (by omega) (by omega)]
    simp only [Bool.and_true, Bool.true_and, Bool.or_eq_true, if_pos (show (54 : Int) > 0 by decide)]
    exact .inr (fits _ (by omega) (by omega))
  unfold rngOk
  rw [s, e]
  simp only [Bool.and_true, Bool.and_eq_true, decide_eq_true_eq]
  exact ⟨⟨by decide, rfl⟩, by omega⟩
theorem it_rng3 {c : Calls} {a b k : ME} {sl : List (Option D)} {h h1 h2 h3 : Mm} {x y z : Int} {n : Nat} (ea : evalE p c a sl h = .ok (.int x) h1) (eb : evalE p c b sl h1 = .ok (.int y) h2) (ek : evalE p c k sl h2 = .ok (.int z) h3) (q : rngOk x y z = true) (e : Builtin.Range.rangeSize x y z = (n : Int)) :
    evalI p c (.rng3 a b k) sl h = .ok (rngL x n z) h3 := by
  simp only [evalI, ea, eb, ek, Res.bind_ok]
  rw [if_pos q, e, Int.toNat_natCast]
theorem rngL54 (n : Nat) : rngL 0 n 54 = (List.range n).map fun k => .int ((54 * k : Nat) : Int) := by
  unfold rngL
  refine List.map_congr_left fun k _ => ?_
  congr 1; omega
end PB
namespace PB
open PySem R PT
variable {p : Pg}
theorem pieces_ok (P : BlkP p) {c : Calls} {C : List Nat} (hC : C.length ≤ 200000) (a0 a1 a3 a4 a5 a6 : Option D) : evalE p c (.lc false (.slc false (.var 2) (some (.var 5)) (some (.bin .add false (.var 5) (.glb 4)))) (.nm 5) (.rng3 (.lit (.int 0)) (.blt .len false [.var 2]) (.glb 4)) none [5]) [a0, a1, some (bs C), a3, a4, a5, a6] [] = .ok (.lst (nss (chunks C))) [] := by
  have rg := rng54 (l := C.length) (by omega)
  have z := lc_tab (p := p) (c := c) (elt := .slc false (.var 2) (some (.var 5)) (some (.bin .add false (.var 5) (.glb 4)))) (g := .nm 5) (it := .rng3 (.lit (.int 0)) (.blt .len false [.var 2]) (.glb 4)) (own := [5]) (sl := [a0, a1, some (bs C), a3, a4, a5, a6]) (h := []) (h1 := [])
      (n := nChunk C.length) (F := fun k => .int ((54 * k : Nat) : Int)) (G := fun k => bs ((C.drop (54 * k)).take 54))
      (by rw [← rngL54]; exact it_rng3 (h1 := []) (h2 := []) (by simp only [evalE, Cn.d]) (by simp only [execSs, execS, evalE, evalEs, evalB, evalO, evalI, up_ok, Res.bind_ok, List.getElem?_cons_zero, List.getElem?_cons_succ, List.set_cons_zero, List.set_cons_succ, List.map_cons, List.map_nil, List.cons_append, List.nil_append, Nat.add_one_sub_one, Cn.d, if_true, wipe, bindT, bindTs, binD, arD, mkT, Bool.false_eq_true, if_false, Nat.reduceSub, Option.bind_some, szNil, szOne, szTwo, szThree, szFour, szFive, List.length_nil, List.length_cons, len_bs]) (by simp only [evalE, P.c4]) rg.1 rg.2) (by unfold nChunk; omega) (fun k hk => ⟨_, rfl, by
        have e : cutD C (some ((54 * k : Nat) : Int)) (some ((54 * k : Nat) + 54)) = (C.drop (54 * k)).take 54 := by
          have := cutD_nat (xs := C) (54 * k) (54 * k + 54)
          rw [Nat.add_sub_cancel_left] at this
          exact this
        simp only [execSs, execS, evalE, evalEs, evalB, evalO, evalI, up_ok, Res.bind_ok, List.getElem?_cons_zero, List.getElem?_cons_succ, List.set_cons_zero, List.set_cons_succ, List.map_cons, List.map_nil, List.cons_append, List.nil_append, Nat.add_one_sub_one, Cn.d, if_true, wipe, bindT, bindTs, binD, arD, mkT, Bool.false_eq_true, if_false, Nat.reduceSub, Option.bind_some, szNil, szOne, szTwo, szThree, szFour, szFive, List.length_nil, List.length_cons, P.c4, addD, slc_bs (show C.length ≤ 16777216 by omega), e]⟩)
  rw [z]
  unfold tab nss chunks
  rw [List.map_map]; rfl
theorem sects_ok (P : BlkP p) {c : Calls} {C f : List Nat} (hC : C.length ≤ 200000) (hf : f.length = 10) (a0 a1 a2 a5 a6 : Option D) : evalE p c (.lc false (.bin .add false (.bin .add false (.var 4) (.var 6)) (.bin .mul false (.lst false [(.lit (.int 0))]) (.bin .sub false (.glb 4) (.blt .len false [(.var 6)])))) (.nm 6) (.seq (.var 3)) none [6]) [a0, a1, a2, some (.lst (nss (chunks C))), some (bs f), a5, a6] [] = .ok (.lst (nss ((chunks C).map (wbS f)))) [] := by
  refine (lc_list (obj := false) (xs := chunks C) (F := bs) (G := fun pc => bs (wbS f pc)) (h1 := []) (by simp only [execSs, execS, evalE, evalEs, evalB, evalO, evalI, up_ok, Res.bind_ok, List.getElem?_cons_zero, List.getElem?_cons_succ, List.set_cons_zero, List.set_cons_succ, List.map_cons, List.map_nil, List.cons_append, List.nil_append, Nat.add_one_sub_one, Cn.d, if_true, wipe, bindT, bindTs, binD, arD, mkT, Bool.false_eq_true, if_false, Nat.reduceSub, Option.bind_some, szNil, szOne, szTwo, szThree, szFour, szFive, List.length_nil, List.length_cons] <;> rfl) (by rw [chunks_len]; unfold nChunk; omega) fun pc hpc => ⟨_, rfl, ?_⟩).trans ?_
  · have hp := chunk_le hpc
    have a1 : ∀ m, addD false m (bs f) (bs pc) = .ok (bs (f ++ pc)) m := fun m => add_bs (by omega)
    have i1 : (54 : Int) - (pc.length : Int) = ((54 - pc.length : Nat) : Int) := by omega
    have m1 : ∀ m, mulD false m (.lst [.int 0]) (.int ((54 - pc.length : Nat) : Int)) = .ok (bs (List.replicate (54 - pc.length) 0)) m := fun m => mul_bs (a := 0) (by omega)
    have a2 : ∀ m, addD false m (bs (f ++ pc)) (bs (List.replicate (54 - pc.length) 0)) = .ok (bs (wbS f pc)) m := fun m => add_bs (by rw [List.length_append, List.length_replicate]; omega)
    simp only [execSs, execS, evalE, evalEs, evalB, evalO, evalI, up_ok, Res.bind_ok, List.getElem?_cons_zero, List.getElem?_cons_succ, List.set_cons_zero, List.set_cons_succ, List.map_cons, List.map_nil, List.cons_append, List.nil_append, Nat.add_one_sub_one, Cn.d, if_true, wipe, bindT, bindTs, binD, arD, mkT, Bool.false_eq_true, if_false, Nat.reduceSub, Option.bind_some, szNil, szOne, szTwo, szThree, szFour, szFive, List.length_nil, List.length_cons, a1, P.c4, len_bs, i1, mkL, m1, a2]
  · rw [if_neg Bool.false_ne_true]
    unfold nss
    rw [List.map_map]; rfl
theorem write_block_ok (P : BlkP p) {n t : Nat} {l : List Nat} (hl : l.length ≤ 100000) (h : Mm) : callN p (n + 2) 44 [.int (t : Int), bs l] h = .ok (.lst (nss (wb t l))) h := by
  refine call_run P.f44 rfl rfl (by simp only [nrs, nr, nrs_ns, Bool.and_self]) ?_
  simp only [d_write_block, List.map_cons, List.map_nil, List.cons_append, List.nil_append, List.replicate_succ, List.replicate_zero, Nat.reduceSub, List.replicate]
  have f4 := fixL_len 4 l.length
  have e1 : ∀ m, addD false m (bs (fixL 4 l.length)) (bs l) = .ok (bs (fixL 4 l.length ++ l)) m := fun m => add_bs (by omega)
  have q1 : ∀ (a : Nat) m, callN p (n + 1) 41 [.int (a : Int), .int 4] m = .ok (bs (fixL 4 a)) m := fun a m => fixed_ok P (show 4 ≤ 1000 by decide) m
  have q2 : ∀ m, callN p (n + 1) 41 [.int (t : Int), .int 6] m = .ok (bs (fixL 6 t)) m := fun m => fixed_ok P (show 6 ≤ 1000 by decide) m
  have cl : (fixL 4 l.length ++ l).length = l.length + 4 := by rw [List.length_append, f4]; omega
  refine wp_set (d := bs (fixL 4 l.length ++ l)) (h1 := []) (by simp only [execSs, execS, evalE, evalEs, evalB, evalO, evalI, up_ok, Res.bind_ok, List.getElem?_cons_zero, List.getElem?_cons_succ, List.set_cons_zero, List.set_cons_succ, List.map_cons, List.map_nil, List.cons_append, List.nil_append, Nat.add_one_sub_one, Cn.d, if_true, wipe, bindT, bindTs, binD, arD, mkT, Bool.false_eq_true, if_false, Nat.reduceSub, Option.bind_some, szNil, szOne, szTwo, szThree, szFour, szFive, List.length_nil, List.length_cons, len_bs, q1, list_bs (show l.length ≤ 16777216 by omega), e1]) ?_
  simp only [List.set_cons_zero, List.set_cons_succ]
  refine wp_set (pieces_ok P (by omega) _ _ _ _ _ _) ?_
  simp only [List.set_cons_zero, List.set_cons_succ]
  have cc : (chunks (fixL 4 l.length ++ l)).length = nChunk (l.length + 4) := by rw [chunks_len, cl]
  have e2 : ∀ m, addD false m (bs (fixL 6 t)) (bs (fixL 4 (nChunk (l.length + 4)))) = .ok (bs (fixL 6 t ++ fixL 4 (nChunk (l.length + 4)))) m := fun m => add_bs (by rw [fixL_len, fixL_len]; omega)
  refine wp_set (d := bs (fixL 6 t ++ fixL 4 (nChunk (l.length + 4)))) (h1 := []) (by simp only [execSs, execS, evalE, evalEs, evalB, evalO, evalI, up_ok, Res.bind_ok, List.getElem?_cons_zero, List.getElem?_cons_succ, List.set_cons_zero, List.set_cons_succ, List.map_cons, List.map_nil, List.cons_append, List.nil_append, Nat.add_one_sub_one, Cn.d, if_true, wipe, bindT, bindTs, binD, arD, mkT, Bool.false_eq_true, if_false, Nat.reduceSub, Option.bind_some, szNil, szOne, szTwo, szThree, szFour, szFive, List.length_nil, List.length_cons, len_nss, cc, q1, q2, e2]) ?_
  simp only [List.set_cons_zero, List.set_cons_succ]
  refine wp_ret (sects_ok P (by omega) (by rw [List.length_append, fixL_len, fixL_len]) _ _ _ _ _) ?_
  exact ⟨_, rfl, rsv9 (by simp only [nr, nrs_nss])⟩
/-! ### reading a block -/
/-- the content of the sectors, if all have the turn -/
def ctn (t : Nat) : List (List Nat) → Option (List Nat)
  | [] => some []
  | s :: r => if numL (s.take 6) = t then (ctn t r).map fun c => s.drop 10 ++ c else none
def cntOf (S : List (List Nat)) : Nat := match S with | [] => 0 | s :: _ => numL ((s.drop 6).take 4)
def rb (S : List (List Nat)) (t : Nat) : Option (List Nat × Nat) :=
  if 1 ≤ cntOf S ∧ cntOf S ≤ S.length then
    match ctn t (S.take (cntOf S)) with
    | some c => if numL (c.take 4) + 4 ≤ c.length then some ((c.drop 4).take (numL (c.take 4)), cntOf S) else none
    | none => none
  else none
def rbD : Option (List Nat × Nat) → D
  | none => .non
  | some (l, c) => .tup [bs l, .int (c : Int)]
theorem ctn_acc {t : Nat} : ∀ (S : List (List Nat)) (acc : List Nat) (r : Option (List Nat)), (∀ c, ctn t S = some c → r = some (acc ++ c)) → (ctn t S = none → r = none) → r = (ctn t S).map (acc ++ ·)
  | S, acc, r, h1, h2 => by
    cases q : ctn t S with
    | none => exact h2 q
    | some c => exact h1 c q
end PB
namespace PB
open PySem R PT
variable {p : Pg}
theorem eq_int {m : Mm} {i j : Int} : cmpD .eq m (.int i) (.int j) = some (decide (i = j)) := by
  simp only [cmpD, eqD]
  by_cases h : i = j
  · subst h; simp
  · rw [decide_eq_false h, beq_eq_false_iff_ne.mpr h]
theorem ne_int {m : Mm} {i j : Int} : cmpD .ne m (.int i) (.int j) = some (decide (i ≠ j)) := by
  simp only [cmpD, eqD, Option.map_some]
  by_cases h : i = j
  · subst h; simp
  · rw [decide_eq_true h, beq_eq_false_iff_ne.mpr h]; rfl
theorem le_int {m : Mm} {i j : Int} : cmpD .le m (.int i) (.int j) = some (decide (i ≤ j)) := rfl
theorem lt_int {m : Mm} {i j : Int} : cmpD .lt m (.int i) (.int j) = some (decide (i < j)) := rfl
theorem gt_int {m : Mm} {i j : Int} : cmpD .gt m (.int i) (.int j) = some (decide (j < i)) := rfl
theorem ge_int {m : Mm} {i j : Int} : cmpD .ge m (.int i) (.int j) = some (decide (j ≤ i)) := rfl
theorem truth_bl {m : Mm} {b : Bool} : truthD m (.bl b) = some b := rfl
theorem cut_6_10 {l : List Nat} : cutD l (some 6) (some 10) = (l.drop 6).take 4 := cutD_nat 6 10
theorem cut_4_10 {l : List Nat} : cutD l (some 4) (some 10) = (l.drop 4).take 6 := cutD_nat 4 10
theorem cut_10 {l : List Nat} : cutD l (some 10) none = l.drop 10 := cutD_from 10
theorem cut_4 {l : List Nat} : cutD l none (some 4) = l.take 4 := cutD_to 4
theorem read_core (P : BlkP p) {n t : Nat} {S : List (List Nat)} (hS : S.length ≤ 1000) (hs : ∀ s ∈ S, s.length ≤ 64) :
    Wp p (callN p (n + 2)) d_read_block.body ⟨[some (.lst (nss S)), some (.int (t : Int)), none, none, none, none], []⟩ fun f s => f = .rt (rbD (rb S t)) := by
  simp only [d_read_block, List.map_cons, List.map_nil, List.cons_append, List.nil_append, List.replicate_succ, List.replicate_zero, Nat.reduceSub, List.replicate]
  cases S with
  | nil =>
    refine wp_then (x := .bl true) (by simp only [execSs, execS, evalE, evalEs, evalB, evalO, evalI, up_ok, Res.bind_ok, List.getElem?_cons_zero, List.getElem?_cons_succ, List.set_cons_zero, List.set_cons_succ, List.map_cons, List.map_nil, List.cons_append, List.nil_append, Nat.add_one_sub_one, Cn.d, if_true, wipe, bindT, bindTs, binD, arD, mkT, Bool.false_eq_true, if_false, Nat.reduceSub, Option.bind_some, szNil, szOne, szTwo, szThree, szFour, szFive, List.length_nil, List.length_cons, len_nss, eq_int] <;> rfl) rfl ?_
    refine wp_ret (by simp only [execSs, execS, evalE, evalEs, evalB, evalO, evalI, up_ok, Res.bind_ok, List.getElem?_cons_zero, List.getElem?_cons_succ, List.set_cons_zero, List.set_cons_succ, List.map_cons, List.map_nil, List.cons_append, List.nil_append, Nat.add_one_sub_one, Cn.d, if_true, wipe, bindT, bindTs, binD, arD, mkT, Bool.false_eq_true, if_false, Nat.reduceSub, Option.bind_some, szNil, szOne, szTwo, szThree, szFour, szFive, List.length_nil, List.length_cons] <;> rfl) ?_
    rfl
  | cons s0 S' =>
    refine wp_else (x := .bl false) (by
      have e : decide (((S'.length + 1 : Nat) : Int) = 0) = false := decide_eq_false (by omega)
      simp only [execSs, execS, evalE, evalEs, evalB, evalO, evalI, up_ok, Res.bind_ok, List.getElem?_cons_zero, List.getElem?_cons_succ, List.set_cons_zero, List.set_cons_succ, List.map_cons, List.map_nil, List.cons_append, List.nil_append, Nat.add_one_sub_one, Cn.d, if_true, wipe, bindT, bindTs, binD, arD, mkT, Bool.false_eq_true, if_false, Nat.reduceSub, Option.bind_some, szNil, szOne, szTwo, szThree, szFour, szFive, List.length_nil, List.length_cons, len_nss, eq_int, e] <;> rfl) rfl (wp_nil ?_)
    have h0 := hs s0 List.mem_cons_self
    have i0 : ∀ m : Mm, idxD m (.lst (nss (s0 :: S'))) (.int 0) = some (bs s0) := fun m => (idx_lst' (k := 0)).trans rfl
    have cdef : cntOf (s0 :: S') = numL ((s0.drop 6).take 4) := rfl
    refine wp_set (d := .int (cntOf (s0 :: S') : Int)) (h1 := []) (by
      simp only [execSs, execS, evalE, evalEs, evalB, evalO, evalI, up_ok, Res.bind_ok, List.getElem?_cons_zero, List.getElem?_cons_succ, List.set_cons_zero, List.set_cons_succ, List.map_cons, List.map_nil, List.cons_append, List.nil_append, Nat.add_one_sub_one, Cn.d, if_true, wipe, bindT, bindTs, binD, arD, mkT, Bool.false_eq_true, if_false, Nat.reduceSub, Option.bind_some, szNil, szOne, szTwo, szThree, szFour, szFive, List.length_nil, List.length_cons, i0, slc_bs (show s0.length ≤ 16777216 by omega), cut_6_10, number_of_ok P, cdef]) ?_
    simp only [List.set_cons_zero, List.set_cons_succ]
    generalize hk : cntOf (s0 :: S') = k
    generalize hS2 : s0 :: S' = S at *
    by_cases c1 : 1 ≤ k ∧ k ≤ S.length
    · refine wp_else (x := .bl false) (by
        have d1 : decide ((1 : Int) ≤ (k : Int)) = true := decide_eq_true (by omega)
        have d2 : decide ((k : Int) ≤ (S.length : Int)) = true := decide_eq_true (by omega)
        simp only [execSs, execS, evalE, evalEs, evalB, evalO, evalI, up_ok, Res.bind_ok, List.getElem?_cons_zero, List.getElem?_cons_succ, List.set_cons_zero, List.set_cons_succ, List.map_cons, List.map_nil, List.cons_append, List.nil_append, Nat.add_one_sub_one, Cn.d, if_true, wipe, bindT, bindTs, binD, arD, mkT, Bool.false_eq_true, if_false, Nat.reduceSub, Option.bind_some, szNil, szOne, szTwo, szThree, szFour, szFive, List.length_nil, List.length_cons, le_int, d1, d2, len_nss, truth_bl] <;> rfl) rfl (wp_nil ?_)
      refine wp_set (d := bs []) (h1 := []) (by simp only [execSs, execS, evalE, evalEs, evalB, evalO, evalI, up_ok, Res.bind_ok, List.getElem?_cons_zero, List.getElem?_cons_succ, List.set_cons_zero, List.set_cons_succ, List.map_cons, List.map_nil, List.cons_append, List.nil_append, Nat.add_one_sub_one, Cn.d, if_true, wipe, bindT, bindTs, binD, arD, mkT, Bool.false_eq_true, if_false, Nat.reduceSub, Option.bind_some, szNil, szOne, szTwo, szThree, szFour, szFive, List.length_nil, List.length_cons, mkL] <;> rfl) ?_
      simp only [List.set_cons_zero, List.set_cons_succ]
      have tk : cutD S none (some (k : Int)) = S.take k := cutD_to k
      have er : rb S t = match ctn t (S.take k) with
        | some c => if numL (c.take 4) + 4 ≤ c.length then some ((c.drop 4).take (numL (c.take 4)), k) else none
        | none => none := by unfold rb; rw [hk, if_pos c1] <;> rfl
      refine wp_forR (α := List Nat) (F := bs) (xs := S.take k) (h1 := []) (fun rest s => ∃ acc x4, s = ⟨[some (.lst (nss S)), some (.int (t : Int)), some (.int (k : Int)), some (bs acc), x4, none], []⟩ ∧
          acc.length + 64 * rest.length ≤ 64000 ∧ (∀ r ∈ rest, r.length ≤ 64) ∧ ctn t (S.take k) = (ctn t rest).map (acc ++ ·))
        (by simp only [execSs, execS, evalE, evalEs, evalB, evalO, evalI, up_ok, Res.bind_ok, List.getElem?_cons_zero, List.getElem?_cons_succ, List.set_cons_zero, List.set_cons_succ, List.map_cons, List.map_nil, List.cons_append, List.nil_append, Nat.add_one_sub_one, Cn.d, if_true, wipe, bindT, bindTs, binD, arD, mkT, Bool.false_eq_true, if_false, Nat.reduceSub, Option.bind_some, szNil, szOne, szTwo, szThree, szFour, szFive, List.length_nil, List.length_cons, slc_nss (show S.length ≤ 16777216 by omega), tk] <;> rfl) ⟨[], none, rfl, by rw [List.length_nil, List.length_take]; omega, fun r hr => hs r (List.mem_of_mem_take hr), by simp⟩ ?_ ?_
      · rintro a rest s ⟨acc, x4, rfl, hl, hr, hc⟩
        have ha := hr a List.mem_cons_self
        rw [List.length_cons] at hl
        refine ⟨_, rfl, ?_⟩
        simp only [List.set_cons_zero, List.set_cons_succ]
        have tq := turn_of_ok P (n := n) (l := a) (by omega)
        by_cases ht : numL (a.take 6) = t
        · refine wp_else (x := .bl false) (by
            have d1 : decide (((numL (a.take 6) : Nat) : Int) ≠ (t : Int)) = false := decide_eq_false (by omega)
            simp only [execSs, execS, evalE, evalEs, evalB, evalO, evalI, up_ok, Res.bind_ok, List.getElem?_cons_zero, List.getElem?_cons_succ, List.set_cons_zero, List.set_cons_succ, List.map_cons, List.map_nil, List.cons_append, List.nil_append, Nat.add_one_sub_one, Cn.d, if_true, wipe, bindT, bindTs, binD, arD, mkT, Bool.false_eq_true, if_false, Nat.reduceSub, Option.bind_some, szNil, szOne, szTwo, szThree, szFour, szFive, List.length_nil, List.length_cons, tq, ne_int, d1] <;> rfl) rfl (wp_nil ?_)
          refine wp_set (d := bs (acc ++ a.drop 10)) (h1 := []) (by
            simp only [execSs, execS, evalE, evalEs, evalB, evalO, evalI, up_ok, Res.bind_ok, List.getElem?_cons_zero, List.getElem?_cons_succ, List.set_cons_zero, List.set_cons_succ, List.map_cons, List.map_nil, List.cons_append, List.nil_append, Nat.add_one_sub_one, Cn.d, if_true, wipe, bindT, bindTs, binD, arD, mkT, Bool.false_eq_true, if_false, Nat.reduceSub, Option.bind_some, szNil, szOne, szTwo, szThree, szFour, szFive, List.length_nil, List.length_cons, slc_bs (show a.length ≤ 16777216 by omega), cut_10, add_bs (show acc.length + (a.drop 10).length ≤ 16777216 by rw [List.length_drop]; omega)]) ?_
          refine wp_nil ⟨acc ++ a.drop 10, _, rfl, by rw [List.length_append, List.length_drop]; omega, fun r h => hr r (List.mem_cons_of_mem _ h), ?_⟩
          rw [hc, ctn, if_pos ht, Option.map_map]
          congr 1
          funext c
          exact (List.append_assoc _ _ _).symm
        · refine wp_then (x := .bl true) (by
            have d1 : decide (((numL (a.take 6) : Nat) : Int) ≠ (t : Int)) = true := decide_eq_true (by omega)
            simp only [execSs, execS, evalE, evalEs, evalB, evalO, evalI, up_ok, Res.bind_ok, List.getElem?_cons_zero, List.getElem?_cons_succ, List.set_cons_zero, List.set_cons_succ, List.map_cons, List.map_nil, List.cons_append, List.nil_append, Nat.add_one_sub_one, Cn.d, if_true, wipe, bindT, bindTs, binD, arD, mkT, Bool.false_eq_true, if_false, Nat.reduceSub, Option.bind_some, szNil, szOne, szTwo, szThree, szFour, szFive, List.length_nil, List.length_cons, tq, ne_int, d1] <;> rfl) rfl ?_
          refine wp_ret (by simp only [execSs, execS, evalE, evalEs, evalB, evalO, evalI, up_ok, Res.bind_ok, List.getElem?_cons_zero, List.getElem?_cons_succ, List.set_cons_zero, List.set_cons_succ, List.map_cons, List.map_nil, List.cons_append, List.nil_append, Nat.add_one_sub_one, Cn.d, if_true, wipe, bindT, bindTs, binD, arD, mkT, Bool.false_eq_true, if_false, Nat.reduceSub, Option.bind_some, szNil, szOne, szTwo, szThree, szFour, szFive, List.length_nil, List.length_cons] <;> rfl) ?_
          show Fl.rt D.non = _
          rw [er, hc, ctn, if_neg ht]; rfl
      rintro s ⟨acc, x4, rfl, hl, hr, hc⟩
      have hc : ctn t (S.take k) = some acc := by rw [hc, ctn]; simp
      have hl : acc.length ≤ 64000 := by simpa using hl
      rw [er, hc]
      refine wp_set (d := .int (numL (acc.take 4) : Int)) (h1 := []) (by simp only [execSs, execS, evalE, evalEs, evalB, evalO, evalI, up_ok, Res.bind_ok, List.getElem?_cons_zero, List.getElem?_cons_succ, List.set_cons_zero, List.set_cons_succ, List.map_cons, List.map_nil, List.cons_append, List.nil_append, Nat.add_one_sub_one, Cn.d, if_true, wipe, bindT, bindTs, binD, arD, mkT, Bool.false_eq_true, if_false, Nat.reduceSub, Option.bind_some, szNil, szOne, szTwo, szThree, szFour, szFive, List.length_nil, List.length_cons, slc_bs (show acc.length ≤ 16777216 by omega), cut_4, number_of_ok P]) ?_
      simp only [List.set_cons_zero, List.set_cons_succ]
      by_cases c2 : numL (acc.take 4) + 4 ≤ acc.length
      · refine wp_else (x := .bl false) (by
          have d1 : decide ((acc.length : Int) - 4 < ((numL (acc.take 4) : Nat) : Int)) = false := decide_eq_false (by omega)
          simp only [execSs, execS, evalE, evalEs, evalB, evalO, evalI, up_ok, Res.bind_ok, List.getElem?_cons_zero, List.getElem?_cons_succ, List.set_cons_zero, List.set_cons_succ, List.map_cons, List.map_nil, List.cons_append, List.nil_append, Nat.add_one_sub_one, Cn.d, if_true, wipe, bindT, bindTs, binD, arD, mkT, Bool.false_eq_true, if_false, Nat.reduceSub, Option.bind_some, szNil, szOne, szTwo, szThree, szFour, szFive, List.length_nil, List.length_cons, len_bs, gt_int, d1] <;> rfl) rfl (wp_nil ?_)
        refine wp_ret (d := .tup [bs ((acc.drop 4).take (numL (acc.take 4))), .int (k : Int)]) (h1 := []) (by
          have e : cutD acc (some 4) (some (4 + ((numL (acc.take 4) : Nat) : Int))) = (acc.drop 4).take (numL (acc.take 4)) := by
            have := cutD_nat (xs := acc) 4 (4 + numL (acc.take 4))
            rw [Nat.add_sub_cancel_left, Int.natCast_add] at this
            exact this
          simp only [execSs, execS, evalE, evalEs, evalB, evalO, evalI, up_ok, Res.bind_ok, List.getElem?_cons_zero, List.getElem?_cons_succ, List.set_cons_zero, List.set_cons_succ, List.map_cons, List.map_nil, List.cons_append, List.nil_append, Nat.add_one_sub_one, Cn.d, if_true, wipe, bindT, bindTs, binD, arD, mkT, Bool.false_eq_true, if_false, Nat.reduceSub, Option.bind_some, szNil, szOne, szTwo, szThree, szFour, szFive, List.length_nil, List.length_cons, slc_bs (show acc.length ≤ 16777216 by omega), addD, e] <;> rfl) ?_
        show Fl.rt _ = Fl.rt (rbD (if _ then _ else _))
        rw [if_pos c2]; rfl
      · refine wp_then (x := .bl true) (by
          have d1 : decide ((acc.length : Int) - 4 < ((numL (acc.take 4) : Nat) : Int)) = true := decide_eq_true (by omega)
          simp only [execSs, execS, evalE, evalEs, evalB, evalO, evalI, up_ok, Res.bind_ok, List.getElem?_cons_zero, List.getElem?_cons_succ, List.set_cons_zero, List.set_cons_succ, List.map_cons, List.map_nil, List.cons_append, List.nil_append, Nat.add_one_sub_one, Cn.d, if_true, wipe, bindT, bindTs, binD, arD, mkT, Bool.false_eq_true, if_false, Nat.reduceSub, Option.bind_some, szNil, szOne, szTwo, szThree, szFour, szFive, List.length_nil, List.length_cons, len_bs, gt_int, d1] <;> rfl) rfl ?_
        refine wp_ret (by simp only [execSs, execS, evalE, evalEs, evalB, evalO, evalI, up_ok, Res.bind_ok, List.getElem?_cons_zero, List.getElem?_cons_succ, List.set_cons_zero, List.set_cons_succ, List.map_cons, List.map_nil, List.cons_append, List.nil_append, Nat.add_one_sub_one, Cn.d, if_true, wipe, bindT, bindTs, binD, arD, mkT, Bool.false_eq_true, if_false, Nat.reduceSub, Option.bind_some, szNil, szOne, szTwo, szThree, szFour, szFive, List.length_nil, List.length_cons] <;> rfl) ?_
        show Fl.rt _ = Fl.rt (rbD (if _ then _ else _))
        rw [if_neg c2]; rfl
    · refine wp_then (x := .bl true) (by
        by_cases d1 : (1 : Int) ≤ (k : Int)
        · have d2 : decide ((k : Int) ≤ (S.length : Int)) = false := decide_eq_false (by omega)
          simp only [execSs, execS, evalE, evalEs, evalB, evalO, evalI, up_ok, Res.bind_ok, List.getElem?_cons_zero, List.getElem?_cons_succ, List.set_cons_zero, List.set_cons_succ, List.map_cons, List.map_nil, List.cons_append, List.nil_append, Nat.add_one_sub_one, Cn.d, if_true, wipe, bindT, bindTs, binD, arD, mkT, Bool.false_eq_true, if_false, Nat.reduceSub, Option.bind_some, szNil, szOne, szTwo, szThree, szFour, szFive, List.length_nil, List.length_cons, le_int, decide_eq_true d1, d2, len_nss, truth_bl] <;> rfl
        · simp only [execSs, execS, evalE, evalEs, evalB, evalO, evalI, up_ok, Res.bind_ok, List.getElem?_cons_zero, List.getElem?_cons_succ, List.set_cons_zero, List.set_cons_succ, List.map_cons, List.map_nil, List.cons_append, List.nil_append, Nat.add_one_sub_one, Cn.d, if_true, wipe, bindT, bindTs, binD, arD, mkT, Bool.false_eq_true, if_false, Nat.reduceSub, Option.bind_some, szNil, szOne, szTwo, szThree, szFour, szFive, List.length_nil, List.length_cons, le_int, decide_eq_false d1, truth_bl] <;> rfl) rfl ?_
      refine wp_ret (by simp only [execSs, execS, evalE, evalEs, evalB, evalO, evalI, up_ok, Res.bind_ok, List.getElem?_cons_zero, List.getElem?_cons_succ, List.set_cons_zero, List.set_cons_succ, List.map_cons, List.map_nil, List.cons_append, List.nil_append, Nat.add_one_sub_one, Cn.d, if_true, wipe, bindT, bindTs, binD, arD, mkT, Bool.false_eq_true, if_false, Nat.reduceSub, Option.bind_some, szNil, szOne, szTwo, szThree, szFour, szFive, List.length_nil, List.length_cons] <;> rfl) ?_
      have er : rb S t = none := by unfold rb; rw [hk, if_neg c1]
      rw [er]; rfl
theorem nr_rbD (r : Option (List Nat × Nat)) : nr (rbD r) = true := by
  cases r with
  | none => rfl
  | some r => simp only [rbD, nr, nrs, nrs_ns, Bool.and_self]
theorem read_block_ok (P : BlkP p) {n t : Nat} {S : List (List Nat)} (hS : S.length ≤ 1000) (hs : ∀ s ∈ S, s.length ≤ 64) (h : Mm) : callN p (n + 3) 45 [.lst (nss S), .int (t : Int)] h = .ok (rbD (rb S t)) h := by
  refine call_run P.f45 rfl rfl (by simp only [nrs, nr, nrs_nss, Bool.and_self]) ?_
  obtain ⟨f, s, e, q⟩ := read_core P (n := n) (t := t) hS hs
  exact ⟨f, s, e, _, q, rsv9 (nr_rbD _)⟩
/-- .. of a list that is being made -/
theorem read_block_none (P : BlkP p) {n t : Nat} {S : List (List Nat)} (hS : S.length ≤ 1000) (hs : ∀ s ∈ S, s.length ≤ 64) {d : D} {h : Mm} (hd : rsv h 9 d = some (.lst (nss S))) (hr : rb S t = none) : callN p (n + 3) 45 [d, .int (t : Int)] h = .ok .non h := by
  refine call_runA (as' := [.lst (nss S), .int (t : Int)]) P.f45 rfl rfl (by
    simp only [List.mapM_cons, List.mapM_nil, hd, rsv9 (show nr (.int (t : Int)) = true from rfl), Option.pure_def, Option.bind_eq_bind, Option.bind_some]) ?_
  obtain ⟨f, s, e, q⟩ := read_core P (n := n) (t := t) hS hs
  rw [hr] at q
  exact ⟨f, s, e, .non, q, rfl, rfl⟩
end PB
namespace PB
open PySem R PT
variable {p : Pg}
/-! ### places -/
def rgs (n : Nat) : Nat := n - (n - 2) / 2
def azs (n : Nat) : Nat := (rgs n - 2) / 2
theorem divOk2 : divOk 2 = true := divOk_small (by decide) (by decide)
theorem region_start_ok (P : BlkP p) {n k : Nat} (hk : 2 ≤ k) (h : Mm) : callN p (n + 1) 46 [.int (k : Int)] h = .ok (.int (rgs k : Int)) h := by
  refine call_run P.f46 rfl rfl rfl ?_
  simp only [d_region_start, List.map_cons, List.map_nil, List.cons_append, List.nil_append, List.replicate_succ, List.replicate_zero, Nat.reduceSub, List.replicate]
  refine wp_ret (d := .int (rgs k : Int)) (h1 := []) (by
    have e : (k : Int) - ((k : Int) - 2) / 2 = (rgs k : Int) := by unfold rgs; omega
    simp only [execSs, execS, evalE, evalEs, evalB, evalO, evalI, up_ok, Res.bind_ok, List.getElem?_cons_zero, List.getElem?_cons_succ, List.set_cons_zero, List.set_cons_succ, List.map_cons, List.map_nil, List.cons_append, List.nil_append, Nat.add_one_sub_one, Cn.d, if_true, wipe, bindT, bindTs, binD, arD, mkT, Bool.false_eq_true, if_false, Nat.reduceSub, Option.bind_some, szNil, szOne, szTwo, szThree, szFour, szFive, List.length_nil, List.length_cons, divOk2, e]) ⟨_, rfl, rsv9 rfl⟩
theorem area_size_ok (P : BlkP p) {n k : Nat} (hk : 4 ≤ k) (h : Mm) : callN p (n + 2) 47 [.int (k : Int)] h = .ok (.int (azs k : Int)) h := by
  refine call_run P.f47 rfl rfl rfl ?_
  simp only [d_area_size, List.map_cons, List.map_nil, List.cons_append, List.nil_append, List.replicate_succ, List.replicate_zero, Nat.reduceSub, List.replicate]
  refine wp_ret (d := .int (azs k : Int)) (h1 := []) (by
    have e : ((rgs k : Int) - 2) / 2 = (azs k : Int) := by unfold azs rgs; omega
    simp only [execSs, execS, evalE, evalEs, evalB, evalO, evalI, up_ok, Res.bind_ok, List.getElem?_cons_zero, List.getElem?_cons_succ, List.set_cons_zero, List.set_cons_succ, List.map_cons, List.map_nil, List.cons_append, List.nil_append, Nat.add_one_sub_one, Cn.d, if_true, wipe, bindT, bindTs, binD, arD, mkT, Bool.false_eq_true, if_false, Nat.reduceSub, Option.bind_some, szNil, szOne, szTwo, szThree, szFour, szFive, List.length_nil, List.length_cons, region_start_ok P (show 2 ≤ k by omega), divOk2, e]) ⟨_, rfl, rsv9 rfl⟩
theorem area_start_ok (P : BlkP p) {n k a : Nat} (hk : 4 ≤ k) (h2 : k ≤ 1000000) (h : Mm) : callN p (n + 3) 48 [.int (k : Int), .int (a : Int)] h = .ok (.int ((2 + a * azs k : Nat) : Int)) h := by
  refine call_run P.f48 rfl rfl rfl ?_
  simp only [d_area_start, List.map_cons, List.map_nil, List.cons_append, List.nil_append, List.replicate_succ, List.replicate_zero, Nat.reduceSub, List.replicate]
  refine wp_ret (d := .int ((2 + a * azs k : Nat) : Int)) (h1 := []) (by
    have e : mulOk (a : Int) (azs k : Int) = true := mulOk_r (by unfold azs rgs; omega)
    simp only [execSs, execS, evalE, evalEs, evalB, evalO, evalI, up_ok, Res.bind_ok, List.getElem?_cons_zero, List.getElem?_cons_succ, List.set_cons_zero, List.set_cons_succ, List.map_cons, List.map_nil, List.cons_append, List.nil_append, Nat.add_one_sub_one, Cn.d, if_true, wipe, bindT, bindTs, binD, arD, mkT, Bool.false_eq_true, if_false, Nat.reduceSub, Option.bind_some, szNil, szOne, szTwo, szThree, szFour, szFive, List.length_nil, List.length_cons, area_size_ok P hk, mulD, e, addD] <;> rfl) ⟨_, rfl, rsv9 rfl⟩
/-! ### heads -/
theorem mk1 {d : D} {m : Mm} : mkL false [d] m = .ok (.lst [d]) m := rfl
def hd (t a : Nat) : List Nat := ([82, 85, 76, 69] ++ fixL 6 t ++ [a]) ++ List.replicate 53 0
theorem hd_len (t a : Nat) : (hd t a).length = 64 := by unfold hd; simp [fixL_len]
theorem head_ok (P : BlkP p) {n t a : Nat} (h : Mm) : callN p (n + 2) 49 [.int (t : Int), .int (a : Int)] h = .ok (bs (hd t a)) h := by
  refine call_run P.f49 rfl rfl rfl ?_
  simp only [d_head, List.map_cons, List.map_nil, List.cons_append, List.nil_append, List.replicate_succ, List.replicate_zero, Nat.reduceSub, List.replicate]
  have q : ∀ m, callN p (n + 1) 41 [.int (t : Int), .int 6] m = .ok (bs (fixL 6 t)) m := fun m => fixed_ok P (show 6 ≤ 1000 by decide) m
  have l6 := fixL_len 6 t
  have lw : ∀ m : Mm, lstW m (bs (fixL 6 t)) = some (ns (fixL 6 t)) := fun _ => rfl
  have a0 : ∀ m : Mm, mkL false ([D.int 82, .int 85, .int 76, .int 69] ++ ns (fixL 6 t)) m = .ok (bs ([82, 85, 76, 69] ++ fixL 6 t)) m := fun m => by
    have z : szOk ([D.int 82, .int 85, .int 76, .int 69] ++ ns (fixL 6 t)).length = true := szOk_of (by rw [List.length_append, ns_len, l6]; decide)
    simp only [mkL, z, if_true, Bool.false_eq_true, if_false]
    rfl
  have a1 : ∀ m : Mm, addD false m (bs ([82, 85, 76, 69] ++ fixL 6 t)) (.lst [.int (a : Int)]) = .ok (bs ([82, 85, 76, 69] ++ fixL 6 t ++ [a])) m := fun m => add_bs (b := [a]) (by simp [l6])
  have m1 : ∀ m : Mm, mulD false m (.lst [.int 0]) (.int 53) = .ok (bs (List.replicate 53 0)) m := fun m => mul_bs (a := 0) (k := 53) (by decide)
  have a2 : ∀ m : Mm, addD false m (bs ([82, 85, 76, 69] ++ fixL 6 t ++ [a])) (bs (List.replicate 53 0)) = .ok (bs (hd t a)) m := fun m => add_bs (by simp [l6])
  refine wp_ret (d := bs (hd t a)) (h1 := []) (by simp only [evalE, evalEs, List.getElem?_cons_zero, List.getElem?_cons_succ, Res.bind_ok, Cn.d, q, P.c5, P.c6, lw, a0, mk1, binD, a1, m1, a2]) ⟨_, rfl, rsv9 (nr_bs _)⟩
/-- the turn and the area of a head -/
def rh (l : List Nat) : Option (Nat × Nat) :=
  if 1 ≤ numL ((l.drop 4).take 6) ∧ l.getD 10 0 ≤ 1 ∧ l = hd (numL ((l.drop 4).take 6)) (l.getD 10 0) then some (numL ((l.drop 4).take 6), l.getD 10 0) else none
def rhD : Option (Nat × Nat) → D
  | none => .non
  | some (t, a) => .tup [.int (t : Int), .int (a : Int)]
theorem nr_rhD (r : Option (Nat × Nat)) : nr (rhD r) = true := by
  cases r with
  | none => rfl
  | some r => rfl
theorem read_head_core (P : BlkP p) {n : Nat} {l : List Nat} (h1 : 11 ≤ l.length) (h2 : l.length ≤ 1000) :
    Wp p (callN p (n + 2)) d_read_head.body ⟨[some (bs l)] ++ List.replicate (d_read_head.nl - d_read_head.np) none, []⟩ fun f _ => f = .rt (rhD (rh l)) := by
  simp only [d_read_head, List.map_cons, List.map_nil, List.cons_append, List.nil_append, List.replicate_succ, List.replicate_zero, Nat.reduceSub, List.replicate]
  refine wp_set (d := .int (numL ((l.drop 4).take 6) : Int)) (h1 := []) (by simp only [execSs, execS, evalE, evalEs, evalB, evalO, evalI, up_ok, Res.bind_ok, List.getElem?_cons_zero, List.getElem?_cons_succ, List.set_cons_zero, List.set_cons_succ, List.map_cons, List.map_nil, List.cons_append, List.nil_append, Nat.add_one_sub_one, Cn.d, if_true, wipe, bindT, bindTs, binD, arD, mkT, Bool.false_eq_true, if_false, Nat.reduceSub, Option.bind_some, szNil, szOne, szTwo, szThree, szFour, szFive, List.length_nil, List.length_cons, slc_bs (show l.length ≤ 16777216 by omega), cut_4_10, number_of_ok P]) ?_
  simp only [List.set_cons_zero, List.set_cons_succ]
  have i10 : ∀ m : Mm, idxD m (bs l) (.int 10) = some (.int (l.getD 10 0 : Int)) := fun m => by
    refine (idx_lst' (k := 10)).trans ?_
    rw [ns_get, List.getD_eq_getElem?_getD, List.getElem?_eq_getElem (by omega)]; rfl
  refine wp_set (d := .int (l.getD 10 0 : Int)) (h1 := []) (by simp only [execSs, execS, evalE, evalEs, evalB, evalO, evalI, up_ok, Res.bind_ok, List.getElem?_cons_zero, List.getElem?_cons_succ, List.set_cons_zero, List.set_cons_succ, List.map_cons, List.map_nil, List.cons_append, List.nil_append, Nat.add_one_sub_one, Cn.d, if_true, wipe, bindT, bindTs, binD, arD, mkT, Bool.false_eq_true, if_false, Nat.reduceSub, Option.bind_some, szNil, szOne, szTwo, szThree, szFour, szFive, List.length_nil, List.length_cons, i10]) ?_
  simp only [List.set_cons_zero, List.set_cons_succ]
  generalize ht : numL ((l.drop 4).take 6) = t
  generalize ha : l.getD 10 0 = a
  have er : rh l = if 1 ≤ t ∧ a ≤ 1 ∧ l = hd t a then some (t, a) else none := by unfold rh; rw [ht, ha]
  have hk := head_ok P (n := n) (t := t) (a := a)
  by_cases c1 : (t : Int) < 1
  · refine wp_then (x := .bl true) (by simp only [execSs, execS, evalE, evalEs, evalB, evalO, evalI, up_ok, Res.bind_ok, List.getElem?_cons_zero, List.getElem?_cons_succ, List.set_cons_zero, List.set_cons_succ, List.map_cons, List.map_nil, List.cons_append, List.nil_append, Nat.add_one_sub_one, Cn.d, if_true, wipe, bindT, bindTs, binD, arD, mkT, Bool.false_eq_true, if_false, Nat.reduceSub, Option.bind_some, szNil, szOne, szTwo, szThree, szFour, szFive, List.length_nil, List.length_cons, lt_int, decide_eq_true c1, truth_bl] <;> rfl) rfl ?_
    refine wp_ret (by simp only [execSs, execS, evalE, evalEs, evalB, evalO, evalI, up_ok, Res.bind_ok, List.getElem?_cons_zero, List.getElem?_cons_succ, List.set_cons_zero, List.set_cons_succ, List.map_cons, List.map_nil, List.cons_append, List.nil_append, Nat.add_one_sub_one, Cn.d, if_true, wipe, bindT, bindTs, binD, arD, mkT, Bool.false_eq_true, if_false, Nat.reduceSub, Option.bind_some, szNil, szOne, szTwo, szThree, szFour, szFive, List.length_nil, List.length_cons] <;> rfl) ?_
    show Fl.rt D.non = _
    rw [er, if_neg (by omega)]; rfl
  · by_cases c2 : (1 : Int) < (a : Int)
    · refine wp_then (x := .bl true) (by simp only [execSs, execS, evalE, evalEs, evalB, evalO, evalI, up_ok, Res.bind_ok, List.getElem?_cons_zero, List.getElem?_cons_succ, List.set_cons_zero, List.set_cons_succ, List.map_cons, List.map_nil, List.cons_append, List.nil_append, Nat.add_one_sub_one, Cn.d, if_true, wipe, bindT, bindTs, binD, arD, mkT, Bool.false_eq_true, if_false, Nat.reduceSub, Option.bind_some, szNil, szOne, szTwo, szThree, szFour, szFive, List.length_nil, List.length_cons, lt_int, gt_int, decide_eq_false c1, decide_eq_true c2, truth_bl] <;> rfl) rfl ?_
      refine wp_ret (by simp only [execSs, execS, evalE, evalEs, evalB, evalO, evalI, up_ok, Res.bind_ok, List.getElem?_cons_zero, List.getElem?_cons_succ, List.set_cons_zero, List.set_cons_succ, List.map_cons, List.map_nil, List.cons_append, List.nil_append, Nat.add_one_sub_one, Cn.d, if_true, wipe, bindT, bindTs, binD, arD, mkT, Bool.false_eq_true, if_false, Nat.reduceSub, Option.bind_some, szNil, szOne, szTwo, szThree, szFour, szFive, List.length_nil, List.length_cons] <;> rfl) ?_
      show Fl.rt D.non = _
      rw [er, if_neg (by omega)]; rfl
    · by_cases c3 : l = hd t a
      · have e : ∀ m : Mm, cmpD .ne m (bs l) (bs (hd t a)) = some false := fun m => by
          show (eqD m (bs l) (bs (hd t a))).map not = _
          rw [← c3, eq_same pl_bs]; rfl
        refine wp_else (x := .bl false) (by simp only [execSs, execS, evalE, evalEs, evalB, evalO, evalI, up_ok, Res.bind_ok, List.getElem?_cons_zero, List.getElem?_cons_succ, List.set_cons_zero, List.set_cons_succ, List.map_cons, List.map_nil, List.cons_append, List.nil_append, Nat.add_one_sub_one, Cn.d, if_true, wipe, bindT, bindTs, binD, arD, mkT, Bool.false_eq_true, if_false, Nat.reduceSub, Option.bind_some, szNil, szOne, szTwo, szThree, szFour, szFive, List.length_nil, List.length_cons, lt_int, gt_int, decide_eq_false c1, decide_eq_false c2, truth_bl, hk, e] <;> rfl) rfl (wp_nil ?_)
        refine wp_ret (d := .tup [.int (t : Int), .int (a : Int)]) (h1 := []) (by simp only [execSs, execS, evalE, evalEs, evalB, evalO, evalI, up_ok, Res.bind_ok, List.getElem?_cons_zero, List.getElem?_cons_succ, List.set_cons_zero, List.set_cons_succ, List.map_cons, List.map_nil, List.cons_append, List.nil_append, Nat.add_one_sub_one, Cn.d, if_true, wipe, bindT, bindTs, binD, arD, mkT, Bool.false_eq_true, if_false, Nat.reduceSub, Option.bind_some, szNil, szOne, szTwo, szThree, szFour, szFive, List.length_nil, List.length_cons] <;> rfl) ?_
        show Fl.rt _ = _
        rw [er, if_pos ⟨by omega, by omega, c3⟩]; rfl
      · have e : ∀ m : Mm, cmpD .ne m (bs l) (bs (hd t a)) = some true := fun m => by
          show (eqD m (bs l) (bs (hd t a))).map not = _
          rw [eq_diff pl_bs pl_bs fun z => c3 (ns_inj (D.lst.inj z))]; rfl
        refine wp_then (x := .bl true) (by simp only [execSs, execS, evalE, evalEs, evalB, evalO, evalI, up_ok, Res.bind_ok, List.getElem?_cons_zero, List.getElem?_cons_succ, List.set_cons_zero, List.set_cons_succ, List.map_cons, List.map_nil, List.cons_append, List.nil_append, Nat.add_one_sub_one, Cn.d, if_true, wipe, bindT, bindTs, binD, arD, mkT, Bool.false_eq_true, if_false, Nat.reduceSub, Option.bind_some, szNil, szOne, szTwo, szThree, szFour, szFive, List.length_nil, List.length_cons, lt_int, gt_int, decide_eq_false c1, decide_eq_false c2, truth_bl, hk, e] <;> rfl) rfl ?_
        refine wp_ret (by simp only [execSs, execS, evalE, evalEs, evalB, evalO, evalI, up_ok, Res.bind_ok, List.getElem?_cons_zero, List.getElem?_cons_succ, List.set_cons_zero, List.set_cons_succ, List.map_cons, List.map_nil, List.cons_append, List.nil_append, Nat.add_one_sub_one, Cn.d, if_true, wipe, bindT, bindTs, binD, arD, mkT, Bool.false_eq_true, if_false, Nat.reduceSub, Option.bind_some, szNil, szOne, szTwo, szThree, szFour, szFive, List.length_nil, List.length_cons] <;> rfl) ?_
        show Fl.rt D.non = _
        rw [er, if_neg (fun z => c3 z.2.2)]; rfl
theorem read_head_ok (P : BlkP p) {n : Nat} {l : List Nat} (h1 : 11 ≤ l.length) (h2 : l.length ≤ 1000) (h : Mm) : callN p (n + 3) 50 [bs l] h = .ok (rhD (rh l)) h := by
  refine call_run P.f50 rfl rfl (by simp only [nrs, nr, nrs_ns, Bool.and_self]) ?_
  obtain ⟨f, s, e, q⟩ := read_head_core P (n := n) h1 h2
  exact ⟨f, s, e, _, q, rsv9 (nr_rhD _)⟩
/-- .. of a list that is being made -/
theorem read_head_none (P : BlkP p) {n : Nat} {l : List Nat} (h1 : 11 ≤ l.length) (h2 : l.length ≤ 1000) {d : D} {h : Mm} (hd : rsv h 9 d = some (bs l)) (hr : rh l = none) : callN p (n + 3) 50 [d] h = .ok .non h := by
  refine call_runA (as' := [bs l]) P.f50 rfl rfl (by
    simp only [List.mapM_cons, List.mapM_nil, hd, Option.pure_def, Option.bind_eq_bind, Option.bind_some]) ?_
  obtain ⟨f, s, e, q⟩ := read_head_core P (n := n) h1 h2
  rw [hr] at q
  exact ⟨f, s, e, .non, q, rfl, rfl⟩
end PB
namespace KY
open PySem R PT PB
open L2 (Key)
/-! ### keys as data -/
def kD : Key → D
  | .inl i => .int i
  | .inr x => .str x
/-- whole numbers and texts -/
def isV : D → Prop
  | .int _ => True
  | .str x => PyData.strOk x = true
  | _ => False
def kOk : Key → Prop
  | .inl _ => True
  | .inr x => PyData.strOk x = true
theorem keysD_map : ∀ ks : List Key, keysD (ks.map kD) = some ks
  | [] => rfl
  | .inl i :: ks => by simp only [List.map_cons, kD, keysD, isKey, Option.bind_some, keysD_map ks, Option.map_some]
  | .inr i :: ks => by simp only [List.map_cons, kD, keysD, isKey, Option.bind_some, keysD_map ks, Option.map_some]
theorem lt_keys {m : Mm} (ks ls : List Key) : cmpD .lt m (.tup (ks.map kD)) (.tup (ls.map kD)) = ltK ks ls := by
  simp only [cmpD, ltT, keysD_map]
theorem gt_keys {m : Mm} (ks ls : List Key) : cmpD .gt m (.tup (ks.map kD)) (.tup (ls.map kD)) = ltK ls ks := by
  simp only [cmpD, ltT, keysD_map]
theorem kD_inj {a b : Key} (h : kD a = kD b) : a = b := by
  cases a <;> cases b <;> simp [kD] at h <;> simp [h]
theorem kDs_inj : ∀ {a b : List Key}, a.map kD = b.map kD → a = b
  | [], [], _ => rfl
  | [], _ :: _, h => by simp at h
  | _ :: _, [], h => by simp at h
  | x :: xs, y :: ys, h => by
    rw [List.map_cons, List.map_cons] at h
    injection h with h1 h2
    rw [kD_inj h1, kDs_inj h2]
theorem pl_kD {k : Nat} {a : Key} (h : kOk a) : plD k (kD a) = true := by
  cases a with
  | inl i => simp [kD, plD]
  | inr x =>
    have h : PyData.strOk x = true := h
    cases k <;> simp only [kD, plD, h]
theorem pls_kD {k : Nat} : ∀ {ks : List Key}, (∀ a ∈ ks, kOk a) → plDs k (ks.map kD) = true
  | [], _ => rfl
  | a :: ks, h => by
    rw [List.map_cons, plDs, pl_kD (h a List.mem_cons_self), pls_kD fun b hb => h b (List.mem_cons_of_mem _ hb)]; rfl
theorem eq_keys {m : Mm} {ks ls : List Key} (hk : ∀ a ∈ ks, kOk a) (hl : ∀ a ∈ ls, kOk a) : cmpD .eq m (.tup (ks.map kD)) (.tup (ls.map kD)) = some (decide (ks = ls)) := by
  simp only [cmpD]
  rw [eq_pl (by rw [plD]; exact pls_kD hk) (by rw [plD]; exact pls_kD hl)]
  congr 1
  by_cases q : ks = ls
  · subst q; simp
  · rw [decide_eq_false q]
    exact decide_eq_false_iff_not.mpr fun z => q (kDs_inj (D.tup.inj z))
/-! ### the order of values, of rows, of keys -/
def vk : D → List Key
  | .int i => [.inl 0, .inl i]
  | .str x => [.inl 1, .inr x]
  | _ => []
def rk (ds : List D) : List Key := ds.flatMap vk
theorem rk_cons (d : D) (ds : List D) : rk (d :: ds) = vk d ++ rk ds := rfl
def vlt : D → D → Bool
  | .int i, .int j => decide (i < j)
  | .str x, .str y => ltS x y
  | .int _, .str _ => true
  | _, _ => false
def ordL : List D → List D → Int
  | [], [] => 0
  | [], _ :: _ => -1
  | _ :: _, [] => 1
  | d :: ds, e :: es => if vlt d e = true then -1 else if vlt e d = true then 1 else ordL ds es
theorem ltS_irr (x : Str) : ltS x x = false := by simp [ltS]
theorem ltS_asym {x y : Str} (h : ltS x y = true) : ltS y x = false := by
  unfold ltS at h ⊢
  exact decide_eq_false (List.lt_asymm (of_decide_eq_true h))
theorem ltS_tot {x y : Str} (h1 : ltS x y = false) (h2 : ltS y x = false) : x = y := by
  unfold ltS at h1 h2
  have a := of_decide_eq_false h1
  have b := of_decide_eq_false h2
  have e : x.cps.toList = y.cps.toList := List.le_antisymm (List.not_lt.mp b) (List.not_lt.mp a)
  have e2 : x.cps = y.cps := Array.toList_inj.mp e
  cases x; cases y
  simp only [Str.mk.injEq]
  exact e2
theorem ltK_same (a : Key) (xs ys : List Key) : ltK (a :: xs) (a :: ys) = ltK xs ys := by rw [ltK, if_pos rfl]
theorem ltK_ne {a b : Key} (h : a ≠ b) (xs ys : List Key) : ltK (a :: xs) (b :: ys) = keyLt a b := by rw [ltK, if_neg h]
theorem vk_lt {d e : D} (hd : isV d) (he : isV e) (xs ys : List Key) : ltK (vk d ++ xs) (vk e ++ ys) = if vlt d e = true then some true else if vlt e d = true then some false else ltK xs ys := by
  cases d <;> first | exact hd.elim | skip
  · rename_i i
    cases e <;> first | exact he.elim | skip
    · rename_i j
      simp only [vk, List.cons_append, List.nil_append, ltK_same, vlt, decide_eq_true_eq]
      by_cases q : i < j
      · rw [ltK_ne (fun z => by injection z with z; omega), if_pos q, keyLt, decide_eq_true q]
      · rw [if_neg q]
        by_cases q2 : j < i
        · rw [ltK_ne (fun z => by injection z with z; omega), if_pos q2, keyLt, decide_eq_false q]
        · have : i = j := by omega
          subst this
          rw [if_neg q, ltK_same]
    · simp only [vk, List.cons_append, List.nil_append, vlt, if_true]
      rw [ltK_ne (by simp)]; rfl
  · rename_i x
    cases e <;> first | exact he.elim | skip
    · simp only [vk, List.cons_append, List.nil_append, vlt, if_true, Bool.false_eq_true, if_false]
      rw [ltK_ne (by simp)]; rfl
    · rename_i y
      have v1 : vlt (.str x) (.str y) = ltS x y := rfl
      have v2 : vlt (.str y) (.str x) = ltS y x := rfl
      rw [v1, v2]
      simp only [vk, List.cons_append, List.nil_append, ltK_same]
      by_cases q : ltS x y = true
      · rw [if_pos q, ltK_ne (fun z => by
          injection z with z
          rw [z, ltS_irr] at q; cases q), keyLt, q]
      · rw [if_neg q]
        by_cases q2 : ltS y x = true
        · rw [if_pos q2, ltK_ne (fun z => by
            injection z with z
            rw [z, ltS_irr] at q2; cases q2), keyLt]
          simpa using q
        · have e : x = y := ltS_tot (by simpa using q) (by simpa using q2)
          rw [if_neg q2, e, ltK_same]
theorem rk_lt : ∀ (ds es : List D), (∀ d ∈ ds, isV d) → (∀ d ∈ es, isV d) → ltK (rk ds) (rk es) = some (decide (ordL ds es < 0))
  | [], [], _, _ => rfl
  | [], e :: es, _, he => by
    have h := he e List.mem_cons_self
    rw [rk_cons]
    cases e <;> first | exact h.elim | rfl
  | d :: ds, [], hd, _ => by
    have h := hd d List.mem_cons_self
    rw [rk_cons]
    cases d <;> first | exact h.elim | rfl
  | d :: ds, e :: es, hd, he => by
    rw [rk_cons, rk_cons, vk_lt (hd d List.mem_cons_self) (he e List.mem_cons_self), rk_lt ds es (fun x hx => hd x (List.mem_cons_of_mem _ hx)) fun x hx => he x (List.mem_cons_of_mem _ hx)]
    rw [ordL]
    by_cases q1 : vlt d e = true
    · rw [if_pos q1, if_pos q1]; rfl
    · rw [if_neg q1, if_neg q1]
      by_cases q2 : vlt e d = true
      · rw [if_pos q2, if_pos q2]; rfl
      · rw [if_neg q2, if_neg q2]
theorem vlt_asym {d e : D} (h : vlt d e = true) : vlt e d = false := by
  cases d <;> cases e <;> simp only [vlt] at h ⊢ <;> first | (cases h; done) | skip
  · exact decide_eq_false (by have := of_decide_eq_true h; omega)
  · exact ltS_asym h
theorem ord_neg : ∀ (ds es : List D), ordL es ds = - ordL ds es
  | [], [] => rfl
  | [], _ :: _ => rfl
  | _ :: _, [] => rfl
  | d :: ds, e :: es => by
    rw [ordL, ordL]
    by_cases q1 : vlt d e = true
    · have q2 : ¬ vlt e d = true := by rw [vlt_asym q1]; exact Bool.false_ne_true
      simp only [if_pos q1, if_neg q2]; rfl
    · by_cases q2 : vlt e d = true
      · simp only [if_pos q2, if_neg q1]
      · simp only [if_neg q2, if_neg q1, ord_neg ds es]
theorem vlt_tot {d e : D} (hd : isV d) (he : isV e) (h1 : ¬ vlt d e = true) (h2 : ¬ vlt e d = true) : d = e := by
  cases d <;> first | exact hd.elim | skip
  · cases e <;> first | exact he.elim | skip
    · simp only [vlt, decide_eq_true_eq] at h1 h2
      congr 1; omega
    · exact absurd rfl h1
  · cases e <;> first | exact he.elim | skip
    · exact absurd rfl h2
    · simp only [vlt, Bool.not_eq_true] at h1 h2
      rw [ltS_tot h1 h2]
theorem ord_zero : ∀ {ds es : List D}, (∀ d ∈ ds, isV d) → (∀ d ∈ es, isV d) → (ordL ds es = 0 ↔ ds = es)
  | [], [], _, _ => by simp [ordL]
  | [], _ :: _, _, _ => by simp [ordL]
  | _ :: _, [], _, _ => by simp [ordL]
  | d :: ds, e :: es, hd, he => by
    rw [ordL]
    by_cases q1 : vlt d e = true
    · rw [if_pos q1]
      refine ⟨fun z => absurd z (by decide), fun z => ?_⟩
      injection z with z1 z2
      rw [z1] at q1
      have := vlt_asym q1
      rw [q1] at this; cases this
    · rw [if_neg q1]
      by_cases q2 : vlt e d = true
      · rw [if_pos q2]
        refine ⟨fun z => absurd z (by decide), fun z => ?_⟩
        injection z with z1 z2
        rw [z1] at q2
        have := vlt_asym q2
        rw [q2] at this; cases this
      · rw [if_neg q2, ord_zero (fun x hx => hd x (List.mem_cons_of_mem _ hx)) fun x hx => he x (List.mem_cons_of_mem _ hx)]
        rw [vlt_tot (hd d List.mem_cons_self) (he e List.mem_cons_self) q1 q2]
        simp
theorem rk_eq {ds es : List D} (hd : ∀ d ∈ ds, isV d) (he : ∀ d ∈ es, isV d) : decide (rk ds = rk es) = decide (ordL ds es = 0) := by
  by_cases q : ds = es
  · subst q
    rw [decide_eq_true rfl, decide_eq_true ((ord_zero hd he).mpr rfl)]
  · rw [decide_eq_false (fun z => q ((ord_zero hd he).mp z))]
    refine decide_eq_false fun z => q ?_
    have a := rk_lt ds es hd he
    have b := rk_lt es ds he hd
    rw [z] at a b
    rw [a] at b
    have b := Option.some.inj b
    rw [ord_neg ds es] at b
    refine (ord_zero hd he).mp ?_
    by_cases p1 : ordL ds es < 0
    · rw [decide_eq_true p1, decide_eq_false (by omega)] at b; cases b
    · rw [decide_eq_false p1] at b
      have := of_decide_eq_false b.symm
      omega
theorem rk_gt {ds es : List D} (hd : ∀ d ∈ ds, isV d) (he : ∀ d ∈ es, isV d) : ltK (rk es) (rk ds) = some (decide (0 < ordL ds es)) := by
  rw [rk_lt es ds he hd, ord_neg ds es]
  congr 1
  by_cases q : 0 < ordL ds es
  · rw [decide_eq_true q, decide_eq_true (by omega)]
  · rw [decide_eq_false q, decide_eq_false (by omega)]
/-! keys of items -/
structure Ky where
  s : Int
  nm : Str
  row : List D
def Ky.ks (a : Ky) : List Key := .inl a.s :: .inr a.nm :: rk a.row
def Ky.d (a : Ky) : D := .tup [.int a.s, .str a.nm, .tup a.row]
structure Ky.ok (a : Ky) : Prop where
  nm : PyData.strOk a.nm = true
  row : ∀ d ∈ a.row, isV d
  len : a.row.length ≤ 100
def kord (a b : Ky) : Int := if a.s = b.s ∧ a.nm = b.nm then ordL a.row b.row else if (ltK [.inl a.s, .inr a.nm] [.inl b.s, .inr b.nm]).getD false = true then -1 else 1
theorem two_lt (a b : Ky) (h : ¬ (a.s = b.s ∧ a.nm = b.nm)) (xs ys : List Key) : ltK (.inl a.s :: .inr a.nm :: xs) (.inl b.s :: .inr b.nm :: ys) = some (if a.s = b.s then ltS a.nm b.nm else decide (a.s < b.s)) := by
  by_cases q : a.s = b.s
  · rw [if_pos q, q, ltK_same]
    rw [ltK_ne (fun z => h ⟨q, by injection z⟩)]; rfl
  · rw [if_neg q, ltK_ne (fun z => q (by injection z))]; rfl
theorem ky_lt {a b : Ky} (ha : a.ok) (hb : b.ok) : ltK a.ks b.ks = some (decide (kord a b < 0)) := by
  unfold Ky.ks kord
  by_cases q : a.s = b.s ∧ a.nm = b.nm
  · rw [if_pos q, q.1, q.2, ltK_same, ltK_same, rk_lt _ _ ha.row hb.row]
  · rw [if_neg q, two_lt a b q, two_lt a b q, Option.getD_some]
    cases (if a.s = b.s then ltS a.nm b.nm else decide (a.s < b.s)) <;> rfl
theorem kord_neg {a b : Ky} (ha : a.ok) (hb : b.ok) : kord b a = - kord a b := by
  unfold kord
  by_cases q : a.s = b.s ∧ a.nm = b.nm
  · rw [if_pos q, if_pos ⟨q.1.symm, q.2.symm⟩, ord_neg]
  · have q' : ¬ (b.s = a.s ∧ b.nm = a.nm) := fun z => q ⟨z.1.symm, z.2.symm⟩
    rw [if_neg q, if_neg q', two_lt a b q, two_lt b a q', Option.getD_some, Option.getD_some]
    by_cases p : a.s = b.s
    · simp only [if_pos p, if_pos p.symm]
      by_cases r : ltS a.nm b.nm = true
      · simp [r, ltS_asym r]
      · by_cases r2 : ltS b.nm a.nm = true
        · simp [r, r2]
        · exact absurd ⟨p, ltS_tot (by simpa using r) (by simpa using r2)⟩ q
    · have p' : ¬ b.s = a.s := fun z => p z.symm
      simp only [if_neg p, if_neg p']
      by_cases p1 : a.s < b.s
      · have : ¬ b.s < a.s := by omega
        simp [p1, this]
      · have : b.s < a.s := by omega
        simp [p1, this]
theorem ky_gt {a b : Ky} (ha : a.ok) (hb : b.ok) : ltK b.ks a.ks = some (decide (0 < kord a b)) := by
  rw [ky_lt hb ha, kord_neg ha hb]
  congr 1
  by_cases q : 0 < kord a b
  · rw [decide_eq_true q, decide_eq_true (by omega)]
  · rw [decide_eq_false q, decide_eq_false (by omega)]
theorem ky_eq {a b : Ky} (ha : a.ok) (hb : b.ok) : decide (a.ks = b.ks) = decide (kord a b = 0) := by
  by_cases z : a.ks = b.ks
  · rw [decide_eq_true z]
    have h1 := ky_lt ha hb
    have h2 := ky_gt ha hb
    rw [z] at h1 h2
    rw [h1] at h2
    have h2 := Option.some.inj h2
    refine (decide_eq_true ?_).symm
    by_cases p1 : kord a b < 0
    · rw [decide_eq_true p1, decide_eq_false (by omega)] at h2; cases h2
    · rw [decide_eq_false p1] at h2
      have := of_decide_eq_false h2.symm
      omega
  · rw [decide_eq_false z]
    refine (decide_eq_false fun q => z ?_).symm
    unfold kord at q
    by_cases p : a.s = b.s ∧ a.nm = b.nm
    · rw [if_pos p] at q
      unfold Ky.ks
      rw [p.1, p.2, (ord_zero ha.row hb.row).mp q]
    · rw [if_neg p] at q
      split at q <;> cases q


/-! ### value_key, row_key -/
theorem tup_lst {m : Mm} {ds : List D} (h : ds.length ≤ 1000) : bltD .tuple_ false [.lst ds] m = .ok (.tup ds) m := by
  simp only [bltD, lstOf, mkT, szOk_of (show ds.length ≤ 16777216 by omega), if_true]
structure KP (p : Pg) : Prop where
  f0 : p.fns[0]? = some d_value_key
  f1 : p.fns[1]? = some d_row_key
variable {pg : Pg}
theorem isV_nr {d : D} (h : isV d) : nr d = true := by cases d <;> first | rfl | exact h.elim
theorem isVs_nr : ∀ {ds : List D}, (∀ d ∈ ds, isV d) → nrs ds = true
  | [], _ => rfl
  | d :: ds, h => by simp only [nrs, isV_nr (h d List.mem_cons_self), isVs_nr fun x hx => h x (List.mem_cons_of_mem _ hx), Bool.and_self]
theorem nr_kD (a : Key) : nr (kD a) = true := by cases a <;> rfl
theorem nrs_kD : ∀ ks : List Key, nrs (ks.map kD) = true
  | [] => rfl
  | a :: ks => by simp only [List.map_cons, nrs, nr_kD, nrs_kD ks, Bool.and_self]
theorem nr_tkD (ks : List Key) : nr (.tup (ks.map kD)) = true := by simp only [nr, nrs_kD]
theorem value_key_ok (P : KP pg) {n : Nat} {d : D} (hd : isV d) (h : Mm) : callN pg (n + 1) 0 [d] h = .ok (.tup ((vk d).map kD)) h := by
  refine call_run P.f0 rfl rfl (by simp only [nrs, isV_nr hd, Bool.and_self]) ?_
  simp only [d_value_key, List.map_cons, List.map_nil, List.cons_append, List.nil_append, List.replicate_succ, List.replicate_zero, Nat.reduceSub, List.replicate]
  cases d <;> first | exact hd.elim | skip
  · rename_i i
    refine wp_then (x := .bl true) (by simp only [execSs, execS, evalE, evalEs, evalB, evalO, evalI, up_ok, Res.bind_ok, List.getElem?_cons_zero, List.getElem?_cons_succ, List.set_cons_zero, List.set_cons_succ, List.map_cons, List.map_nil, List.cons_append, List.nil_append, Nat.add_one_sub_one, Cn.d, if_true, wipe, bindT, bindTs, binD, arD, mkT, Bool.false_eq_true, if_false, Nat.reduceSub, Option.bind_some, szNil, szOne, szTwo, szThree, szFour, szFive, List.length_nil, List.length_cons] <;> rfl) rfl ?_
    exact wp_ret (d := .tup [.int 0, .int i]) (h1 := []) (by simp only [execSs, execS, evalE, evalEs, evalB, evalO, evalI, up_ok, Res.bind_ok, List.getElem?_cons_zero, List.getElem?_cons_succ, List.set_cons_zero, List.set_cons_succ, List.map_cons, List.map_nil, List.cons_append, List.nil_append, Nat.add_one_sub_one, Cn.d, if_true, wipe, bindT, bindTs, binD, arD, mkT, Bool.false_eq_true, if_false, Nat.reduceSub, Option.bind_some, szNil, szOne, szTwo, szThree, szFour, szFive, List.length_nil, List.length_cons]) ⟨_, rfl, rsv9 rfl⟩
  · rename_i x
    refine wp_else (x := .bl false) (by simp only [execSs, execS, evalE, evalEs, evalB, evalO, evalI, up_ok, Res.bind_ok, List.getElem?_cons_zero, List.getElem?_cons_succ, List.set_cons_zero, List.set_cons_succ, List.map_cons, List.map_nil, List.cons_append, List.nil_append, Nat.add_one_sub_one, Cn.d, if_true, wipe, bindT, bindTs, binD, arD, mkT, Bool.false_eq_true, if_false, Nat.reduceSub, Option.bind_some, szNil, szOne, szTwo, szThree, szFour, szFive, List.length_nil, List.length_cons] <;> rfl) rfl (wp_nil ?_)
    exact wp_ret (d := .tup [.int 1, .str x]) (h1 := []) (by simp only [execSs, execS, evalE, evalEs, evalB, evalO, evalI, up_ok, Res.bind_ok, List.getElem?_cons_zero, List.getElem?_cons_succ, List.set_cons_zero, List.set_cons_succ, List.map_cons, List.map_nil, List.cons_append, List.nil_append, Nat.add_one_sub_one, Cn.d, if_true, wipe, bindT, bindTs, binD, arD, mkT, Bool.false_eq_true, if_false, Nat.reduceSub, Option.bind_some, szNil, szOne, szTwo, szThree, szFour, szFive, List.length_nil, List.length_cons]) ⟨_, rfl, rsv9 rfl⟩
theorem vk_len {d : D} (hd : isV d) : (vk d).length = 2 := by cases d <;> first | rfl | exact hd.elim
theorem rk_len : ∀ {ds : List D}, (∀ d ∈ ds, isV d) → (rk ds).length = 2 * ds.length
  | [], _ => rfl
  | d :: ds, h => by
    rw [rk_cons, List.length_append, vk_len (h d List.mem_cons_self), rk_len fun x hx => h x (List.mem_cons_of_mem _ hx), List.length_cons]; omega
theorem ev_ext {p : Pg} {c : Calls} {sl : List (Option D)} {h h1 h2 : Mm} {o e : ME} {obj : Bool} {n : Nat} {xs ys : List D} (a : evalE p c o sl h = .ok (.ref n) h1) (l : h1[n]? = some (.lst xs)) (b : evalE p c e sl h1 = .ok (.tup ys) h2) (l2 : h2[n]? = some (.lst xs)) (hn : xs.length + ys.length ≤ 1000000) :
    evalE p c (.bm .extend obj o [e]) sl h = .ok .non (h2.set n (.lst (xs ++ ys))) := by
  have z : szOk (xs.length + ys.length) = true := szOk_of (by omega)
  simp only [evalE, evalEs, a, b, Res.bind_ok, bmTy, bmD, l, l2, lstOf, z, Option.isSome_some, if_true]
theorem row_key_ok (P : KP pg) {n : Nat} {ds : List D} (hl : ds.length ≤ 100) (hd : ∀ d ∈ ds, isV d) (h : Mm) : callN pg (n + 2) 1 [.tup ds] h = .ok (.tup ((rk ds).map kD)) h := by
  refine call_run P.f1 rfl rfl (by simp only [nrs, nr, isVs_nr hd, Bool.and_self]) ?_
  simp only [d_row_key, List.map_cons, List.map_nil, List.cons_append, List.nil_append, List.replicate_succ, List.replicate_zero, Nat.reduceSub, List.replicate]
  have mk0 : ∀ m : Mm, mkL true [] m = .ok (.ref m.length) (m ++ [.lst []]) := fun _ => rfl
  refine wp_set (d := .ref 0) (h1 := [.lst []]) (by simp only [execSs, execS, evalE, evalEs, evalB, evalO, evalI, up_ok, Res.bind_ok, List.getElem?_cons_zero, List.getElem?_cons_succ, List.set_cons_zero, List.set_cons_succ, List.map_cons, List.map_nil, List.cons_append, List.nil_append, Nat.add_one_sub_one, Cn.d, if_true, wipe, bindT, bindTs, binD, arD, mkT, Bool.false_eq_true, if_false, Nat.reduceSub, Option.bind_some, szNil, szOne, szTwo, szThree, szFour, szFive, List.length_nil, List.length_cons, mk0] <;> rfl) ?_
  simp only [List.set_cons_zero, List.set_cons_succ]
  refine wp_forR (α := D) (F := fun d => d) (xs := ds) (h1 := [.lst []]) (fun rest s => ∃ x2 es, es ++ rest = ds ∧ s = ⟨[some (.tup ds), some (.ref 0), x2], [.lst ((rk es).map kD)]⟩)
    (by simp only [execSs, execS, evalE, evalEs, evalB, evalO, evalI, up_ok, Res.bind_ok, List.getElem?_cons_zero, List.getElem?_cons_succ, List.set_cons_zero, List.set_cons_succ, List.map_cons, List.map_nil, List.cons_append, List.nil_append, Nat.add_one_sub_one, Cn.d, if_true, wipe, bindT, bindTs, binD, arD, mkT, Bool.false_eq_true, if_false, Nat.reduceSub, Option.bind_some, szNil, szOne, szTwo, szThree, szFour, szFive, List.length_nil, List.length_cons, List.map_id'] ) ⟨none, [], rfl, rfl⟩ ?_ ?_
  · rintro d rest s ⟨x2, es, he, rfl⟩
    refine ⟨_, rfl, ?_⟩
    simp only [List.set_cons_zero, List.set_cons_succ]
    have dm : d ∈ ds := by rw [← he]; simp
    have em : ∀ x ∈ es, isV x := fun x hx => hd x (by rw [← he]; exact List.mem_append_left _ hx)
    have el : es.length ≤ 100 := by
      have := congrArg List.length he
      rw [List.length_append] at this; omega
    have e1 := fun m => value_key_ok P (n := n) (hd d dm) m
    refine wp_ex (ev_ext (n := 0) (xs := (rk es).map kD) (ys := (vk d).map kD) (h1 := [.lst ((rk es).map kD)]) (h2 := [.lst ((rk es).map kD)]) (by simp only [execSs, execS, evalE, evalEs, evalB, evalO, evalI, up_ok, Res.bind_ok, List.getElem?_cons_zero, List.getElem?_cons_succ, List.set_cons_zero, List.set_cons_succ, List.map_cons, List.map_nil, List.cons_append, List.nil_append, Nat.add_one_sub_one, Cn.d, if_true, wipe, bindT, bindTs, binD, arD, mkT, Bool.false_eq_true, if_false, Nat.reduceSub, Option.bind_some, szNil, szOne, szTwo, szThree, szFour, szFive, List.length_nil, List.length_cons]) rfl (by simp only [execSs, execS, evalE, evalEs, evalB, evalO, evalI, up_ok, Res.bind_ok, List.getElem?_cons_zero, List.getElem?_cons_succ, List.set_cons_zero, List.set_cons_succ, List.map_cons, List.map_nil, List.cons_append, List.nil_append, Nat.add_one_sub_one, Cn.d, if_true, wipe, bindT, bindTs, binD, arD, mkT, Bool.false_eq_true, if_false, Nat.reduceSub, Option.bind_some, szNil, szOne, szTwo, szThree, szFour, szFive, List.length_nil, List.length_cons, e1]) rfl (by
      rw [List.length_map, List.length_map, rk_len em, vk_len (hd d dm)]; omega)) ?_
    refine wp_nil ⟨some d, es ++ [d], by rw [List.append_assoc]; exact he, ?_⟩
    have e : rk (es ++ [d]) = rk es ++ vk d := by
      unfold rk
      rw [List.flatMap_append]; simp
    rw [e, List.map_append]; rfl
  · rintro s ⟨x2, es, he, rfl⟩
    have he : es = ds := by simpa using he
    subst he
    refine wp_frzv rfl (frz_ref rfl (nrs_kD _)) ?_
    simp only [List.set_cons_zero, List.set_cons_succ]
    have tl : ∀ m, bltD .tuple_ false [.lst ((rk es).map kD)] m = .ok (.tup ((rk es).map kD)) m := fun m => tup_lst (by rw [List.length_map, rk_len hd]; omega)
    exact wp_ret (d := .tup ((rk es).map kD)) (h1 := [.dead]) (by simp only [execSs, execS, evalE, evalEs, evalB, evalO, evalI, up_ok, Res.bind_ok, List.getElem?_cons_zero, List.getElem?_cons_succ, List.set_cons_zero, List.set_cons_succ, List.map_cons, List.map_nil, List.cons_append, List.nil_append, Nat.add_one_sub_one, Cn.d, if_true, wipe, bindT, bindTs, binD, arD, mkT, Bool.false_eq_true, if_false, Nat.reduceSub, Option.bind_some, szNil, szOne, szTwo, szThree, szFour, szFive, List.length_nil, List.length_cons, tl] <;> rfl) ⟨_, rfl, rsv9 (nr_tkD _)⟩
end KY
namespace ST
open PySem R PT PB KY
open L2 (Key)
/-! ### states, as data -/
structure Sta where
  rel : List (Key × D)
  fac : List (Str × List D)
  str : List (Key × D)
  lay : List (Key × D)
def sta0 : Sta := ⟨[], [], [], []⟩
inductive Itm where
  | rel (n : Str) (c r : D) | fact (n : Str) (row : List D) | str (n : Str) (r c b s : D) | lay (n : Str) (l : D)
def Itm.d : Itm → D
  | .rel n c r => .tup [.str "relation", .str n, c, r]
  | .fact n row => .tup [.str "fact", .str n, .tup row]
  | .str n a b c e => .tup [.str "structure", .str n, a, b, c, e]
  | .lay n l => .tup [.str "layout", .str n, l]
/-- a row of whole numbers and texts -/
def rowOk (d : D) : Prop := ∃ ds, d = .tup ds ∧ (∀ x ∈ ds, isV x) ∧ ds ≠ [] ∧ ds.length ≤ 100
def Itm.ok : Itm → Prop
  | .rel _ c r => nrs [c, r] = true
  | .fact _ row => rowOk (.tup row)
  | .str _ a b c e => nrs [a, b, c, e] = true
  | .lay _ l => nr l = true
def fget : List (Str × List D) → Str → Option (List D)
  | [], _ => none
  | q :: r, n => if q.1 = n then some q.2 else fget r n
def fput : List (Str × List D) → Str → List D → List (Str × List D)
  | [], n, rs => [(n, rs)]
  | q :: r, n, rs => if q.1 = n then (q.1, rs) :: r else q :: fput r n rs
open Classical in
noncomputable def putI : Itm → Sta → Sta
  | .rel n c r, S => { S with rel := putD S.rel (.inr n) (.tup [c, r]), fac := match fget S.fac n with | some _ => S.fac | none => S.fac ++ [(n, [])] }
  | .fact n row, S => if (D.tup row) ∈ (fget S.fac n).getD [] then S else { S with fac := fput S.fac n ((fget S.fac n).getD [] ++ [.tup row]) }
  | .str n a b c e, S => { S with str := putD S.str (.inr n) (.tup [a, b, c, e]) }
  | .lay n l, S => { S with lay := putD S.lay (.inr n) l }
def rkT : D → List Key
  | .tup ds => rk ds
  | _ => []
def sortR (xs : List D) : List D := srtK (xs.map fun x => (x, toksK (rkT x)))
def has (kvs : List (Key × D)) (n : Str) : Bool := (valD kvs (.inr n)).isSome
def ordF (rel : List (Key × D)) (fac : List (Str × List D)) : List (Str × List D) :=
  fac.filterMap fun q => if (has rel q.1 || decide (0 < q.2.length)) = true then some (q.1, sortR q.2) else none
def ordS (S : Sta) : Sta := { S with fac := ordF S.rel S.fac }
noncomputable def mkS (its : List Itm) : Sta := ordS (its.foldl (fun S i => putI i S) sta0)
def stD (S : Sta) : D := .ins 0 [(0, .dct S.rel), (1, .dct (S.fac.map fun q => (.inr q.1, .lst q.2))), (2, .dct S.str), (3, .dct S.lay)]
/-! ### .. as objects -/
abbrev FI := List (Str × Nat × List D)
def fD (F : FI) : List (Key × D) := F.map fun q => (.inr q.1, .ref q.2.1)
def fS (F : FI) : List (Str × List D) := F.map fun q => (q.1, q.2.2)
def gF : FI → Str → Option (Nat × List D)
  | [], _ => none
  | q :: r, n => if q.1 = n then some q.2 else gF r n
def pF : FI → Str → List D → FI
  | [], _, _ => []
  | q :: r, n, rs => if q.1 = n then (q.1, q.2.1, rs) :: r else q :: pF r n rs
theorem gF_val (n : Str) : ∀ F : FI, valD (fD F) (.inr n) = (gF F n).map fun q => .ref q.1
  | [] => rfl
  | q :: r => by
    have ih := gF_val n r
    simp only [fD, List.map_cons, valD, gF] at ih ⊢
    by_cases e : q.1 = n
    · subst e; simp
    · have : ¬ ((Sum.inr q.1 : Key) = .inr n) := fun z => e (Sum.inr.inj z)
      rw [if_neg this, if_neg e, ih]
theorem gF_get (n : Str) : ∀ F : FI, fget (fS F) n = (gF F n).map (·.2)
  | [] => rfl
  | q :: r => by
    have ih := gF_get n r
    simp only [fS, List.map_cons, fget, gF] at ih ⊢
    by_cases e : q.1 = n
    · rw [if_pos e, if_pos e]; rfl
    · rw [if_neg e, if_neg e, ih]
theorem gF_mem {n : Str} {x : Nat × List D} : ∀ {F : FI}, gF F n = some x → (n, x) ∈ F
  | [], h => by cases h
  | q :: r, h => by
    simp only [gF] at h
    by_cases e : q.1 = n
    · rw [if_pos e] at h
      subst e
      rw [← Option.some.inj h]
      exact List.mem_cons_self
    · rw [if_neg e] at h
      exact List.mem_cons_of_mem _ (gF_mem h)
theorem gF_none {n : Str} : ∀ {F : FI}, gF F n = none → n ∉ F.map (·.1)
  | [], _ => by simp
  | q :: r, h => by
    simp only [gF] at h
    by_cases e : q.1 = n
    · rw [if_pos e] at h; cases h
    · rw [if_neg e] at h
      rw [List.map_cons, List.mem_cons, not_or]
      exact ⟨fun z => e z.symm, gF_none h⟩
theorem gF_nodup : ∀ {F : FI}, (F.map (·.1)).Nodup → ∀ q ∈ F, gF F q.1 = some q.2
  | [], _, _, h => by cases h
  | p :: r, hn, q, h => by
    rw [List.map_cons, List.nodup_cons] at hn
    rcases List.mem_cons.mp h with h | h
    · subst h
      simp only [gF, if_true]
    · have : ¬ p.1 = q.1 := fun z => hn.1 (z ▸ List.mem_map_of_mem (f := (·.1)) h)
      simp only [gF, if_neg this]
      exact gF_nodup hn.2 q h
theorem pF_put {n : Str} {x : Nat × List D} (rs : List D) : ∀ {F : FI}, gF F n = some x → fput (fS F) n rs = fS (pF F n rs)
  | [], h => by cases h
  | q :: r, h => by
    simp only [gF] at h
    simp only [fS, List.map_cons, fput, pF]
    by_cases e : q.1 = n
    · rw [if_pos e, if_pos e]; rfl
    · rw [if_neg e] at h
      have ih := pF_put rs h
      simp only [fS] at ih
      rw [if_neg e, if_neg e, ih]; rfl
theorem fput_none {n : Str} {rs : List D} : ∀ {fac : List (Str × List D)}, fget fac n = none → fput fac n rs = fac ++ [(n, rs)]
  | [], _ => rfl
  | q :: r, h => by
    simp only [fget] at h
    by_cases e : q.1 = n
    · rw [if_pos e] at h; cases h
    · rw [if_neg e] at h
      simp only [fput, if_neg e, fput_none h, List.cons_append]
theorem pF_ids (n : Str) (rs : List D) : ∀ F : FI, (pF F n rs).map (·.2.1) = F.map (·.2.1)
  | [] => rfl
  | q :: r => by
    simp only [pF]
    by_cases e : q.1 = n
    · rw [if_pos e]; rfl
    · rw [if_neg e, List.map_cons, List.map_cons, pF_ids n rs r]
theorem pF_keys (n : Str) (rs : List D) : ∀ F : FI, (pF F n rs).map (·.1) = F.map (·.1)
  | [] => rfl
  | q :: r => by
    simp only [pF]
    by_cases e : q.1 = n
    · rw [if_pos e]; rfl
    · rw [if_neg e, List.map_cons, List.map_cons, pF_keys n rs r]
theorem pF_mem {n : Str} {i : Nat} {xs rs : List D} : ∀ {F : FI}, gF F n = some (i, xs) → (F.map (·.2.1)).Nodup → ∀ q ∈ pF F n rs, (q ∈ F ∧ q.2.1 ≠ i) ∨ q = (n, i, rs)
  | [], h, _, _, _ => by cases h
  | p :: r, h, hn, q, hq => by
    simp only [gF] at h
    simp only [pF] at hq
    rw [List.map_cons, List.nodup_cons] at hn
    by_cases e : p.1 = n
    · rw [if_pos e] at h hq
      have h := Option.some.inj h
      rcases List.mem_cons.mp hq with hq | hq
      · right
        rw [hq, e, h]
      · left
        refine ⟨List.mem_cons_of_mem _ hq, fun z => hn.1 ?_⟩
        rw [h]
        show i ∈ _
        rw [← z]
        exact List.mem_map_of_mem (f := fun q : Str × Nat × List D => q.2.1) hq
    · rw [if_neg e] at h hq
      rcases List.mem_cons.mp hq with hq | hq
      · left
        refine ⟨hq ▸ List.mem_cons_self, fun z => hn.1 ?_⟩
        have := List.mem_map_of_mem (f := fun q : Str × Nat × List D => q.2.1) (gF_mem h)
        rw [← hq, z]
        exact this
      · rcases pF_mem h hn.2 q hq with ⟨a, b⟩ | a
        · exact .inl ⟨List.mem_cons_of_mem _ a, b⟩
        · exact .inr a
theorem set_keep {h : Mm} {i j : Nat} {o a c : O} (hi : h[i]? = some a) (hj : h[j]? = some c) (ne : a ≠ c) : (h.set i o)[j]? = some c := by
  have : i ≠ j := fun z => by
    subst z
    rw [hi] at hj
    exact ne (Option.some.inj hj)
  rw [List.getElem?_set_ne this]; exact hj
theorem set_ne {h : Mm} {i j : Nat} {o c : O} (hj : h[j]? = some c) (ne : i ≠ j) : (h.set i o)[j]? = some c := by
  rw [List.getElem?_set_ne ne]; exact hj
theorem get_lt {h : Mm} {i : Nat} {o : O} (e : h[i]? = some o) : i < h.length := (List.getElem?_eq_some_iff.mp e).1
theorem app_keep {h t : Mm} {i : Nat} {o : O} (e : h[i]? = some o) : (h ++ t)[i]? = some o := by
  rw [List.getElem?_append_left (get_lt e)]; exact e
/-- the state S stands at n; all its ids are b at least -/
structure Hold (b : Nat) (h : Mm) (n r f s l : Nat) (S : Sta) (F : FI) : Prop where
  ins : h[n]? = some (.ins 0 [(0, .ref r), (1, .ref f), (2, .ref s), (3, .ref l)])
  rel : h[r]? = some (.dct S.rel)
  fac : h[f]? = some (.dct (fD F))
  str : h[s]? = some (.dct S.str)
  lay : h[l]? = some (.dct S.lay)
  ls : ∀ q ∈ F, h[q.2.1]? = some (.lst q.2.2)
  nd : (F.map (·.2.1)).Nodup
  kn : (F.map (·.1)).Nodup
  eq : S.fac = fS F
  ne : r ≠ f ∧ r ≠ s ∧ r ≠ l ∧ f ≠ s ∧ f ≠ l ∧ s ≠ l
  lo : b ≤ n ∧ b ≤ r ∧ b ≤ f ∧ b ≤ s ∧ b ≤ l
  lq : ∀ q ∈ F, b ≤ q.2.1
def Fr (b : Nat) (h h' : Mm) : Prop := h.length ≤ h'.length ∧ ∀ i, i < b → h'[i]? = h[i]?
theorem Fr.rfl' {b : Nat} {h : Mm} : Fr b h h := ⟨Nat.le_refl _, fun _ _ => rfl⟩
theorem Fr.trans {b : Nat} {h h1 h2 : Mm} (A : Fr b h h1) (B : Fr b h1 h2) : Fr b h h2 := ⟨Nat.le_trans A.1 B.1, fun i hi => (B.2 i hi).trans (A.2 i hi)⟩
theorem Fr.set {b i : Nat} {h : Mm} {o : O} (hb : b ≤ i) : Fr b h (h.set i o) := ⟨by rw [List.length_set]; exact Nat.le_refl _, fun j hj => by rw [List.getElem?_set_ne (by omega)]⟩
theorem Fr.app {b : Nat} {h t : Mm} (hb : b ≤ h.length) : Fr b h (h ++ t) := ⟨by rw [List.length_append]; omega, fun j hj => by rw [List.getElem?_append_left (by omega)]⟩
section
variable {b n r f s l : Nat} {h : Mm} {S : Sta} {F : FI}
theorem Hold.lt (H : Hold b h n r f s l S F) : b < h.length := Nat.lt_of_le_of_lt H.lo.1 (get_lt H.ins)
theorem Hold.ext (H : Hold b h n r f s l S F) (t : Mm) : Hold b (h ++ t) n r f s l S F :=
  ⟨app_keep H.ins, app_keep H.rel, app_keep H.fac, app_keep H.str, app_keep H.lay, fun q hq => app_keep (H.ls q hq), H.nd, H.kn, H.eq, H.ne, H.lo, H.lq⟩
theorem Hold.setrel (H : Hold b h n r f s l S F) (kvs : List (Key × D)) : Hold b (h.set r (.dct kvs)) n r f s l { S with rel := kvs } F :=
  ⟨set_keep H.rel H.ins (by intro z; cases z), List.getElem?_set_self (get_lt H.rel), set_ne H.fac H.ne.1, set_ne H.str H.ne.2.1, set_ne H.lay H.ne.2.2.1, fun q hq => set_keep H.rel (H.ls q hq) (by intro z; cases z), H.nd, H.kn, H.eq, H.ne, H.lo, H.lq⟩
theorem Hold.setstr (H : Hold b h n r f s l S F) (kvs : List (Key × D)) : Hold b (h.set s (.dct kvs)) n r f s l { S with str := kvs } F :=
  ⟨set_keep H.str H.ins (by intro z; cases z), set_ne H.rel (fun z => H.ne.2.1 z.symm), set_ne H.fac (fun z => H.ne.2.2.2.1 z.symm), List.getElem?_set_self (get_lt H.str), set_ne H.lay H.ne.2.2.2.2.2, fun q hq => set_keep H.str (H.ls q hq) (by intro z; cases z), H.nd, H.kn, H.eq, H.ne, H.lo, H.lq⟩
theorem Hold.setlay (H : Hold b h n r f s l S F) (kvs : List (Key × D)) : Hold b (h.set l (.dct kvs)) n r f s l { S with lay := kvs } F :=
  ⟨set_keep H.lay H.ins (by intro z; cases z), set_ne H.rel (fun z => H.ne.2.2.1 z.symm), set_ne H.fac (fun z => H.ne.2.2.2.2.1 z.symm), set_ne H.str (fun z => H.ne.2.2.2.2.2 z.symm), List.getElem?_set_self (get_lt H.lay), fun q hq => set_keep H.lay (H.ls q hq) (by intro z; cases z), H.nd, H.kn, H.eq, H.ne, H.lo, H.lq⟩
theorem Hold.old (H : Hold b h n r f s l S F) {nm : Str} {i : Nat} {xs : List D} (g : gF F nm = some (i, xs)) (ys : List D) : Hold b (h.set i (.lst ys)) n r f s l { S with fac := fput S.fac nm ys } (pF F nm ys) := by
  have e := H.ls _ (gF_mem g)
  have eb := H.lq _ (gF_mem g)
  refine ⟨set_keep e H.ins (by intro z; cases z), set_keep e H.rel (by intro z; cases z), ?_, set_keep e H.str (by intro z; cases z), set_keep e H.lay (by intro z; cases z), ?_, ?_, ?_, ?_, H.ne, H.lo, ?_⟩
  · have : fD (pF F nm ys) = fD F := by
      have a := pF_ids nm ys F
      have c := pF_keys nm ys F
      unfold fD
      clear g e eb H
      induction F with
      | nil => rfl
      | cons q r ih =>
        simp only [pF] at a c ⊢
        by_cases e : q.1 = nm
        · rw [if_pos e]; rfl
        · rw [if_neg e] at a c ⊢
          rw [List.map_cons, List.map_cons] at a c ⊢
          rw [ih (by injection a) (by injection c)]
    rw [this]
    exact set_keep e H.fac (by intro z; cases z)
  · intro q hq
    rcases pF_mem g H.nd q hq with ⟨a, c⟩ | a
    · exact set_ne (H.ls q a) (fun z => c z.symm)
    · subst a
      exact List.getElem?_set_self (get_lt e)
  · rw [pF_ids]; exact H.nd
  · rw [pF_keys]; exact H.kn
  · show fput S.fac nm ys = _
    rw [H.eq]
    exact pF_put ys g
  · intro q hq
    rcases pF_mem g H.nd q hq with ⟨a, c⟩ | a
    · exact H.lq q a
    · subst a; exact eb
theorem Hold.new (H : Hold b h n r f s l S F) {nm : Str} (g : gF F nm = none) (ys : List D) :
    Hold b ((h ++ [O.lst ys]).set f (O.dct (fD F ++ [(Sum.inr nm, D.ref h.length)]))) n r f s l { S with fac := S.fac ++ [(nm, ys)] } (F ++ [(nm, h.length, ys)]) := by
  have H2 := H.ext [.lst ys]
  have lt : ∀ q ∈ F, q.2.1 < h.length := fun q hq => get_lt (H.ls q hq)
  have gl : (h ++ [O.lst ys])[h.length]? = some (.lst ys) := by simp
  refine ⟨set_keep H2.fac H2.ins (by intro z; cases z), set_ne H2.rel (fun z => H.ne.1 z.symm), ?_, set_ne H2.str H.ne.2.2.2.1, set_ne H2.lay H.ne.2.2.2.2.1, ?_, ?_, ?_, ?_, H.ne, H.lo, ?_⟩
  · rw [List.getElem?_set_self (get_lt H2.fac)]
    simp [fD]
  · intro q hq
    rcases List.mem_append.mp hq with hq | hq
    · exact set_keep H2.fac (H2.ls q hq) (by intro z; cases z)
    · have := List.mem_singleton.mp hq
      subst this
      exact set_keep H2.fac gl (by intro z; cases z)
  · rw [List.map_append, List.nodup_append]
    refine ⟨H.nd, by simp, ?_⟩
    intro a ha c hc
    obtain ⟨q, hq, rfl⟩ := List.mem_map.mp ha
    simp only [List.map_cons, List.map_nil, List.mem_singleton] at hc
    have := lt q hq
    omega
  · rw [List.map_append, List.nodup_append]
    refine ⟨H.kn, by simp, ?_⟩
    intro a ha c hc
    simp only [List.map_cons, List.map_nil, List.mem_singleton] at hc
    subst hc
    exact fun z => gF_none g (z ▸ ha)
  · show S.fac ++ _ = _
    rw [H.eq]
    simp [fS]
  · intro q hq
    rcases List.mem_append.mp hq with hq | hq
    · exact H.lq q hq
    · have := List.mem_singleton.mp hq
      subst this
      exact Nat.le_of_lt H.lt
end
/-! ### sizes; rows -/
structure Sz (S : Sta) (k : Nat) : Prop where
  rel : S.rel.length ≤ k
  fac : S.fac.length ≤ k
  str : S.str.length ≤ k
  lay : S.lay.length ≤ k
  rows : ∀ q ∈ S.fac, q.2.length ≤ k
structure Good (S : Sta) : Prop where
  rel : nrk S.rel = true
  str : nrk S.str = true
  lay : nrk S.lay = true
  rows : ∀ q ∈ S.fac, ∀ d ∈ q.2, rowOk d
theorem putD_len (kvs : List (Key × D)) (k : Key) (d : D) : (putD kvs k d).length ≤ kvs.length + 1 := by
  unfold putD
  split
  · rw [List.length_map]; omega
  · rw [List.length_append]; simp
theorem nrk_app : ∀ (a b : List (Key × D)), nrk (a ++ b) = (nrk a && nrk b)
  | [], b => by simp [nrk]
  | q :: a, b => by simp only [List.cons_append, nrk, nrk_app a b, Bool.and_assoc]
theorem nrk_put {kvs : List (Key × D)} {k : Key} {d : D} (h : nrk kvs = true) (hd : nr d = true) : nrk (putD kvs k d) = true := by
  unfold putD
  split
  · rename_i z
    clear z
    induction kvs with
    | nil => rfl
    | cons q r ih =>
      simp only [nrk, Bool.and_eq_true] at h
      simp only [List.map_cons, nrk, Bool.and_eq_true]
      refine ⟨?_, ih h.2⟩
      split
      · exact hd
      · exact h.1
  · rw [nrk_app, h]
    simp [nrk, hd]
theorem fget_mem {n : Str} {x : List D} : ∀ {fac : List (Str × List D)}, fget fac n = some x → (n, x) ∈ fac
  | [], h => by cases h
  | q :: r, h => by
    simp only [fget] at h
    by_cases e : q.1 = n
    · rw [if_pos e] at h
      subst e
      rw [← Option.some.inj h]
      exact List.mem_cons_self
    · rw [if_neg e] at h
      exact List.mem_cons_of_mem _ (fget_mem h)
theorem fput_mem {n : Str} {rs : List D} : ∀ {fac : List (Str × List D)}, ∀ q ∈ fput fac n rs, q ∈ fac ∨ q.2 = rs
  | [], q, h => by
    simp only [fput, List.mem_singleton] at h
    exact .inr (by rw [h])
  | p :: r, q, h => by
    simp only [fput] at h
    split at h
    · rcases List.mem_cons.mp h with h | h
      · exact .inr (by rw [h])
      · exact .inl (List.mem_cons_of_mem _ h)
    · rcases List.mem_cons.mp h with h | h
      · exact .inl (h ▸ List.mem_cons_self)
      · rcases fput_mem q h with h | h
        · exact .inl (List.mem_cons_of_mem _ h)
        · exact .inr h
theorem fput_len (n : Str) (rs : List D) : ∀ fac : List (Str × List D), (fput fac n rs).length ≤ fac.length + 1
  | [] => by simp [fput]
  | p :: r => by
    simp only [fput]
    split
    · simp
    · have := fput_len n rs r
      simp only [List.length_cons]; omega
theorem rows_of {S : Sta} {P : List D → Prop} (h : ∀ q ∈ S.fac, P q.2) (h0 : P []) (n : Str) : P ((fget S.fac n).getD []) := by
  cases e : fget S.fac n with
  | none => exact h0
  | some x => exact h _ (fget_mem e)
theorem sz_put {S : Sta} {k : Nat} (H : Sz S k) (it : Itm) : Sz (putI it S) (k + 1) := by
  have up : ∀ {x}, x ≤ k → x ≤ k + 1 := fun h => Nat.le_succ_of_le h
  have pl := fun kvs (hk : List.length kvs ≤ k) key d => Nat.le_trans (putD_len kvs key d) (Nat.succ_le_succ hk)
  cases it with
  | rel nm c r =>
    refine ⟨pl _ H.rel _ _, ?_, up H.str, up H.lay, ?_⟩
    · show List.length (match fget S.fac nm with | some _ => S.fac | none => S.fac ++ [(nm, [])]) ≤ _
      split
      · exact up H.fac
      · rw [List.length_append]; exact Nat.succ_le_succ H.fac
    · intro q hq
      have hq : q ∈ (match fget S.fac nm with | some _ => S.fac | none => S.fac ++ [(nm, [])]) := hq
      split at hq
      · exact up (H.rows q hq)
      · rcases List.mem_append.mp hq with hq | hq
        · exact up (H.rows q hq)
        · rw [List.mem_singleton.mp hq]; exact Nat.zero_le _
  | fact nm row =>
    simp only [putI]
    split
    · exact ⟨up H.rel, up H.fac, up H.str, up H.lay, fun q hq => up (H.rows q hq)⟩
    · refine ⟨up H.rel, Nat.le_trans (fput_len _ _ _) (Nat.succ_le_succ H.fac), up H.str, up H.lay, fun q hq => ?_⟩
      rcases fput_mem q hq with hq | hq
      · exact up (H.rows q hq)
      · rw [hq, List.length_append]
        exact Nat.succ_le_succ (rows_of (P := fun x => x.length ≤ k) H.rows (Nat.zero_le _) nm)
  | str nm a b c e => exact ⟨up H.rel, up H.fac, pl _ H.str _ _, up H.lay, fun q hq => up (H.rows q hq)⟩
  | lay nm x => exact ⟨up H.rel, up H.fac, up H.str, pl _ H.lay _ _, fun q hq => up (H.rows q hq)⟩
theorem good_put {S : Sta} (H : Good S) {it : Itm} (hi : it.ok) : Good (putI it S) := by
  cases it with
  | rel nm c r =>
    refine ⟨nrk_put H.rel (by simp only [nr]; exact hi), H.str, H.lay, ?_⟩
    intro q hq
    have hq : q ∈ (match fget S.fac nm with | some _ => S.fac | none => S.fac ++ [(nm, [])]) := hq
    split at hq
    · exact H.rows q hq
    · rcases List.mem_append.mp hq with hq | hq
      · exact H.rows q hq
      · rw [List.mem_singleton.mp hq]
        intro d hd; cases hd
  | fact nm row =>
    simp only [putI]
    split
    · exact H
    · refine ⟨H.rel, H.str, H.lay, fun q hq => ?_⟩
      rcases fput_mem q hq with hq | hq
      · exact H.rows q hq
      · rw [hq]
        intro d hd
        rcases List.mem_append.mp hd with hd | hd
        · exact rows_of (P := fun x => ∀ d ∈ x, rowOk d) H.rows (fun _ h => by cases h) nm d hd
        · rw [List.mem_singleton.mp hd]; exact hi
  | str nm a b c e => exact ⟨H.rel, nrk_put H.str (by simp only [nr]; exact hi), H.lay, H.rows⟩
  | lay nm x => exact ⟨H.rel, H.str, nrk_put H.lay hi, H.rows⟩
end ST
namespace ST
open PySem R PT PB KY
open L2 (Key)
structure SP (p : Pg) (cd : CD) : Prop where
  k : KP p
  f4 : p.fns[4]? = some d_State___init__
  f5 : p.fns[5]? = some d_State__put
  f7 : p.fns[7]? = some d_State__order_facts
  f9 : p.fns[9]? = some d_State_has
  c0 : p.cls[0]? = some cd
  ini : cd.init = 4
  m0 : cd.meths.lookup 0 = some 5
  m2 : cd.meths.lookup 2 = some 7
  m4 : cd.meths.lookup 4 = some 9
/-! ### dicts -/
section
variable {p : Pg} {c : Calls} {sl : List (Option D)} {h h1 h2 h3 : Mm} {x y d : D} {o k e : ME}
theorem dct_ref {n : Nat} {kvs : List (Key × D)} (g : h[n]? = some (.dct kvs)) : dctOf h (.ref n) = some kvs := by simp only [dctOf, g]
theorem dct_lref {n : Nat} {kvs : List (Key × D)} (g : h[n]? = some (.ldct kvs)) : dctOf h (.ref n) = some kvs := by simp only [dctOf, g]
theorem ev_dget2 {kvs : List (Key × D)} {key : Key} (a : evalE p c o sl h = .ok x h1) (q : dctOf h1 x = some kvs) (b : evalE p c k sl h1 = .ok y h2) (z : evalE p c e sl h2 = .ok d h3) (q3 : dctOf h3 x = some kvs) (ky : isKey y = some key) :
    evalE p c (.dget2 o k e) sl h = .ok ((valD kvs key).getD d) h3 := by
  simp only [evalE, a, Res.bind_ok, q, Option.isSome_some, if_true, b, z, atD, q3, ky]
theorem ev_dsetd (a : evalE p c o sl h = .ok x h1) (q : (dctOf h1 x).isSome = true) (b : evalE p c k sl h1 = .ok y h2) (z : evalE p c e sl h2 = .ok d h3) : evalE p c (.dsetd o k e) sl h = setdD x y d h3 := by
  simp only [evalE, a, Res.bind_ok, q, if_true, b, z]
theorem ev_meth {as : List ME} {xs : List D} {C m f : Nat} {cd : CD} (a : evalE p c o sl h = .ok x h1) (kc : clsD h1 x = some C) (hc : p.cls[C]? = some cd) (l : cd.meths.lookup m = some f) (b : evalEs p c as sl h1 = .ok xs h2) (q : c f (x :: xs) h2 = .ok d h3) :
    evalE p c (.meth o m as) sl h = .ok d h3 := by
  simp only [evalE, a, Res.bind_ok, kc, hc, l, b, q]
theorem mem_dct {n : Nat} {kvs : List (Key × D)} {z : Str} (g : h[n]? = some (.dct kvs)) : memD h (.str z) (.ref n) = some (has kvs z) := by
  simp only [memD, seqOf, lstOf, g, atD, dctOf, isKey, has]
theorem idx_dct {n : Nat} {kvs : List (Key × D)} {z : Str} (q : dctOf h x = some kvs) : idxD h x (.str z) = valD kvs (.inr z) := by
  simp only [idxD, q]
theorem wp_dput {ms : List MS} {Q : Fl → Sx → Prop} {h4 : Mm} {o i e : ME} {d x y : D} (a : evalE p c e sl h = .ok d h1) (b : evalE p c o sl h1 = .ok x h2) (b2 : evalE p c i sl h2 = .ok y h3) (z : dputD x y d h3 = some h4) (q : Wp p c ms ⟨sl, h4⟩ Q) : Wp p c (.dput o i e :: ms) ⟨sl, h⟩ Q :=
  wp_cons (by simp only [execS, a, up_ok, b, b2, z]) q
theorem dput_ref {n : Nat} {kvs : List (Key × D)} {z : Str} {d : D} (g : h[n]? = some (.dct kvs)) (hz : kvs.length ≤ 1000000) : dputD (.ref n) (.str z) d h = some (h.set n (.dct (putD kvs (.inr z) d))) := by
  simp only [dputD, isKey, g, szOk_of (show kvs.length + 1 ≤ 16777216 by omega), if_true]
theorem wp_forK {ms : List MS} {Q : Fl → Sx → Prop} {g : Tg} {v n : Nat} {fl : Option Nat} {body : List MS} {kvs : List (Key × D)} (S : List (Key × D) → Sx → Prop) (a : pathN sl h v fl = some n) (b : h[n]? = some (.dct kvs)) (h0 : S kvs ⟨sl, h.set n (.ldct kvs)⟩)
    (step : ∀ a rest s, S (a :: rest) s → ∃ sl', bindT g (keyD a.1) s.sl = some sl' ∧ Wp p c body ⟨sl', s.hp⟩ fun f s' => (f = .nx ∨ f = .ct) ∧ S rest s')
    (q : ∀ s, S [] s → ∃ kvs', s.hp[n]? = some (.ldct kvs') ∧ Wp p c ms ⟨s.sl, s.hp.set n (.dct kvs')⟩ Q) : Wp p c (.forK g v fl body :: ms) ⟨sl, h⟩ Q := by
  have key : ∀ (l : List (Key × D)) (s : Sx), S l s → ∃ s', forL (fun x s => match bindT g x s.sl with
      | some sl => execSs p c body ⟨sl, s.hp⟩
      | none => .bad) (l.map fun kv => keyD kv.1) s = .ok .nx s' ∧ S [] s' := by
    intro l
    induction l with
    | nil => intro s hs; exact ⟨s, rfl, hs⟩
    | cons a r ih =>
      intro s hs
      obtain ⟨sl', e1, f, s1, e2, hf, hs1⟩ := step a r s hs
      obtain ⟨s2, e3, hs2⟩ := ih s1 hs1
      refine ⟨s2, ?_, hs2⟩
      rw [List.map_cons]
      rcases hf with hf | hf <;> subst hf <;> simp only [forL, e1, e2, Res.bind_ok, e3]
  obtain ⟨s', e, hs⟩ := key kvs _ h0
  obtain ⟨kvs', g1, w⟩ := q s' hs
  refine wp_cons (s' := ⟨s'.sl, s'.hp.set n (.dct kvs')⟩) ?_ w
  simp only [execS, a, b]
  have e2 : forL (fun x s => match bindT g x s.sl with
      | some sl => execSs p c body ⟨sl, s.hp⟩
      | none => .bad) (kvs.map fun kv => keyD kv.1) ⟨sl, h.set n (.ldct kvs)⟩ = .ok .nx s' := e
  erw [e2]
  simp only [g1]
end
/-! ### rows in lists of rows -/
theorem pl_V {k : Nat} {d : D} (h : isV d) : plD k d = true := by
  cases d <;> first | exact h.elim | skip
  · cases k <;> simp only [plD]
  · rename_i x
    have h : PyData.strOk x = true := h
    cases k <;> simp only [plD, h]
theorem pls_V {k : Nat} : ∀ {ds : List D}, (∀ d ∈ ds, isV d) → plDs k ds = true
  | [], _ => by simp only [plDs]
  | d :: ds, h => by simp only [plDs, pl_V (h d List.mem_cons_self), pls_V fun x hx => h x (List.mem_cons_of_mem _ hx), Bool.and_self]
theorem pl_row {k : Nat} {d : D} (h : rowOk d) : plD (k + 1) d = true := by
  obtain ⟨ds, rfl, h, _⟩ := h
  simp only [plD, pls_V h]
theorem pl_rows {k : Nat} : ∀ {rs : List D}, (∀ d ∈ rs, rowOk d) → plDs (k + 1) rs = true
  | [], _ => by simp only [plDs]
  | d :: ds, h => by simp only [plDs, pl_row (h d List.mem_cons_self), pl_rows fun x hx => h x (List.mem_cons_of_mem _ hx), Bool.and_self]
theorem nr_row {d : D} (h : rowOk d) : nr d = true := by
  obtain ⟨ds, rfl, h, _⟩ := h
  simp only [nr, isVs_nr h]
theorem nrs_rows : ∀ {rs : List D}, (∀ d ∈ rs, rowOk d) → nrs rs = true
  | [], _ => rfl
  | d :: ds, h => by simp only [nrs, nr_row (h d List.mem_cons_self), nrs_rows fun x hx => h x (List.mem_cons_of_mem _ hx), Bool.and_self]
open Classical in
theorem any_pl {d : D} (hd : rowOk d) : ∀ {rs : List D}, (∀ x ∈ rs, rowOk x) → (pds rs).any (fun z => PyData.eqv z (pd d)) = decide (d ∈ rs)
  | [], _ => by simp [pds]
  | x :: rs, h => by
    have hx : rowOk x := h x List.mem_cons_self
    have ih := any_pl hd (rs := rs) fun y hy => h y (List.mem_cons_of_mem _ hy)
    simp only [pds, List.any_cons, ih]
    by_cases q : d = x
    · subst q
      rw [SeqAt.eqv_refl _ (lay_pl 8 d (pl_row hd))]
      simp
    · have : PyData.eqv (pd x) (pd d) = false := by
        cases e : PyData.eqv (pd x) (pd d) with
        | false => rfl
        | true => exact absurd (eqv_pl 8 _ _ (pl_row hx) (pl_row hd) e).symm q
      rw [this, Bool.false_or]
      simp [q]
open Classical in
theorem mem_rows {m : Mm} {o d : D} {rs : List D} (hs : seqOf m o = some rs) (hl : lstOf m o = some rs) (hd : rowOk d) (hr : ∀ x ∈ rs, rowOk x) : memD m d o = some (decide (d ∈ rs)) := by
  have e1 := toP_pl (m := m) 8 d (pl_row hd)
  have e2 := toPs_pl (m := m) 8 rs (pl_rows hr)
  have s1 := shaped_pl (k := 8) (by decide) (pl_row (k := 7) hd)
  have s2 : SeqAt.shaped (.list (pds rs)) = true := shaped_pl (k := 9) (d := .lst rs) (by decide) (by simp only [plD]; exact pl_rows hr)
  have a := any_pl hd hr
  obtain ⟨ds, rfl, _⟩ := hd
  simp only [memD, hs, flatD, hl, e1, e2]
  rw [if_pos ⟨s1, s2⟩, a]
/-! ### the state's methods -/
section
variable {p : Pg} {cd : CD} {b n r f s l m : Nat} {h : Mm} {S : Sta} {F : FI}
theorem Hold.fld0 (H : Hold b h n r f s l S F) : fldD h 0 (.ref n) = some (.ref r) := by simp only [fldD, H.ins]; rfl
theorem Hold.fld1 (H : Hold b h n r f s l S F) : fldD h 1 (.ref n) = some (.ref f) := by simp only [fldD, H.ins]; rfl
theorem Hold.fld2 (H : Hold b h n r f s l S F) : fldD h 2 (.ref n) = some (.ref s) := by simp only [fldD, H.ins]; rfl
theorem Hold.fld3 (H : Hold b h n r f s l S F) : fldD h 3 (.ref n) = some (.ref l) := by simp only [fldD, H.ins]; rfl
theorem Hold.cls (H : Hold b h n r f s l S F) : clsD h (.ref n) = some 0 := by simp only [clsD, H.ins]
open Classical in
theorem has_ok (P : SP p cd) (H : Hold b h n r f s l S F) (hg : Good S) {nm : Str} {row : D} (hr : rowOk row) : callN p (m + 1) 9 [.ref n, .str nm, row] h = .ok (.bl (decide (row ∈ (fget S.fac nm).getD []))) h := by
  refine call_runI P.f9 rfl rfl ?_
  simp only [d_State_has, List.map_cons, List.map_nil, List.cons_append, List.nil_append, List.replicate_succ, List.replicate_zero, Nat.reduceSub, List.replicate]
  have mk0 : ∀ m : Mm, mkL false [] m = .ok (.lst []) m := fun _ => rfl
  have f1 := H.fld1
  have e : evalE p (callN p m) (.dget2 (.fld (.var 0) 1) (.var 1) (.lst false [])) [some (.ref n), some (.str nm), some row] h = .ok ((valD (fD F) (.inr nm)).getD (.lst [])) h :=
    ev_dget2 (x := .ref f) (h1 := h) (h2 := h) (y := .str nm) (by simp only [execSs, execS, evalE, evalEs, evalB, evalO, evalI, up_ok, Res.bind_ok, List.getElem?_cons_zero, List.getElem?_cons_succ, List.set_cons_zero, List.set_cons_succ, List.map_cons, List.map_nil, List.cons_append, List.nil_append, Nat.add_one_sub_one, Cn.d, if_true, wipe, bindT, bindTs, binD, arD, mkT, Bool.false_eq_true, if_false, Nat.reduceSub, Option.bind_some, szNil, szOne, szTwo, szThree, szFour, szFive, List.length_nil, List.length_cons, f1]) (dct_ref H.fac) (by simp only [execSs, execS, evalE, evalEs, evalB, evalO, evalI, up_ok, Res.bind_ok, List.getElem?_cons_zero, List.getElem?_cons_succ, List.set_cons_zero, List.set_cons_succ, List.map_cons, List.map_nil, List.cons_append, List.nil_append, Nat.add_one_sub_one, Cn.d, if_true, wipe, bindT, bindTs, binD, arD, mkT, Bool.false_eq_true, if_false, Nat.reduceSub, Option.bind_some, szNil, szOne, szTwo, szThree, szFour, szFive, List.length_nil, List.length_cons]) (by simp only [execSs, execS, evalE, evalEs, evalB, evalO, evalI, up_ok, Res.bind_ok, List.getElem?_cons_zero, List.getElem?_cons_succ, List.set_cons_zero, List.set_cons_succ, List.map_cons, List.map_nil, List.cons_append, List.nil_append, Nat.add_one_sub_one, Cn.d, if_true, wipe, bindT, bindTs, binD, arD, mkT, Bool.false_eq_true, if_false, Nat.reduceSub, Option.bind_some, szNil, szOne, szTwo, szThree, szFour, szFive, List.length_nil, List.length_cons, mk0]) (dct_ref H.fac) rfl
  have me : memD h row ((valD (fD F) (.inr nm)).getD (.lst [])) = some (decide (row ∈ (fget S.fac nm).getD [])) := by
    have hf : fget S.fac nm = (gF F nm).map (·.2) := by rw [H.eq, gF_get]
    rw [gF_val]
    cases g : gF F nm with
    | none =>
      rw [hf, g]
      exact mem_rows rfl rfl hr (fun _ h => by cases h)
    | some x =>
      have e := H.ls _ (gF_mem g)
      have hx : fget S.fac nm = some x.2 := by rw [hf, g]; rfl
      rw [hx]
      simp only [Option.map_some, Option.getD_some]
      have so : lstOf h (.ref x.1) = some x.2 := by simp only [lstOf, e]
      exact mem_rows (o := .ref x.1) (by simp only [seqOf, so]) so hr (hg.rows _ (fget_mem hx))
  refine wp_ret (d := .bl (decide (row ∈ (fget S.fac nm).getD []))) (h1 := h) ?_ ⟨rfl, rfl⟩
  rw [evalE]
  simp only [show evalE p (callN p m) (.var 2) [some (.ref n), some (.str nm), some row] h = .ok row h by simp only [execSs, execS, evalE, evalEs, evalB, evalO, evalI, up_ok, Res.bind_ok, List.getElem?_cons_zero, List.getElem?_cons_succ, List.set_cons_zero, List.set_cons_succ, List.map_cons, List.map_nil, List.cons_append, List.nil_append, Nat.add_one_sub_one, Cn.d, if_true, wipe, bindT, bindTs, binD, arD, mkT, Bool.false_eq_true, if_false, Nat.reduceSub, Option.bind_some, szNil, szOne, szTwo, szThree, szFour, szFive, List.length_nil, List.length_cons], Res.bind_ok, e, me, Bool.false_eq_true, if_false]
theorem ixk {m : Mm} {xs : List D} (k : Nat) : idxD m (.tup xs) (.int (k : Int)) = xs[k]? := by
  simp only [idxD, seqOf]
  exact atI_nat' xs k
theorem eq_str {m : Mm} {x y : Str} : cmpD .eq m (.str x) (.str y) = some (decide (x = y)) := rfl
theorem gF_app {nm : Str} {x : Nat × List D} : ∀ {F : FI}, gF F nm = none → gF (F ++ [(nm, x)]) nm = some x
  | [], _ => by simp [gF]
  | q :: F, g => by
    simp only [gF] at g
    by_cases e : q.1 = nm
    · rw [if_pos e] at g; cases g
    · rw [if_neg e] at g
      simp only [List.cons_append, gF, if_neg e, gF_app g]
/-- the list of a relation's facts, made where it is not there -/
theorem setd_ok (H : Hold b h n r f s l S F) (hz : Sz S 1000000) (nm : Str) : ∃ i F' h', setdD (.ref f) (.str nm) (.ref h.length) (h ++ [.lst []]) = .ok (.ref i) h' ∧ gF F' nm = some (i, (fget S.fac nm).getD []) ∧
    Hold b h' n r f s l { S with fac := match fget S.fac nm with | some _ => S.fac | none => S.fac ++ [(nm, [])] } F' ∧ Fr b h h' := by
  have H2 := H.ext [.lst []]
  have fl : (fD F).length ≤ 1000000 := by
    have := hz.fac
    rw [H.eq] at this
    simpa [fS, fD] using this
  have z : szOk ((fD F).length + 1) = true := szOk_of (by omega)
  have hf : fget S.fac nm = (gF F nm).map (·.2) := by rw [H.eq, gF_get]
  cases g : gF F nm with
  | some x =>
    rw [g] at hf
    refine ⟨x.1, F, h ++ [.lst []], ?_, ?_, ?_, Fr.app (Nat.le_of_lt H.lt)⟩
    · simp only [setdD, isKey, H2.fac, z, if_true, gF_val, g, Option.map_some]
    · rw [g, hf]
      show some x = some (x.1, x.2)
      rfl
    · rw [hf]; exact H2
  | none =>
    rw [g] at hf
    have K := H.new g []
    refine ⟨h.length, F ++ [(nm, h.length, [])], _, ?_, ?_, by rw [hf]; exact K, Fr.trans (Fr.app (t := [.lst []]) (Nat.le_of_lt H.lt)) (Fr.set H.lo.2.2.1)⟩
    · simp only [setdD, isKey, H2.fac, z, if_true, gF_val, g, Option.map_none]
      congr 2
      unfold putD
      have : ((fD F).any fun kv => decide (kv.1 = Sum.inr nm)) = false := by
        rw [List.any_eq_false]
        intro kv hk
        obtain ⟨q, hq, rfl⟩ := List.mem_map.mp hk
        simp only [decide_eq_true_eq]
        intro z
        exact gF_none g (Sum.inr.inj z ▸ List.mem_map_of_mem (f := (·.1)) hq)
      rw [this]; rfl
    · rw [hf]
      exact gF_app g
theorem nr_it {it : Itm} (hi : it.ok) : nr it.d = true := by
  cases it with
  | rel nm c r => have hi : nrs [c, r] = true := hi; simp only [nrs, Bool.and_eq_true] at hi; simp only [Itm.d, nr, nrs, hi.1, hi.2.1, Bool.and_self]
  | fact nm row => have hi : rowOk (.tup row) := hi; simp only [Itm.d, nrs, nr, show nrs row = true from by have := nr_row hi; simpa only [nr] using this, Bool.and_self]
  | str nm a b c e => have hi : nrs [a, b, c, e] = true := hi; simp only [nrs, Bool.and_eq_true] at hi; simp only [Itm.d, nr, nrs, hi.1, hi.2.1, hi.2.2.1, hi.2.2.2.1, Bool.and_self]
  | lay nm x => have hi : nr x = true := hi; simp only [Itm.d, nr, nrs, hi, Bool.and_self]
theorem Sz.mono {j k : Nat} (H : Sz S j) (h : j ≤ k) : Sz S k := ⟨Nat.le_trans H.rel h, Nat.le_trans H.fac h, Nat.le_trans H.str h, Nat.le_trans H.lay h, fun q hq => Nat.le_trans (H.rows q hq) h⟩
theorem fput_app {nm : Str} {xs ys : List D} : ∀ {fac : List (Str × List D)}, fget fac nm = none → fput (fac ++ [(nm, xs)]) nm ys = fac ++ [(nm, ys)]
  | [], _ => by simp [fput]
  | q :: r, h => by
    simp only [fget] at h
    by_cases e : q.1 = nm
    · rw [if_pos e] at h; cases h
    · rw [if_neg e] at h
      simp only [List.cons_append, fput, if_neg e, fput_app h]
theorem ev_append {c : Calls} {sl : List (Option D)} {h h1 h2 : Mm} {o e : ME} {obj : Bool} {i : Nat} {xs : List D} {d : D} (a : evalE p c o sl h = .ok (.ref i) h1) (g : h1[i]? = some (.lst xs)) (b : evalE p c e sl h1 = .ok d h2) (g2 : h2[i]? = some (.lst xs)) (hz : xs.length ≤ 1000000) :
    evalE p c (.bm .append obj o [e]) sl h = .ok .non (h2.set i (.lst (xs ++ [d]))) := by
  simp only [evalE, evalEs, a, b, Res.bind_ok, bmTy, lstOf, g, g2, Option.isSome_some, if_true, bmD, szOk_of (show xs.length + 1 ≤ 16777216 by omega)]
open Classical in
theorem put_ok (P : SP p cd) {it : Itm} (hi : it.ok) (H : Hold b h n r f s l S F) (hg : Good S) (hz : Sz S 100000) : ∃ h' F', callN p (m + 2) 5 [.ref n, it.d] h = .ok .non h' ∧ Hold b h' n r f s l (putI it S) F' ∧ Fr b h h' := by
  have i0 : ∀ m xs, idxD m (.tup xs) (.int 0) = xs[0]? := fun m xs => ixk 0
  have i1 : ∀ m xs, idxD m (.tup xs) (.int 1) = xs[1]? := fun m xs => ixk 1
  have i2 : ∀ m xs, idxD m (.tup xs) (.int 2) = xs[2]? := fun m xs => ixk 2
  have i3 : ∀ m xs, idxD m (.tup xs) (.int 3) = xs[3]? := fun m xs => ixk 3
  have i4 : ∀ m xs, idxD m (.tup xs) (.int 4) = xs[4]? := fun m xs => ixk 4
  have i5 : ∀ m xs, idxD m (.tup xs) (.int 5) = xs[5]? := fun m xs => ixk 5
  have mk1 : ∀ m : Mm, mkL true [] m = .ok (.ref m.length) (m ++ [.lst []]) := fun _ => rfl
  have g0 := H.fld0
  have g1 := H.fld1
  have g2 := H.fld2
  have g3 := H.fld3
  have z6 := hz.mono (k := 1000000) (by decide)
  cases it with
  | rel nm c r' =>
    have H1 := H.setrel (putD S.rel (.inr nm) (.tup [c, r']))
    have g1' := H1.fld1
    obtain ⟨i, F', h', e, _, H2, fr⟩ := setd_ok H1 ⟨by
      have := hz.rel
      have := putD_len S.rel (.inr nm) (.tup [c, r'])
      show (putD S.rel (.inr nm) (.tup [c, r'])).length ≤ _
      omega, z6.fac, z6.str, z6.lay, z6.rows⟩ nm
    refine ⟨h', F', call_runI P.f5 rfl rfl ?_, H2, Fr.trans (Fr.set H.lo.2.1) fr⟩
    show Wp p (callN p (m + 1)) d_State__put.body ⟨[some (.ref n), some (Itm.d (.rel nm c r')), none, none], h⟩ _
    simp only [d_State__put, List.map_cons, List.map_nil, List.cons_append, List.nil_append, List.replicate_succ, List.replicate_zero, Nat.reduceSub, List.replicate]
    refine wp_set (d := .str "relation") (h1 := h) (by simp only [execSs, execS, evalE, evalEs, evalB, evalO, evalI, up_ok, Res.bind_ok, List.getElem?_cons_zero, List.getElem?_cons_succ, List.set_cons_zero, List.set_cons_succ, List.map_cons, List.map_nil, List.cons_append, List.nil_append, Nat.add_one_sub_one, Cn.d, if_true, wipe, bindT, bindTs, binD, arD, mkT, Bool.false_eq_true, if_false, Nat.reduceSub, Option.bind_some, szNil, szOne, szTwo, szThree, szFour, szFive, List.length_nil, List.length_cons, Itm.d, i0]) ?_
    simp only [List.set_cons_zero, List.set_cons_succ]
    refine wp_set (d := .str nm) (h1 := h) (by simp only [execSs, execS, evalE, evalEs, evalB, evalO, evalI, up_ok, Res.bind_ok, List.getElem?_cons_zero, List.getElem?_cons_succ, List.set_cons_zero, List.set_cons_succ, List.map_cons, List.map_nil, List.cons_append, List.nil_append, Nat.add_one_sub_one, Cn.d, if_true, wipe, bindT, bindTs, binD, arD, mkT, Bool.false_eq_true, if_false, Nat.reduceSub, Option.bind_some, szNil, szOne, szTwo, szThree, szFour, szFive, List.length_nil, List.length_cons, Itm.d, i1]) ?_
    simp only [List.set_cons_zero, List.set_cons_succ]
    have q : decide (("relation" : Str) = "relation") = true := by decide +kernel
    refine wp_then (x := .bl true) (by simp only [execSs, execS, evalE, evalEs, evalB, evalO, evalI, up_ok, Res.bind_ok, List.getElem?_cons_zero, List.getElem?_cons_succ, List.set_cons_zero, List.set_cons_succ, List.map_cons, List.map_nil, List.cons_append, List.nil_append, Nat.add_one_sub_one, Cn.d, if_true, wipe, bindT, bindTs, binD, arD, mkT, Bool.false_eq_true, if_false, Nat.reduceSub, Option.bind_some, szNil, szOne, szTwo, szThree, szFour, szFive, List.length_nil, List.length_cons, eq_str, q] <;> rfl) rfl ?_
    refine wp_dput (d := .tup [c, r']) (h1 := h) (x := .ref r) (h2 := h) (y := .str nm) (h3 := h) (by simp only [execSs, execS, evalE, evalEs, evalB, evalO, evalI, up_ok, Res.bind_ok, List.getElem?_cons_zero, List.getElem?_cons_succ, List.set_cons_zero, List.set_cons_succ, List.map_cons, List.map_nil, List.cons_append, List.nil_append, Nat.add_one_sub_one, Cn.d, if_true, wipe, bindT, bindTs, binD, arD, mkT, Bool.false_eq_true, if_false, Nat.reduceSub, Option.bind_some, szNil, szOne, szTwo, szThree, szFour, szFive, List.length_nil, List.length_cons, Itm.d, i2, i3]) (by simp only [execSs, execS, evalE, evalEs, evalB, evalO, evalI, up_ok, Res.bind_ok, List.getElem?_cons_zero, List.getElem?_cons_succ, List.set_cons_zero, List.set_cons_succ, List.map_cons, List.map_nil, List.cons_append, List.nil_append, Nat.add_one_sub_one, Cn.d, if_true, wipe, bindT, bindTs, binD, arD, mkT, Bool.false_eq_true, if_false, Nat.reduceSub, Option.bind_some, szNil, szOne, szTwo, szThree, szFour, szFive, List.length_nil, List.length_cons, g0]) (by simp only [execSs, execS, evalE, evalEs, evalB, evalO, evalI, up_ok, Res.bind_ok, List.getElem?_cons_zero, List.getElem?_cons_succ, List.set_cons_zero, List.set_cons_succ, List.map_cons, List.map_nil, List.cons_append, List.nil_append, Nat.add_one_sub_one, Cn.d, if_true, wipe, bindT, bindTs, binD, arD, mkT, Bool.false_eq_true, if_false, Nat.reduceSub, Option.bind_some, szNil, szOne, szTwo, szThree, szFour, szFive, List.length_nil, List.length_cons]) (dput_ref H.rel z6.rel) ?_
    refine wp_ex (d := .ref i) (h1 := h') ?_ (wp_nil (wp_nil ⟨rfl, rfl⟩))
    rw [ev_dsetd (x := .ref f) (y := .str nm) (h1 := h.set r (.dct (putD S.rel (.inr nm) (.tup [c, r'])))) (h2 := h.set r (.dct (putD S.rel (.inr nm) (.tup [c, r'])))) (by simp only [execSs, execS, evalE, evalEs, evalB, evalO, evalI, up_ok, Res.bind_ok, List.getElem?_cons_zero, List.getElem?_cons_succ, List.set_cons_zero, List.set_cons_succ, List.map_cons, List.map_nil, List.cons_append, List.nil_append, Nat.add_one_sub_one, Cn.d, if_true, wipe, bindT, bindTs, binD, arD, mkT, Bool.false_eq_true, if_false, Nat.reduceSub, Option.bind_some, szNil, szOne, szTwo, szThree, szFour, szFive, List.length_nil, List.length_cons, g1']) (by rw [dct_ref H1.fac]; rfl) (by simp only [execSs, execS, evalE, evalEs, evalB, evalO, evalI, up_ok, Res.bind_ok, List.getElem?_cons_zero, List.getElem?_cons_succ, List.set_cons_zero, List.set_cons_succ, List.map_cons, List.map_nil, List.cons_append, List.nil_append, Nat.add_one_sub_one, Cn.d, if_true, wipe, bindT, bindTs, binD, arD, mkT, Bool.false_eq_true, if_false, Nat.reduceSub, Option.bind_some, szNil, szOne, szTwo, szThree, szFour, szFive, List.length_nil, List.length_cons]) (by simp only [execSs, execS, evalE, evalEs, evalB, evalO, evalI, up_ok, Res.bind_ok, List.getElem?_cons_zero, List.getElem?_cons_succ, List.set_cons_zero, List.set_cons_succ, List.map_cons, List.map_nil, List.cons_append, List.nil_append, Nat.add_one_sub_one, Cn.d, if_true, wipe, bindT, bindTs, binD, arD, mkT, Bool.false_eq_true, if_false, Nat.reduceSub, Option.bind_some, szNil, szOne, szTwo, szThree, szFour, szFive, List.length_nil, List.length_cons, mk1] <;> rfl)]
    exact e
  | fact nm row =>
    have hr : rowOk (.tup row) := hi
    have hs := has_ok (m := m) P H hg (nm := nm) hr
    have q1 : decide (("fact" : Str) = "relation") = false := by decide +kernel
    have q2 : decide (("fact" : Str) = "fact") = true := by decide +kernel
    have pre : ∀ Q : Fl → Sx → Prop, Wp p (callN p (m + 1)) [.ite (.not_ (.meth (.var 0) 4 [(.var 3), (.idx (.var 1) (.lit (.int 2)))])) [.ex (.bm .append false (.dsetd (.fld (.var 0) 1) (.var 3) (.lst true [])) [(.idx (.var 1) (.lit (.int 2)))])] []] ⟨[some (.ref n), some (Itm.d (.fact nm row)), some (.str "fact"), some (.str nm)], h⟩ (Nxt p (callN p (m + 1)) [] (Nxt p (callN p (m + 1)) [] Q)) →
        Wp p (callN p (m + 1)) d_State__put.body ⟨[some (.ref n), some (Itm.d (.fact nm row)), none, none], h⟩ Q := by
      intro Q hQ
      simp only [d_State__put, List.map_cons, List.map_nil, List.cons_append, List.nil_append, List.replicate_succ, List.replicate_zero, Nat.reduceSub, List.replicate]
      refine wp_set (d := .str "fact") (h1 := h) (by simp only [execSs, execS, evalE, evalEs, evalB, evalO, evalI, up_ok, Res.bind_ok, List.getElem?_cons_zero, List.getElem?_cons_succ, List.set_cons_zero, List.set_cons_succ, List.map_cons, List.map_nil, List.cons_append, List.nil_append, Nat.add_one_sub_one, Cn.d, if_true, wipe, bindT, bindTs, binD, arD, mkT, Bool.false_eq_true, if_false, Nat.reduceSub, Option.bind_some, szNil, szOne, szTwo, szThree, szFour, szFive, List.length_nil, List.length_cons, Itm.d, i0]) ?_
      simp only [List.set_cons_zero, List.set_cons_succ]
      refine wp_set (d := .str nm) (h1 := h) (by simp only [execSs, execS, evalE, evalEs, evalB, evalO, evalI, up_ok, Res.bind_ok, List.getElem?_cons_zero, List.getElem?_cons_succ, List.set_cons_zero, List.set_cons_succ, List.map_cons, List.map_nil, List.cons_append, List.nil_append, Nat.add_one_sub_one, Cn.d, if_true, wipe, bindT, bindTs, binD, arD, mkT, Bool.false_eq_true, if_false, Nat.reduceSub, Option.bind_some, szNil, szOne, szTwo, szThree, szFour, szFive, List.length_nil, List.length_cons, Itm.d, i1]) ?_
      simp only [List.set_cons_zero, List.set_cons_succ]
      refine wp_else (x := .bl false) (by simp only [execSs, execS, evalE, evalEs, evalB, evalO, evalI, up_ok, Res.bind_ok, List.getElem?_cons_zero, List.getElem?_cons_succ, List.set_cons_zero, List.set_cons_succ, List.map_cons, List.map_nil, List.cons_append, List.nil_append, Nat.add_one_sub_one, Cn.d, if_true, wipe, bindT, bindTs, binD, arD, mkT, Bool.false_eq_true, if_false, Nat.reduceSub, Option.bind_some, szNil, szOne, szTwo, szThree, szFour, szFive, List.length_nil, List.length_cons, eq_str, q1] <;> rfl) rfl ?_
      refine wp_then (x := .bl true) (by simp only [execSs, execS, evalE, evalEs, evalB, evalO, evalI, up_ok, Res.bind_ok, List.getElem?_cons_zero, List.getElem?_cons_succ, List.set_cons_zero, List.set_cons_succ, List.map_cons, List.map_nil, List.cons_append, List.nil_append, Nat.add_one_sub_one, Cn.d, if_true, wipe, bindT, bindTs, binD, arD, mkT, Bool.false_eq_true, if_false, Nat.reduceSub, Option.bind_some, szNil, szOne, szTwo, szThree, szFour, szFive, List.length_nil, List.length_cons, eq_str, q2] <;> rfl) rfl ?_
      exact hQ
    have ec : evalE p (callN p (m + 1)) (.meth (.var 0) 4 [(.var 3), (.idx (.var 1) (.lit (.int 2)))]) [some (.ref n), some (Itm.d (.fact nm row)), some (.str "fact"), some (.str nm)] h = .ok _ h :=
      ev_meth (x := .ref n) (h1 := h) (C := 0) (cd := cd) (f := 9) (xs := [.str nm, .tup row]) (h2 := h) (by simp only [execSs, execS, evalE, evalEs, evalB, evalO, evalI, up_ok, Res.bind_ok, List.getElem?_cons_zero, List.getElem?_cons_succ, List.set_cons_zero, List.set_cons_succ, List.map_cons, List.map_nil, List.cons_append, List.nil_append, Nat.add_one_sub_one, Cn.d, if_true, wipe, bindT, bindTs, binD, arD, mkT, Bool.false_eq_true, if_false, Nat.reduceSub, Option.bind_some, szNil, szOne, szTwo, szThree, szFour, szFive, List.length_nil, List.length_cons]) H.cls P.c0 P.m4 (by simp only [execSs, execS, evalE, evalEs, evalB, evalO, evalI, up_ok, Res.bind_ok, List.getElem?_cons_zero, List.getElem?_cons_succ, List.set_cons_zero, List.set_cons_succ, List.map_cons, List.map_nil, List.cons_append, List.nil_append, Nat.add_one_sub_one, Cn.d, if_true, wipe, bindT, bindTs, binD, arD, mkT, Bool.false_eq_true, if_false, Nat.reduceSub, Option.bind_some, szNil, szOne, szTwo, szThree, szFour, szFive, List.length_nil, List.length_cons, Itm.d, i2]) hs
    by_cases mem : (D.tup row) ∈ (fget S.fac nm).getD []
    · refine ⟨h, F, call_runI P.f5 rfl rfl (pre _ ?_), by rw [show putI (.fact nm row) S = S by simp only [putI]; rw [if_pos mem]]; exact H, Fr.rfl'⟩
      rw [decide_eq_true mem] at ec
      refine wp_else (x := .bl false) (h1 := h) ?_ rfl (wp_nil (wp_nil (wp_nil (wp_nil ⟨rfl, rfl⟩))))
      rw [evalE, ec]
      simp only [Res.bind_ok, truthD]; rfl
    · obtain ⟨i, F', h', e, g, H2, fr⟩ := setd_ok H z6 nm
      have gi := H2.ls _ (gF_mem g)
      have H3 := H2.old g ((fget S.fac nm).getD [] ++ [.tup row])
      have ef : fput (match fget S.fac nm with | some _ => S.fac | none => S.fac ++ [(nm, [])]) nm ((fget S.fac nm).getD [] ++ [.tup row]) = fput S.fac nm ((fget S.fac nm).getD [] ++ [.tup row]) := by
        cases ge : fget S.fac nm with
        | some x => rfl
        | none =>
          dsimp only
          rw [fput_app ge, fput_none ge]
      refine ⟨_, pF F' nm ((fget S.fac nm).getD [] ++ [.tup row]), call_runI (h1 := h'.set i (.lst ((fget S.fac nm).getD [] ++ [.tup row]))) P.f5 rfl rfl (pre _ ?_), ?_, Fr.trans fr (Fr.set (H2.lq _ (gF_mem g)))⟩
      · rw [decide_eq_false mem] at ec
        refine wp_then (x := .bl true) (h1 := h) (by
          rw [evalE, ec]
          simp only [Res.bind_ok, truthD]; rfl) rfl ?_
        have el : ((fget S.fac nm).getD []).length ≤ 1000000 := rows_of (P := fun x => x.length ≤ 1000000) z6.rows (Nat.zero_le _) nm
        refine wp_ex (ev_append (i := i) (xs := (fget S.fac nm).getD []) (h1 := h') (h2 := h') (d := .tup row) ?_ gi (by simp only [execSs, execS, evalE, evalEs, evalB, evalO, evalI, up_ok, Res.bind_ok, List.getElem?_cons_zero, List.getElem?_cons_succ, List.set_cons_zero, List.set_cons_succ, List.map_cons, List.map_nil, List.cons_append, List.nil_append, Nat.add_one_sub_one, Cn.d, if_true, wipe, bindT, bindTs, binD, arD, mkT, Bool.false_eq_true, if_false, Nat.reduceSub, Option.bind_some, szNil, szOne, szTwo, szThree, szFour, szFive, List.length_nil, List.length_cons, Itm.d, i2]) gi el) (wp_nil (wp_nil (wp_nil (wp_nil ⟨rfl, rfl⟩))))
        rw [ev_dsetd (x := .ref f) (y := .str nm) (h1 := h) (h2 := h) (by simp only [execSs, execS, evalE, evalEs, evalB, evalO, evalI, up_ok, Res.bind_ok, List.getElem?_cons_zero, List.getElem?_cons_succ, List.set_cons_zero, List.set_cons_succ, List.map_cons, List.map_nil, List.cons_append, List.nil_append, Nat.add_one_sub_one, Cn.d, if_true, wipe, bindT, bindTs, binD, arD, mkT, Bool.false_eq_true, if_false, Nat.reduceSub, Option.bind_some, szNil, szOne, szTwo, szThree, szFour, szFive, List.length_nil, List.length_cons, g1]) (by rw [dct_ref H.fac]; rfl) (by simp only [execSs, execS, evalE, evalEs, evalB, evalO, evalI, up_ok, Res.bind_ok, List.getElem?_cons_zero, List.getElem?_cons_succ, List.set_cons_zero, List.set_cons_succ, List.map_cons, List.map_nil, List.cons_append, List.nil_append, Nat.add_one_sub_one, Cn.d, if_true, wipe, bindT, bindTs, binD, arD, mkT, Bool.false_eq_true, if_false, Nat.reduceSub, Option.bind_some, szNil, szOne, szTwo, szThree, szFour, szFive, List.length_nil, List.length_cons]) (by simp only [execSs, execS, evalE, evalEs, evalB, evalO, evalI, up_ok, Res.bind_ok, List.getElem?_cons_zero, List.getElem?_cons_succ, List.set_cons_zero, List.set_cons_succ, List.map_cons, List.map_nil, List.cons_append, List.nil_append, Nat.add_one_sub_one, Cn.d, if_true, wipe, bindT, bindTs, binD, arD, mkT, Bool.false_eq_true, if_false, Nat.reduceSub, Option.bind_some, szNil, szOne, szTwo, szThree, szFour, szFive, List.length_nil, List.length_cons, mk1] <;> rfl)]
        exact e
      · rw [show putI (.fact nm row) S = { S with fac := fput S.fac nm ((fget S.fac nm).getD [] ++ [.tup row]) } by simp only [putI]; rw [if_neg mem]]
        rw [← ef]
        exact H3
  | str nm a b' c e =>
    have H1 := H.setstr (putD S.str (.inr nm) (.tup [a, b', c, e]))
    refine ⟨_, F, call_runI (h1 := h.set s (.dct (putD S.str (.inr nm) (.tup [a, b', c, e])))) P.f5 rfl rfl ?_, H1, Fr.set H.lo.2.2.2.1⟩
    show Wp p (callN p (m + 1)) d_State__put.body ⟨[some (.ref n), some (Itm.d (.str nm a b' c e)), none, none], h⟩ _
    simp only [d_State__put, List.map_cons, List.map_nil, List.cons_append, List.nil_append, List.replicate_succ, List.replicate_zero, Nat.reduceSub, List.replicate]
    refine wp_set (d := .str "structure") (h1 := h) (by simp only [execSs, execS, evalE, evalEs, evalB, evalO, evalI, up_ok, Res.bind_ok, List.getElem?_cons_zero, List.getElem?_cons_succ, List.set_cons_zero, List.set_cons_succ, List.map_cons, List.map_nil, List.cons_append, List.nil_append, Nat.add_one_sub_one, Cn.d, if_true, wipe, bindT, bindTs, binD, arD, mkT, Bool.false_eq_true, if_false, Nat.reduceSub, Option.bind_some, szNil, szOne, szTwo, szThree, szFour, szFive, List.length_nil, List.length_cons, Itm.d, i0]) ?_
    simp only [List.set_cons_zero, List.set_cons_succ]
    refine wp_set (d := .str nm) (h1 := h) (by simp only [execSs, execS, evalE, evalEs, evalB, evalO, evalI, up_ok, Res.bind_ok, List.getElem?_cons_zero, List.getElem?_cons_succ, List.set_cons_zero, List.set_cons_succ, List.map_cons, List.map_nil, List.cons_append, List.nil_append, Nat.add_one_sub_one, Cn.d, if_true, wipe, bindT, bindTs, binD, arD, mkT, Bool.false_eq_true, if_false, Nat.reduceSub, Option.bind_some, szNil, szOne, szTwo, szThree, szFour, szFive, List.length_nil, List.length_cons, Itm.d, i1]) ?_
    simp only [List.set_cons_zero, List.set_cons_succ]
    have q1 : decide (("structure" : Str) = "relation") = false := by decide +kernel
    have q2 : decide (("structure" : Str) = "fact") = false := by decide +kernel
    have q3 : decide (("structure" : Str) = "structure") = true := by decide +kernel
    refine wp_else (x := .bl false) (by simp only [execSs, execS, evalE, evalEs, evalB, evalO, evalI, up_ok, Res.bind_ok, List.getElem?_cons_zero, List.getElem?_cons_succ, List.set_cons_zero, List.set_cons_succ, List.map_cons, List.map_nil, List.cons_append, List.nil_append, Nat.add_one_sub_one, Cn.d, if_true, wipe, bindT, bindTs, binD, arD, mkT, Bool.false_eq_true, if_false, Nat.reduceSub, Option.bind_some, szNil, szOne, szTwo, szThree, szFour, szFive, List.length_nil, List.length_cons, eq_str, q1] <;> rfl) rfl ?_
    refine wp_else (x := .bl false) (by simp only [execSs, execS, evalE, evalEs, evalB, evalO, evalI, up_ok, Res.bind_ok, List.getElem?_cons_zero, List.getElem?_cons_succ, List.set_cons_zero, List.set_cons_succ, List.map_cons, List.map_nil, List.cons_append, List.nil_append, Nat.add_one_sub_one, Cn.d, if_true, wipe, bindT, bindTs, binD, arD, mkT, Bool.false_eq_true, if_false, Nat.reduceSub, Option.bind_some, szNil, szOne, szTwo, szThree, szFour, szFive, List.length_nil, List.length_cons, eq_str, q2] <;> rfl) rfl ?_
    refine wp_then (x := .bl true) (by simp only [execSs, execS, evalE, evalEs, evalB, evalO, evalI, up_ok, Res.bind_ok, List.getElem?_cons_zero, List.getElem?_cons_succ, List.set_cons_zero, List.set_cons_succ, List.map_cons, List.map_nil, List.cons_append, List.nil_append, Nat.add_one_sub_one, Cn.d, if_true, wipe, bindT, bindTs, binD, arD, mkT, Bool.false_eq_true, if_false, Nat.reduceSub, Option.bind_some, szNil, szOne, szTwo, szThree, szFour, szFive, List.length_nil, List.length_cons, eq_str, q3] <;> rfl) rfl ?_
    exact wp_dput (d := .tup [a, b', c, e]) (h1 := h) (x := .ref s) (h2 := h) (y := .str nm) (h3 := h) (by simp only [execSs, execS, evalE, evalEs, evalB, evalO, evalI, up_ok, Res.bind_ok, List.getElem?_cons_zero, List.getElem?_cons_succ, List.set_cons_zero, List.set_cons_succ, List.map_cons, List.map_nil, List.cons_append, List.nil_append, Nat.add_one_sub_one, Cn.d, if_true, wipe, bindT, bindTs, binD, arD, mkT, Bool.false_eq_true, if_false, Nat.reduceSub, Option.bind_some, szNil, szOne, szTwo, szThree, szFour, szFive, List.length_nil, List.length_cons, Itm.d, i2, i3, i4, i5]) (by simp only [execSs, execS, evalE, evalEs, evalB, evalO, evalI, up_ok, Res.bind_ok, List.getElem?_cons_zero, List.getElem?_cons_succ, List.set_cons_zero, List.set_cons_succ, List.map_cons, List.map_nil, List.cons_append, List.nil_append, Nat.add_one_sub_one, Cn.d, if_true, wipe, bindT, bindTs, binD, arD, mkT, Bool.false_eq_true, if_false, Nat.reduceSub, Option.bind_some, szNil, szOne, szTwo, szThree, szFour, szFive, List.length_nil, List.length_cons, g2]) (by simp only [execSs, execS, evalE, evalEs, evalB, evalO, evalI, up_ok, Res.bind_ok, List.getElem?_cons_zero, List.getElem?_cons_succ, List.set_cons_zero, List.set_cons_succ, List.map_cons, List.map_nil, List.cons_append, List.nil_append, Nat.add_one_sub_one, Cn.d, if_true, wipe, bindT, bindTs, binD, arD, mkT, Bool.false_eq_true, if_false, Nat.reduceSub, Option.bind_some, szNil, szOne, szTwo, szThree, szFour, szFive, List.length_nil, List.length_cons]) (dput_ref H.str z6.str) (wp_nil (wp_nil (wp_nil (wp_nil ⟨rfl, rfl⟩))))
  | lay nm x =>
    have H1 := H.setlay (putD S.lay (.inr nm) x)
    refine ⟨_, F, call_runI (h1 := h.set l (.dct (putD S.lay (.inr nm) x))) P.f5 rfl rfl ?_, H1, Fr.set H.lo.2.2.2.2⟩
    show Wp p (callN p (m + 1)) d_State__put.body ⟨[some (.ref n), some (Itm.d (.lay nm x)), none, none], h⟩ _
    simp only [d_State__put, List.map_cons, List.map_nil, List.cons_append, List.nil_append, List.replicate_succ, List.replicate_zero, Nat.reduceSub, List.replicate]
    refine wp_set (d := .str "layout") (h1 := h) (by simp only [execSs, execS, evalE, evalEs, evalB, evalO, evalI, up_ok, Res.bind_ok, List.getElem?_cons_zero, List.getElem?_cons_succ, List.set_cons_zero, List.set_cons_succ, List.map_cons, List.map_nil, List.cons_append, List.nil_append, Nat.add_one_sub_one, Cn.d, if_true, wipe, bindT, bindTs, binD, arD, mkT, Bool.false_eq_true, if_false, Nat.reduceSub, Option.bind_some, szNil, szOne, szTwo, szThree, szFour, szFive, List.length_nil, List.length_cons, Itm.d, i0]) ?_
    simp only [List.set_cons_zero, List.set_cons_succ]
    refine wp_set (d := .str nm) (h1 := h) (by simp only [execSs, execS, evalE, evalEs, evalB, evalO, evalI, up_ok, Res.bind_ok, List.getElem?_cons_zero, List.getElem?_cons_succ, List.set_cons_zero, List.set_cons_succ, List.map_cons, List.map_nil, List.cons_append, List.nil_append, Nat.add_one_sub_one, Cn.d, if_true, wipe, bindT, bindTs, binD, arD, mkT, Bool.false_eq_true, if_false, Nat.reduceSub, Option.bind_some, szNil, szOne, szTwo, szThree, szFour, szFive, List.length_nil, List.length_cons, Itm.d, i1]) ?_
    simp only [List.set_cons_zero, List.set_cons_succ]
    have q1 : decide (("layout" : Str) = "relation") = false := by decide +kernel
    have q2 : decide (("layout" : Str) = "fact") = false := by decide +kernel
    have q3 : decide (("layout" : Str) = "structure") = false := by decide +kernel
    refine wp_else (x := .bl false) (by simp only [execSs, execS, evalE, evalEs, evalB, evalO, evalI, up_ok, Res.bind_ok, List.getElem?_cons_zero, List.getElem?_cons_succ, List.set_cons_zero, List.set_cons_succ, List.map_cons, List.map_nil, List.cons_append, List.nil_append, Nat.add_one_sub_one, Cn.d, if_true, wipe, bindT, bindTs, binD, arD, mkT, Bool.false_eq_true, if_false, Nat.reduceSub, Option.bind_some, szNil, szOne, szTwo, szThree, szFour, szFive, List.length_nil, List.length_cons, eq_str, q1] <;> rfl) rfl ?_
    refine wp_else (x := .bl false) (by simp only [execSs, execS, evalE, evalEs, evalB, evalO, evalI, up_ok, Res.bind_ok, List.getElem?_cons_zero, List.getElem?_cons_succ, List.set_cons_zero, List.set_cons_succ, List.map_cons, List.map_nil, List.cons_append, List.nil_append, Nat.add_one_sub_one, Cn.d, if_true, wipe, bindT, bindTs, binD, arD, mkT, Bool.false_eq_true, if_false, Nat.reduceSub, Option.bind_some, szNil, szOne, szTwo, szThree, szFour, szFive, List.length_nil, List.length_cons, eq_str, q2] <;> rfl) rfl ?_
    refine wp_else (x := .bl false) (by simp only [execSs, execS, evalE, evalEs, evalB, evalO, evalI, up_ok, Res.bind_ok, List.getElem?_cons_zero, List.getElem?_cons_succ, List.set_cons_zero, List.set_cons_succ, List.map_cons, List.map_nil, List.cons_append, List.nil_append, Nat.add_one_sub_one, Cn.d, if_true, wipe, bindT, bindTs, binD, arD, mkT, Bool.false_eq_true, if_false, Nat.reduceSub, Option.bind_some, szNil, szOne, szTwo, szThree, szFour, szFive, List.length_nil, List.length_cons, eq_str, q3] <;> rfl) rfl ?_
    exact wp_dput (d := x) (h1 := h) (x := .ref l) (h2 := h) (y := .str nm) (h3 := h) (by simp only [execSs, execS, evalE, evalEs, evalB, evalO, evalI, up_ok, Res.bind_ok, List.getElem?_cons_zero, List.getElem?_cons_succ, List.set_cons_zero, List.set_cons_succ, List.map_cons, List.map_nil, List.cons_append, List.nil_append, Nat.add_one_sub_one, Cn.d, if_true, wipe, bindT, bindTs, binD, arD, mkT, Bool.false_eq_true, if_false, Nat.reduceSub, Option.bind_some, szNil, szOne, szTwo, szThree, szFour, szFive, List.length_nil, List.length_cons, Itm.d, i2]) (by simp only [execSs, execS, evalE, evalEs, evalB, evalO, evalI, up_ok, Res.bind_ok, List.getElem?_cons_zero, List.getElem?_cons_succ, List.set_cons_zero, List.set_cons_succ, List.map_cons, List.map_nil, List.cons_append, List.nil_append, Nat.add_one_sub_one, Cn.d, if_true, wipe, bindT, bindTs, binD, arD, mkT, Bool.false_eq_true, if_false, Nat.reduceSub, Option.bind_some, szNil, szOne, szTwo, szThree, szFour, szFive, List.length_nil, List.length_cons, g3]) (by simp only [execSs, execS, evalE, evalEs, evalB, evalO, evalI, up_ok, Res.bind_ok, List.getElem?_cons_zero, List.getElem?_cons_succ, List.set_cons_zero, List.set_cons_succ, List.map_cons, List.map_nil, List.cons_append, List.nil_append, Nat.add_one_sub_one, Cn.d, if_true, wipe, bindT, bindTs, binD, arD, mkT, Bool.false_eq_true, if_false, Nat.reduceSub, Option.bind_some, szNil, szOne, szTwo, szThree, szFour, szFive, List.length_nil, List.length_cons]) (dput_ref H.lay z6.lay) (wp_nil (wp_nil (wp_nil (wp_nil ⟨rfl, rfl⟩))))
end
end ST
namespace ST
open PySem R PT PB KY
open L2 (Key)
/-! ### sorting rows -/
theorem rowK_rk : ∀ {ds : List D}, (∀ x ∈ ds, isV x) → rowK (rk ds) = true
  | [], _ => rfl
  | d :: ds, h => by
    have hd := h d List.mem_cons_self
    have ih := rowK_rk fun x hx => h x (List.mem_cons_of_mem _ hx)
    rw [rk_cons]
    cases d <;> first | exact hd.elim | skip
    · simp only [vk, List.cons_append, List.nil_append, rowK, ih, decide_true, Bool.and_self]
    · simp only [vk, List.cons_append, List.nil_append, rowK, ih, decide_true, Bool.and_self]
theorem keyOk_rk {ds : List D} (h : ∀ x ∈ ds, isV x) (h0 : ds ≠ []) : keyOk (rk ds) = true := by
  unfold keyOk
  rw [rowK_rk h, Bool.true_and]
  cases ds with
  | nil => exact absurd rfl h0
  | cons d ds =>
    have hd := h d List.mem_cons_self
    rw [rk_cons]
    cases d <;> first | exact hd.elim | rfl
theorem keyL_ok {p : Pg} (P : KP p) {m : Nat} {h : Mm} : ∀ {xs : List D}, (∀ d ∈ xs, rowOk d) → keyL (callN p (m + 2)) 1 xs h = .ok (xs.map fun x => (x, toksK (rkT x))) h
  | [], _ => rfl
  | x :: xs, hr => by
    obtain ⟨ds, rfl, hv, h0, hl⟩ := hr x List.mem_cons_self
    have ih := keyL_ok P (m := m) (h := h) (xs := xs) fun d hd => hr d (List.mem_cons_of_mem _ hd)
    simp only [keyL, row_key_ok P hl hv h, keysD_map, keyOk_rk hv h0, if_true, ih, Res.bind_ok, List.map_cons, rkT]
theorem sortR_perm (xs : List D) : (sortR xs).Perm xs := by
  unfold sortR srtK
  refine ((List.mergeSort_perm _ _).map _).trans ?_
  rw [List.map_map]
  have : (Prod.fst ∘ fun x => (x, toksK (rkT x))) = (id : D → D) := rfl
  rw [this, List.map_id]
theorem sortR_len (xs : List D) : (sortR xs).length = xs.length := (sortR_perm xs).length_eq
theorem sortR_mem {xs : List D} {d : D} : d ∈ sortR xs ↔ d ∈ xs := (sortR_perm xs).mem_iff
theorem good_ord {S : Sta} (H : Good S) : Good (ordS S) := by
  refine ⟨H.rel, H.str, H.lay, fun q hq => ?_⟩
  obtain ⟨x, hx, e⟩ := List.mem_filterMap.mp hq
  split at e
  · cases e
    intro d hd
    exact H.rows x hx d (sortR_mem.mp hd)
  · cases e
theorem ordF_app (rel : List (Key × D)) (a b : List (Str × List D)) : ordF rel (a ++ b) = ordF rel a ++ ordF rel b := by
  unfold ordF
  rw [List.filterMap_append]
theorem valD_mem {F : FI} (hn : (F.map (·.1)).Nodup) {q : Str × Nat × List D} (hq : q ∈ F) : valD (fD F) (.inr q.1) = some (.ref q.2.1) := by
  rw [gF_val, gF_nodup hn q hq]; rfl
theorem putD_new {K : FI} {nm : Str} {i : Nat} {xs : List D} (h : nm ∉ K.map (·.1)) : putD (fD K) (.inr nm) (.ref i) = fD (K ++ [(nm, i, xs)]) := by
  unfold putD
  have : ((fD K).any fun kv => decide (kv.1 = Sum.inr nm)) = false := by
    rw [List.any_eq_false]
    intro kv hk
    obtain ⟨q, hq, rfl⟩ := List.mem_map.mp hk
    simp only [decide_eq_true_eq]
    intro z
    exact h (Sum.inr.inj z ▸ List.mem_map_of_mem (f := (·.1)) hq)
  rw [this]
  simp [fD]
section
variable {p : Pg} {cd : CD} {b n r f s l m : Nat} {h : Mm} {S : Sta} {F : FI}
/-- what stands in the loop of _order_facts -/
structure Ord (hL : Mm) (f k : Nat) (S : Sta) (F dF : FI) (m : Mm) (K : FI) : Prop where
  kept : m[k]? = some (.dct (fD K))
  ls : ∀ q ∈ K, m[q.2.1]? = some (.lst q.2.2)
  gt : ∀ q ∈ K, k < q.2.1
  nd : (K.map (·.2.1)).Nodup
  kn : (K.map (·.1)).Nodup
  sub : ∀ q ∈ K, q.1 ∈ dF.map (·.1)
  eq : fS K = ordF S.rel (fS dF)
  old : ∀ i, i < k → m[i]? = hL[i]?
theorem order_ok (P : SP p cd) (H : Hold b h n r f s l S F) (hg : Good S) (hz : Sz S 1000000) : ∃ h' K, callN p (m + 3) 7 [.ref n] h = .ok .non h' ∧ Hold b h' n r h.length s l (ordS S) K ∧ Fr b h h' := by
  have hn := get_lt H.ins
  have hr := get_lt H.rel
  have hf := get_lt H.fac
  have hs := get_lt H.str
  have hl := get_lt H.lay
  have h1 := H.ext [.dct []]
  have fac1 : (h ++ [O.dct []])[f]? = some (.dct (fD F)) := h1.fac
  have hL : ∀ {i o}, h[i]? = some o → o ≠ .dct (fD F) ∨ i ≠ f → ((h ++ [O.dct []]).set f (.ldct (fD F)))[i]? = some o := fun {i o} e z => by
    have : f ≠ i := fun q => by
      subst q
      rcases z with z | z
      · rw [H.fac] at e; exact z (Option.some.inj e).symm
      · exact z rfl
    exact set_ne (app_keep e) this
  have run : ∃ h' K, Wp p (callN p (m + 2)) d_State__order_facts.body ⟨[some (.ref n), none, none], h⟩ (fun f s => rtD f = some .non ∧ s.hp = h') ∧ Hold b h' n r h.length s l (ordS S) K ∧ Fr b h h' := by
    suffices Wp p (callN p (m + 2)) d_State__order_facts.body ⟨[some (.ref n), none, none], h⟩ (fun f' st => rtD f' = some .non ∧ ∃ K, Hold b st.hp n r h.length s l (ordS S) K ∧ Fr b h st.hp) by
      obtain ⟨f', st, e, q, K, HK, fr⟩ := this
      exact ⟨st.hp, K, ⟨f', st, e, q, rfl⟩, HK, fr⟩
    simp only [d_State__order_facts, List.map_cons, List.map_nil, List.cons_append, List.nil_append, List.replicate_succ, List.replicate_zero, Nat.reduceSub, List.replicate]
    refine wp_set (d := .ref h.length) (h1 := h ++ [.dct []]) (by simp only [execSs, execS, evalE, evalEs, evalB, evalO, evalI, up_ok, Res.bind_ok, List.getElem?_cons_zero, List.getElem?_cons_succ, List.set_cons_zero, List.set_cons_succ, List.map_cons, List.map_nil, List.cons_append, List.nil_append, Nat.add_one_sub_one, Cn.d, if_true, wipe, bindT, bindTs, binD, arD, mkT, Bool.false_eq_true, if_false, Nat.reduceSub, Option.bind_some, szNil, szOne, szTwo, szThree, szFour, szFive, List.length_nil, List.length_cons]) ?_
    simp only [List.set_cons_zero, List.set_cons_succ]
    have pf : pathN [some (.ref n), some (.ref h.length), none] (h ++ [O.dct []]) 0 (some 1) = some f := by
      have := h1.fld1
      simp only [pathN, List.getElem?_cons_zero, this]
    refine wp_forK (kvs := fD F) (fun rest st => ∃ x2 mm K dF rF, F = dF ++ rF ∧ rest = fD rF ∧ st = ⟨[some (.ref n), some (.ref h.length), x2], mm⟩ ∧ Ord ((h ++ [O.dct []]).set f (.ldct (fD F))) f h.length S F dF mm K) pf fac1
      ⟨none, _, [], [], F, rfl, rfl, rfl, ?_⟩ ?_ ?_
    · refine ⟨?_, (fun _ h => by cases h), (fun _ h => by cases h), (by simp), (by simp), (fun _ h => by cases h), rfl, fun _ _ => rfl⟩
      rw [List.getElem?_set_ne (by omega)]
      simp [fD]
    · rintro a rest st ⟨x2, mm, K, dF, rF, hF, hrest, rfl, OK⟩
      cases rF with
      | nil => simp [fD] at hrest
      | cons q rF =>
        simp only [fD, List.map_cons, List.cons.injEq] at hrest
        obtain ⟨rfl, rfl⟩ := hrest
        refine ⟨_, rfl, ?_⟩
        simp only [List.set_cons_zero, List.set_cons_succ, keyD]
        have hq : q ∈ F := by rw [hF]; simp
        have mI : mm[n]? = some (.ins 0 [(0, .ref r), (1, .ref f), (2, .ref s), (3, .ref l)]) := (OK.old n hn).trans (hL H.ins (.inl (by intro z; cases z)))
        have mR : mm[r]? = some (.dct S.rel) := (OK.old r hr).trans (hL H.rel (.inr H.ne.1))
        have mF : mm[f]? = some (.ldct (fD F)) := (OK.old f hf).trans (List.getElem?_set_self (get_lt fac1))
        have mq : mm[q.2.1]? = some (.lst q.2.2) := (OK.old _ (get_lt (H.ls q hq))).trans (hL (H.ls q hq) (.inl (by intro z; cases z)))
        have f0 : fldD mm 0 (.ref n) = some (.ref r) := by simp only [fldD, mI]; rfl
        have f1 : fldD mm 1 (.ref n) = some (.ref f) := by simp only [fldD, mI]; rfl
        have me := mem_dct (z := q.1) mR
        have ix : idxD mm (.ref f) (.str q.1) = some (.ref q.2.1) := by
          rw [idx_dct (n := 0) (dct_lref mF), valD_mem H.kn hq]
        have so : lstOf mm (.ref q.2.1) = some q.2.2 := by simp only [lstOf, mq]
        have ln : ∀ o, bltD .len o [.ref q.2.1] mm = .ok (.int q.2.2.length) mm := fun o => by simp only [bltD, seqOf, so]
        have gt : ∀ i j : Int, cmpD .gt mm (.int i) (.int j) = some (decide (j < i)) := fun _ _ => rfl
        have ql : q.2.2.length ≤ 1000000 := by
          have : (q.1, q.2.2) ∈ S.fac := by
            rw [H.eq]
            exact List.mem_map_of_mem (f := fun q : Str × Nat × List D => (q.1, q.2.2)) hq
          exact hz.rows _ this
        have qr : ∀ d ∈ q.2.2, rowOk d := by
          have : (q.1, q.2.2) ∈ S.fac := by
            rw [H.eq]
            exact List.mem_map_of_mem (f := fun q : Str × Nat × List D => (q.1, q.2.2)) hq
          exact hg.rows _ this
        have ec : evalE p (callN p (m + 2)) (.bop false [(.mem false (.var 2) (.fld (.var 0) 0)), (.cmp .gt (.blt .len false [(.idx (.fld (.var 0) 1) (.var 2))]) (.lit (.int 0)))]) [some (.ref n), some (.ref h.length), some (.str q.1)] mm = .ok (.bl (has S.rel q.1 || decide (0 < q.2.2.length))) mm := by
          cases e : has S.rel q.1 with
          | true => simp only [execSs, execS, evalE, evalEs, evalB, evalO, evalI, up_ok, Res.bind_ok, List.getElem?_cons_zero, List.getElem?_cons_succ, List.set_cons_zero, List.set_cons_succ, List.map_cons, List.map_nil, List.cons_append, List.nil_append, Nat.add_one_sub_one, Cn.d, if_true, wipe, bindT, bindTs, binD, arD, mkT, Bool.false_eq_true, if_false, Nat.reduceSub, Option.bind_some, szNil, szOne, szTwo, szThree, szFour, szFive, List.length_nil, List.length_cons, f0, me, e, truthD, Bool.true_or] <;> rfl
          | false =>
            have : decide ((0 : Int) < (q.2.2.length : Int)) = decide (0 < q.2.2.length) := decide_eq_decide.mpr (by omega)
            simp only [execSs, execS, evalE, evalEs, evalB, evalO, evalI, up_ok, Res.bind_ok, List.getElem?_cons_zero, List.getElem?_cons_succ, List.set_cons_zero, List.set_cons_succ, List.map_cons, List.map_nil, List.cons_append, List.nil_append, Nat.add_one_sub_one, Cn.d, if_true, wipe, bindT, bindTs, binD, arD, mkT, Bool.false_eq_true, if_false, Nat.reduceSub, Option.bind_some, szNil, szOne, szTwo, szThree, szFour, szFive, List.length_nil, List.length_cons, f0, f1, ix, ln, gt, me, e, truthD, Bool.false_or, this] <;> rfl
        have nin : q.1 ∉ K.map (·.1) := by
          intro z
          obtain ⟨y, hy, e⟩ := List.mem_map.mp z
          have hk := H.kn
          rw [hF, List.map_append, List.nodup_append] at hk
          exact hk.2.2 y.1 (OK.sub y hy) q.1 (by simp) e
        have hF' : F = (dF ++ [q]) ++ rF := by rw [hF, List.append_assoc]; rfl
        have fs1 : fS (dF ++ [q]) = fS dF ++ [(q.1, q.2.2)] := by simp [fS]
        have sub' : ∀ y ∈ K, y.1 ∈ (dF ++ [q]).map (·.1) := fun y hy => by
          rw [List.map_append]
          exact List.mem_append_left _ (OK.sub y hy)
        cases e : (has S.rel q.1 || decide (0 < q.2.2.length)) with
        | false =>
          rw [e] at ec
          refine wp_else ec rfl (wp_nil (wp_nil ⟨.inl rfl, some (.str q.1), mm, K, dF ++ [q], rF, hF', rfl, rfl, OK.kept, OK.ls, OK.gt, OK.nd, OK.kn, sub', ?_, OK.old⟩))
          have o1 : ordF S.rel [(q.1, q.2.2)] = [] := by simp only [ordF, List.filterMap_cons, e, List.filterMap_nil, Bool.false_eq_true, if_false]
          rw [fs1, ordF_app, OK.eq, o1, List.append_nil]
        | true =>
          rw [e] at ec
          refine wp_then ec rfl ?_
          have K0 := get_lt OK.kept
          have kl : (fD K).length ≤ 1000000 := by
            have a := congrArg List.length OK.eq
            have b : (ordF S.rel (fS dF)).length ≤ (fS dF).length := List.length_filterMap_le _ _
            have c := hz.fac
            rw [H.eq, hF] at c
            simp only [fS, fD, List.length_map, List.length_append] at a b c ⊢
            omega
          have sz : szOk (sortR q.2.2).length = true := szOk_of (by rw [sortR_len]; omega)
          have kL := keyL_ok P.k (m := m) (h := mm) qr
          have es : evalE p (callN p (m + 2)) (.srk true (.idx (.fld (.var 0) 1) (.var 2)) 1) [some (.ref n), some (.ref h.length), some (.str q.1)] mm = .ok (.ref mm.length) (mm ++ [.lst (sortR q.2.2)]) := by
            have : mkL true (sortR q.2.2) mm = .ok (.ref mm.length) (mm ++ [.lst (sortR q.2.2)]) := by simp only [mkL, sz, if_true]
            simp only [execSs, execS, evalE, evalEs, evalB, evalO, evalI, up_ok, Res.bind_ok, List.getElem?_cons_zero, List.getElem?_cons_succ, List.set_cons_zero, List.set_cons_succ, List.map_cons, List.map_nil, List.cons_append, List.nil_append, Nat.add_one_sub_one, Cn.d, if_true, wipe, bindT, bindTs, binD, arD, mkT, Bool.false_eq_true, if_false, Nat.reduceSub, Option.bind_some, szNil, szOne, szTwo, szThree, szFour, szFive, List.length_nil, List.length_cons, f1, ix, so, kL]
            exact this
          refine wp_dput (x := .ref h.length) (y := .str q.1) (h2 := mm ++ [.lst (sortR q.2.2)]) (h3 := mm ++ [.lst (sortR q.2.2)]) es (by simp only [execSs, execS, evalE, evalEs, evalB, evalO, evalI, up_ok, Res.bind_ok, List.getElem?_cons_zero, List.getElem?_cons_succ, List.set_cons_zero, List.set_cons_succ, List.map_cons, List.map_nil, List.cons_append, List.nil_append, Nat.add_one_sub_one, Cn.d, if_true, wipe, bindT, bindTs, binD, arD, mkT, Bool.false_eq_true, if_false, Nat.reduceSub, Option.bind_some, szNil, szOne, szTwo, szThree, szFour, szFive, List.length_nil, List.length_cons]) (by simp only [execSs, execS, evalE, evalEs, evalB, evalO, evalI, up_ok, Res.bind_ok, List.getElem?_cons_zero, List.getElem?_cons_succ, List.set_cons_zero, List.set_cons_succ, List.map_cons, List.map_nil, List.cons_append, List.nil_append, Nat.add_one_sub_one, Cn.d, if_true, wipe, bindT, bindTs, binD, arD, mkT, Bool.false_eq_true, if_false, Nat.reduceSub, Option.bind_some, szNil, szOne, szTwo, szThree, szFour, szFive, List.length_nil, List.length_cons]) (dput_ref (app_keep OK.kept) kl) (wp_nil (wp_nil ?_))
          rw [putD_new (xs := sortR q.2.2) nin]
          have lt : ∀ y ∈ K, y.2.1 < mm.length := fun y hy => get_lt (OK.ls y hy)
          refine ⟨.inl rfl, some (.str q.1), _, K ++ [(q.1, mm.length, sortR q.2.2)], dF ++ [q], rF, hF', rfl, rfl, List.getElem?_set_self (by rw [List.length_append]; omega), ?_, ?_, ?_, ?_, ?_, ?_, ?_⟩
          · intro y hy
            rcases List.mem_append.mp hy with hy | hy
            · exact set_keep (app_keep OK.kept) (app_keep (OK.ls y hy)) (by intro z; cases z)
            · rw [List.mem_singleton.mp hy]
              exact set_keep (app_keep OK.kept) (by simp) (by intro z; cases z)
          · intro y hy
            rcases List.mem_append.mp hy with hy | hy
            · exact OK.gt y hy
            · rw [List.mem_singleton.mp hy]; exact K0
          · rw [List.map_append, List.nodup_append]
            refine ⟨OK.nd, by simp, ?_⟩
            intro a ha c hc
            obtain ⟨y, hy, rfl⟩ := List.mem_map.mp ha
            simp only [List.map_cons, List.map_nil, List.mem_singleton] at hc
            have := lt y hy
            omega
          · rw [List.map_append, List.nodup_append]
            refine ⟨OK.kn, by simp, ?_⟩
            intro a ha c hc
            simp only [List.map_cons, List.map_nil, List.mem_singleton] at hc
            subst hc
            exact fun z => nin (z ▸ ha)
          · intro y hy
            rcases List.mem_append.mp hy with hy | hy
            · exact sub' y hy
            · rw [List.mem_singleton.mp hy]; simp
          · have o1 : ordF S.rel [(q.1, q.2.2)] = [(q.1, sortR q.2.2)] := by simp only [ordF, List.filterMap_cons, e, List.filterMap_nil, if_true]
            rw [fs1, ordF_app, ← OK.eq, o1]
            simp [fS]
          · intro i hi
            rw [List.getElem?_set_ne (by omega), List.getElem?_append_left (by omega)]
            exact OK.old i hi
    · rintro st ⟨x2, mm, K, dF, rF, hF, hrest, rfl, OK⟩
      have e0 : rF = [] := by
        cases rF with
        | nil => rfl
        | cons _ _ => simp [fD] at hrest
      subst e0
      rw [List.append_nil] at hF
      subst hF
      have mF : mm[f]? = some (.ldct (fD F)) := (OK.old f hf).trans (List.getElem?_set_self (get_lt fac1))
      refine ⟨_, mF, ?_⟩
      dsimp only
      have K0 := get_lt OK.kept
      have mI : mm[n]? = some (.ins 0 [(0, .ref r), (1, .ref f), (2, .ref s), (3, .ref l)]) := (OK.old n hn).trans (hL H.ins (.inl (by intro z; cases z)))
      have mR : mm[r]? = some (.dct S.rel) := (OK.old r hr).trans (hL H.rel (.inr H.ne.1))
      have mS : mm[s]? = some (.dct S.str) := (OK.old s hs).trans (hL H.str (.inr fun z => H.ne.2.2.2.1 z.symm))
      have mL : mm[l]? = some (.dct S.lay) := (OK.old l hl).trans (hL H.lay (.inr fun z => H.ne.2.2.2.2.1 z.symm))
      have nI : (mm.set f (.dct (fD F)))[n]? = some (.ins 0 [(0, .ref r), (1, .ref f), (2, .ref s), (3, .ref l)]) := set_keep mF mI (by intro z; cases z)
      have nfn : f ≠ n := fun z => by
        rw [z, mI] at mF; cases mF
      refine wp_setf (d := .ref h.length) (h1 := mm.set f (.dct (fD F))) (x := .ref n) (h2 := mm.set f (.dct (fD F))) (h3 := (mm.set f (.dct (fD F))).set n (.ins 0 [(0, .ref r), (1, .ref h.length), (2, .ref s), (3, .ref l)])) (by simp only [execSs, execS, evalE, evalEs, evalB, evalO, evalI, up_ok, Res.bind_ok, List.getElem?_cons_zero, List.getElem?_cons_succ, List.set_cons_zero, List.set_cons_succ, List.map_cons, List.map_nil, List.cons_append, List.nil_append, Nat.add_one_sub_one, Cn.d, if_true, wipe, bindT, bindTs, binD, arD, mkT, Bool.false_eq_true, if_false, Nat.reduceSub, Option.bind_some, szNil, szOne, szTwo, szThree, szFour, szFive, List.length_nil, List.length_cons]) (by simp only [execSs, execS, evalE, evalEs, evalB, evalO, evalI, up_ok, Res.bind_ok, List.getElem?_cons_zero, List.getElem?_cons_succ, List.set_cons_zero, List.set_cons_succ, List.map_cons, List.map_nil, List.cons_append, List.nil_append, Nat.add_one_sub_one, Cn.d, if_true, wipe, bindT, bindTs, binD, arD, mkT, Bool.false_eq_true, if_false, Nat.reduceSub, Option.bind_some, szNil, szOne, szTwo, szThree, szFour, szFive, List.length_nil, List.length_cons]) (by simp only [setFD, nI]; rfl) (wp_nil ⟨rfl, K, ?_, ?_⟩)
      · have st : ∀ {i o}, mm[i]? = some o → i ≠ f → i ≠ n → ((mm.set f (.dct (fD F))).set n (.ins 0 [(0, .ref r), (1, .ref h.length), (2, .ref s), (3, .ref l)]))[i]? = some o := fun e a c => set_ne (set_ne e (fun z => a z.symm)) (fun z => c z.symm)
        have nk : ∀ {i kvs}, mm[i]? = some (O.dct kvs) → i ≠ n := fun {i kvs} e z => by
          rw [z, mI] at e; cases e
        have nl : ∀ {i xs}, mm[i]? = some (O.lst xs) → i ≠ n ∧ i ≠ f := fun {i kvs} e => ⟨(fun z => by rw [z, mI] at e; cases e), (fun z => by rw [z, mF] at e; cases e)⟩
        refine ⟨List.getElem?_set_self (by rw [List.length_set]; omega), st mR H.ne.1 (nk mR), st OK.kept (by omega) (by omega), st mS (fun z => H.ne.2.2.2.1 z.symm) (nk mS), st mL (fun z => H.ne.2.2.2.2.1 z.symm) (nk mL), fun q hq => st (OK.ls q hq) (nl (OK.ls q hq)).2 (nl (OK.ls q hq)).1, OK.nd, OK.kn, ?_, ?_, ?_, fun q hq => ?_⟩
        · show ordF S.rel S.fac = fS K
          rw [H.eq, OK.eq]
        · exact ⟨by omega, H.ne.2.1, H.ne.2.2.1, by omega, by omega, H.ne.2.2.2.2.2⟩
        · exact ⟨H.lo.1, H.lo.2.1, Nat.le_of_lt H.lt, H.lo.2.2.2.1, H.lo.2.2.2.2⟩
        · have := OK.gt q hq
          have := H.lt
          omega
      · refine ⟨by simp only [List.length_set]; omega, fun i hi => ?_⟩
        have := H.lo
        have := H.lt
        rw [List.getElem?_set_ne (by omega), List.getElem?_set_ne (by omega), OK.old i (by omega), List.getElem?_set_ne (by omega), List.getElem?_append_left (by omega)]
  obtain ⟨h', K, w, HK, fr⟩ := run
  exact ⟨h', K, call_runI P.f7 rfl rfl w, HK, fr⟩
end
end ST
namespace ST
open PySem R PT PB KY
open L2 (Key)
theorem setF_app {h0 t : Mm} {C f : Nat} {fs : List (Nat × D)} {d : D} (hl : fs.length < 900) : setFD (.ref h0.length) f d (h0 ++ (.ins C fs :: t)) = some (h0 ++ (.ins C (putF f d fs) :: t)) := by
  have e : (h0 ++ (O.ins C fs :: t))[h0.length]? = some (.ins C fs) := by simp
  simp only [setFD, e, if_pos hl]
  rw [List.set_append_right _ _ (Nat.le_refl _), Nat.sub_self]
  rfl
theorem foldl_app {its : List Itm} {it : Itm} {S : Sta} : (its ++ [it]).foldl (fun S i => putI i S) S = putI it (its.foldl (fun S i => putI i S) S) := by
  rw [List.foldl_append]; rfl
theorem fold_good : ∀ {its : List Itm} {S : Sta}, (∀ i ∈ its, i.ok) → Good S → Good (its.foldl (fun S i => putI i S) S)
  | [], _, _, h => h
  | i :: its, S, hi, h => fold_good (its := its) (S := putI i S) (fun j hj => hi j (List.mem_cons_of_mem _ hj)) (good_put h (hi i List.mem_cons_self))
theorem fold_sz : ∀ {its : List Itm} {S : Sta} {k : Nat}, Sz S k → Sz (its.foldl (fun S i => putI i S) S) (k + its.length)
  | [], _, _, h => h
  | i :: its, S, k, h => by
    have := fold_sz (its := its) (sz_put h i)
    rw [List.length_cons]
    exact this.mono (by omega)
theorem good0 : Good sta0 := ⟨rfl, rfl, rfl, fun _ h => by cases h⟩
theorem sz0 : Sz sta0 0 := ⟨Nat.le_refl _, Nat.le_refl _, Nat.le_refl _, Nat.le_refl _, fun _ h => by cases h⟩
theorem mkS_good {its : List Itm} (hi : ∀ i ∈ its, i.ok) : Good (mkS its) := good_ord (fold_good hi good0)
section
variable {p : Pg} {cd : CD} {m : Nat}
theorem init_ok (P : SP p cd) {its : List Itm} (hi : ∀ i ∈ its, i.ok) (hl : its.length ≤ 100000) {d : D} (hd : d = .lst (its.map Itm.d) ∨ d = .tup (its.map Itm.d)) (h0 : Mm) :
    ∃ h' r f s l F, callN p (m + 4) 4 [.ref h0.length, d] (h0 ++ [.ins 0 []]) = .ok .non h' ∧ Hold h0.length h' h0.length r f s l (mkS its) F ∧ Fr h0.length (h0 ++ [.ins 0 []]) h' := by
  suffices Wp p (callN p (m + 3)) d_State___init__.body ⟨[some (.ref h0.length), some d, none], h0 ++ [.ins 0 []]⟩ (fun f' st => rtD f' = some .non ∧ ∃ r f s l F, Hold h0.length st.hp h0.length r f s l (mkS its) F ∧ Fr h0.length (h0 ++ [.ins 0 []]) st.hp) by
    obtain ⟨f', st, e, q, r, f, s, l, F, HK, fr⟩ := this
    exact ⟨st.hp, r, f, s, l, F, call_runI P.f4 rfl rfl ⟨f', st, e, q, rfl⟩, HK, fr⟩
  simp only [d_State___init__, List.map_cons, List.map_nil, List.cons_append, List.nil_append, List.replicate_succ, List.replicate_zero, Nat.reduceSub, List.replicate]
  have nl : ∀ t : Mm, (h0 ++ t).length = h0.length + t.length := fun t => List.length_append
  have ap : ∀ (t u : Mm), (h0 ++ t) ++ u = h0 ++ (t ++ u) := fun t u => List.append_assoc _ _ _
  refine wp_setf (d := .ref (h0.length + 1)) (h1 := h0 ++ [.ins 0 [], .dct []]) (x := .ref h0.length) (h2 := h0 ++ [.ins 0 [], .dct []]) (h3 := h0 ++ [.ins 0 [(0, .ref (h0.length + 1))], .dct []]) (by simp only [execSs, execS, evalE, evalEs, evalB, evalO, evalI, up_ok, Res.bind_ok, List.getElem?_cons_zero, List.getElem?_cons_succ, List.set_cons_zero, List.set_cons_succ, List.map_cons, List.map_nil, List.cons_append, List.nil_append, Nat.add_one_sub_one, Cn.d, if_true, wipe, bindT, bindTs, binD, arD, mkT, Bool.false_eq_true, if_false, Nat.reduceSub, Option.bind_some, szNil, szOne, szTwo, szThree, szFour, szFive, List.length_nil, List.length_cons, nl, ap]) (by simp only [execSs, execS, evalE, evalEs, evalB, evalO, evalI, up_ok, Res.bind_ok, List.getElem?_cons_zero, List.getElem?_cons_succ, List.set_cons_zero, List.set_cons_succ, List.map_cons, List.map_nil, List.cons_append, List.nil_append, Nat.add_one_sub_one, Cn.d, if_true, wipe, bindT, bindTs, binD, arD, mkT, Bool.false_eq_true, if_false, Nat.reduceSub, Option.bind_some, szNil, szOne, szTwo, szThree, szFour, szFive, List.length_nil, List.length_cons]) (setF_app (by simp)) ?_
  refine wp_setf (d := .ref (h0.length + 2)) (h1 := h0 ++ [.ins 0 [(0, .ref (h0.length + 1))], .dct [], .dct []]) (x := .ref h0.length) (h2 := h0 ++ [.ins 0 [(0, .ref (h0.length + 1))], .dct [], .dct []]) (h3 := h0 ++ [.ins 0 [(0, .ref (h0.length + 1)), (1, .ref (h0.length + 2))], .dct [], .dct []]) (by simp only [execSs, execS, evalE, evalEs, evalB, evalO, evalI, up_ok, Res.bind_ok, List.getElem?_cons_zero, List.getElem?_cons_succ, List.set_cons_zero, List.set_cons_succ, List.map_cons, List.map_nil, List.cons_append, List.nil_append, Nat.add_one_sub_one, Cn.d, if_true, wipe, bindT, bindTs, binD, arD, mkT, Bool.false_eq_true, if_false, Nat.reduceSub, Option.bind_some, szNil, szOne, szTwo, szThree, szFour, szFive, List.length_nil, List.length_cons, nl, ap]) (by simp only [execSs, execS, evalE, evalEs, evalB, evalO, evalI, up_ok, Res.bind_ok, List.getElem?_cons_zero, List.getElem?_cons_succ, List.set_cons_zero, List.set_cons_succ, List.map_cons, List.map_nil, List.cons_append, List.nil_append, Nat.add_one_sub_one, Cn.d, if_true, wipe, bindT, bindTs, binD, arD, mkT, Bool.false_eq_true, if_false, Nat.reduceSub, Option.bind_some, szNil, szOne, szTwo, szThree, szFour, szFive, List.length_nil, List.length_cons]) (setF_app (by simp)) ?_
  refine wp_setf (d := .ref (h0.length + 3)) (h1 := h0 ++ [.ins 0 [(0, .ref (h0.length + 1)), (1, .ref (h0.length + 2))], .dct [], .dct [], .dct []]) (x := .ref h0.length) (h2 := h0 ++ [.ins 0 [(0, .ref (h0.length + 1)), (1, .ref (h0.length + 2))], .dct [], .dct [], .dct []]) (h3 := h0 ++ [.ins 0 [(0, .ref (h0.length + 1)), (1, .ref (h0.length + 2)), (2, .ref (h0.length + 3))], .dct [], .dct [], .dct []]) (by simp only [execSs, execS, evalE, evalEs, evalB, evalO, evalI, up_ok, Res.bind_ok, List.getElem?_cons_zero, List.getElem?_cons_succ, List.set_cons_zero, List.set_cons_succ, List.map_cons, List.map_nil, List.cons_append, List.nil_append, Nat.add_one_sub_one, Cn.d, if_true, wipe, bindT, bindTs, binD, arD, mkT, Bool.false_eq_true, if_false, Nat.reduceSub, Option.bind_some, szNil, szOne, szTwo, szThree, szFour, szFive, List.length_nil, List.length_cons, nl, ap]) (by simp only [execSs, execS, evalE, evalEs, evalB, evalO, evalI, up_ok, Res.bind_ok, List.getElem?_cons_zero, List.getElem?_cons_succ, List.set_cons_zero, List.set_cons_succ, List.map_cons, List.map_nil, List.cons_append, List.nil_append, Nat.add_one_sub_one, Cn.d, if_true, wipe, bindT, bindTs, binD, arD, mkT, Bool.false_eq_true, if_false, Nat.reduceSub, Option.bind_some, szNil, szOne, szTwo, szThree, szFour, szFive, List.length_nil, List.length_cons]) (setF_app (by simp)) ?_
  refine wp_setf (d := .ref (h0.length + 4)) (h1 := h0 ++ [.ins 0 [(0, .ref (h0.length + 1)), (1, .ref (h0.length + 2)), (2, .ref (h0.length + 3))], .dct [], .dct [], .dct [], .dct []]) (x := .ref h0.length) (h2 := h0 ++ [.ins 0 [(0, .ref (h0.length + 1)), (1, .ref (h0.length + 2)), (2, .ref (h0.length + 3))], .dct [], .dct [], .dct [], .dct []]) (h3 := h0 ++ [.ins 0 [(0, .ref (h0.length + 1)), (1, .ref (h0.length + 2)), (2, .ref (h0.length + 3)), (3, .ref (h0.length + 4))], .dct [], .dct [], .dct [], .dct []]) (by simp only [execSs, execS, evalE, evalEs, evalB, evalO, evalI, up_ok, Res.bind_ok, List.getElem?_cons_zero, List.getElem?_cons_succ, List.set_cons_zero, List.set_cons_succ, List.map_cons, List.map_nil, List.cons_append, List.nil_append, Nat.add_one_sub_one, Cn.d, if_true, wipe, bindT, bindTs, binD, arD, mkT, Bool.false_eq_true, if_false, Nat.reduceSub, Option.bind_some, szNil, szOne, szTwo, szThree, szFour, szFive, List.length_nil, List.length_cons, nl, ap]) (by simp only [execSs, execS, evalE, evalEs, evalB, evalO, evalI, up_ok, Res.bind_ok, List.getElem?_cons_zero, List.getElem?_cons_succ, List.set_cons_zero, List.set_cons_succ, List.map_cons, List.map_nil, List.cons_append, List.nil_append, Nat.add_one_sub_one, Cn.d, if_true, wipe, bindT, bindTs, binD, arD, mkT, Bool.false_eq_true, if_false, Nat.reduceSub, Option.bind_some, szNil, szOne, szTwo, szThree, szFour, szFive, List.length_nil, List.length_cons]) (setF_app (by simp)) ?_
  have ga : ∀ (t : Mm) (i : Nat), (h0 ++ t)[h0.length + i]? = t[i]? := fun t i => by
    rw [List.getElem?_append_right (by omega)]
    congr 1; omega
  have H0 : Hold h0.length (h0 ++ [.ins 0 [(0, .ref (h0.length + 1)), (1, .ref (h0.length + 2)), (2, .ref (h0.length + 3)), (3, .ref (h0.length + 4))], .dct [], .dct [], .dct [], .dct []]) h0.length (h0.length + 1) (h0.length + 2) (h0.length + 3) (h0.length + 4) sta0 [] :=
    ⟨ga _ 0, ga _ 1, ga _ 2, ga _ 3, ga _ 4, (fun _ h => by cases h), by simp, by simp, rfl, by omega, by omega, fun _ h => by cases h⟩
  have F0 : Fr h0.length (h0 ++ [.ins 0 []]) (h0 ++ [.ins 0 [(0, .ref (h0.length + 1)), (1, .ref (h0.length + 2)), (2, .ref (h0.length + 3)), (3, .ref (h0.length + 4))], .dct [], .dct [], .dct [], .dct []]) :=
    ⟨by simp, fun i hi => by rw [List.getElem?_append_left hi, List.getElem?_append_left hi]⟩
  refine wp_forR (α := Itm) (F := Itm.d) (xs := its) (h1 := h0 ++ [.ins 0 [(0, .ref (h0.length + 1)), (1, .ref (h0.length + 2)), (2, .ref (h0.length + 3)), (3, .ref (h0.length + 4))], .dct [], .dct [], .dct [], .dct []])
    (fun rest st => ∃ x2 done mm F, done ++ rest = its ∧ st = ⟨[some (.ref h0.length), some d, x2], mm⟩ ∧ Hold h0.length mm h0.length (h0.length + 1) (h0.length + 2) (h0.length + 3) (h0.length + 4) (done.foldl (fun S i => putI i S) sta0) F ∧ Fr h0.length (h0 ++ [.ins 0 []]) mm)
    (by rcases hd with rfl | rfl <;> simp only [execSs, execS, evalE, evalEs, evalB, evalO, evalI, up_ok, Res.bind_ok, List.getElem?_cons_zero, List.getElem?_cons_succ, List.set_cons_zero, List.set_cons_succ, List.map_cons, List.map_nil, List.cons_append, List.nil_append, Nat.add_one_sub_one, Cn.d, if_true, wipe, bindT, bindTs, binD, arD, mkT, Bool.false_eq_true, if_false, Nat.reduceSub, Option.bind_some, szNil, szOne, szTwo, szThree, szFour, szFive, List.length_nil, List.length_cons]) ⟨none, [], _, [], rfl, rfl, H0, F0⟩ ?_ ?_
  · rintro it rest st ⟨x2, done, mm, F, hdn, rfl, H, fr⟩
    refine ⟨_, rfl, ?_⟩
    simp only [List.set_cons_zero, List.set_cons_succ]
    have mi : it ∈ its := by rw [← hdn]; simp
    have md : ∀ i ∈ done, i.ok := fun i hx => hi i (by rw [← hdn]; exact List.mem_append_left _ hx)
    have ml : done.length ≤ 100000 := by
      have := congrArg List.length hdn
      rw [List.length_append] at this; omega
    obtain ⟨h', F', e, H', fr'⟩ := put_ok (m := m + 1) P (hi it mi) H (fold_good md good0) ((fold_sz (its := done) sz0).mono (by omega))
    refine wp_ex (d := .non) (h1 := h') (ev_meth (x := .ref h0.length) (h1 := mm) (h2 := mm) (C := 0) (cd := cd) (f := 5) (xs := [it.d]) (by simp only [execSs, execS, evalE, evalEs, evalB, evalO, evalI, up_ok, Res.bind_ok, List.getElem?_cons_zero, List.getElem?_cons_succ, List.set_cons_zero, List.set_cons_succ, List.map_cons, List.map_nil, List.cons_append, List.nil_append, Nat.add_one_sub_one, Cn.d, if_true, wipe, bindT, bindTs, binD, arD, mkT, Bool.false_eq_true, if_false, Nat.reduceSub, Option.bind_some, szNil, szOne, szTwo, szThree, szFour, szFive, List.length_nil, List.length_cons]) H.cls P.c0 P.m0 (by simp only [execSs, execS, evalE, evalEs, evalB, evalO, evalI, up_ok, Res.bind_ok, List.getElem?_cons_zero, List.getElem?_cons_succ, List.set_cons_zero, List.set_cons_succ, List.map_cons, List.map_nil, List.cons_append, List.nil_append, Nat.add_one_sub_one, Cn.d, if_true, wipe, bindT, bindTs, binD, arD, mkT, Bool.false_eq_true, if_false, Nat.reduceSub, Option.bind_some, szNil, szOne, szTwo, szThree, szFour, szFive, List.length_nil, List.length_cons]) e) (wp_nil ⟨some it.d, done ++ [it], h', F', by rw [List.append_assoc]; exact hdn, rfl, ?_, fr.trans fr'⟩)
    rw [foldl_app]
    exact H'
  · rintro st ⟨x2, done, mm, F, hdn, rfl, H, fr⟩
    have hdn : done = its := by simpa using hdn
    subst hdn
    obtain ⟨h', K, e, H', fr'⟩ := order_ok (m := m) P H (fold_good hi good0) ((fold_sz (its := done) sz0).mono (by omega))
    exact wp_ex (d := .non) (h1 := h') (ev_meth (x := .ref h0.length) (h1 := mm) (h2 := mm) (C := 0) (cd := cd) (f := 7) (xs := []) (by simp only [execSs, execS, evalE, evalEs, evalB, evalO, evalI, up_ok, Res.bind_ok, List.getElem?_cons_zero, List.getElem?_cons_succ, List.set_cons_zero, List.set_cons_succ, List.map_cons, List.map_nil, List.cons_append, List.nil_append, Nat.add_one_sub_one, Cn.d, if_true, wipe, bindT, bindTs, binD, arD, mkT, Bool.false_eq_true, if_false, Nat.reduceSub, Option.bind_some, szNil, szOne, szTwo, szThree, szFour, szFive, List.length_nil, List.length_cons]) H.cls P.c0 P.m2 (by simp only [execSs, execS, evalE, evalEs, evalB, evalO, evalI, up_ok, Res.bind_ok, List.getElem?_cons_zero, List.getElem?_cons_succ, List.set_cons_zero, List.set_cons_succ, List.map_cons, List.map_nil, List.cons_append, List.nil_append, Nat.add_one_sub_one, Cn.d, if_true, wipe, bindT, bindTs, binD, arD, mkT, Bool.false_eq_true, if_false, Nat.reduceSub, Option.bind_some, szNil, szOne, szTwo, szThree, szFour, szFive, List.length_nil, List.length_cons]) e) (wp_nil ⟨rfl, _, _, _, _, K, H', fr.trans fr'⟩)
/-- State(items) -/
theorem make_ok (P : SP p cd) {its : List Itm} (hi : ∀ i ∈ its, i.ok) (hl : its.length ≤ 100000) {d : D} (hd : d = .lst (its.map Itm.d) ∨ d = .tup (its.map Itm.d)) {e : ME} {sl : List (Option D)} {h h0 : Mm} (he : evalE p (callN p (m + 4)) e sl h = .ok d h0) :
    ∃ h' r f s l F, evalE p (callN p (m + 4)) (.make 0 [e]) sl h = .ok (.ref h0.length) h' ∧ Hold h0.length h' h0.length r f s l (mkS its) F ∧ Fr h0.length h0 h' := by
  obtain ⟨h', r, f, s, l, F, e1, H, fr⟩ := init_ok (m := m) P hi hl hd h0
  refine ⟨h', r, f, s, l, F, ?_, H, ⟨by have := fr.1; rw [List.length_append] at this; omega, fun i hx => by rw [fr.2 i hx, List.getElem?_append_left hx]⟩⟩
  simp only [evalE, evalEs, he, Res.bind_ok, P.c0, P.ini, e1]
end
/-! ### frozen states -/
theorem thr_rsv {h : Mm} {k : Nat} : ∀ {kvs : List (Key × D)}, nrk kvs = true → (kvs.mapM fun q => (rsv h (k + 1) q.2).map fun d => (q.1, d)) = some kvs
  | [], _ => rfl
  | q :: kvs, hn => by
    simp only [nrk, Bool.and_eq_true] at hn
    rw [List.mapM_cons, rsv_nr hn.1, thr_rsv hn.2]
    rfl
theorem facs_rsv {h : Mm} {k : Nat} : ∀ {F : FI}, (∀ q ∈ F, h[q.2.1]? = some (.lst q.2.2) ∧ nrs q.2.2 = true) → ((fD F).mapM fun q => (rsv h (k + 2) q.2).map fun d => (q.1, d)) = some ((fS F).map fun q => (Sum.inr q.1, D.lst q.2))
  | [], _ => rfl
  | q :: F, hq => by
    have ih := facs_rsv (h := h) (k := k) (F := F) fun x hx => hq x (List.mem_cons_of_mem _ hx)
    obtain ⟨e, hn⟩ := hq q List.mem_cons_self
    have e2 : rsv h (k + 2) (.ref q.2.1) = some (.lst q.2.2) := by
      rw [rsv]
      simp only [nr, Bool.false_eq_true, if_false, e, mapM_rsv hn, Option.map_some]
    simp only [fD, fS, List.map_cons, List.map_map] at ih ⊢
    rw [List.mapM_cons, e2, ih]
    rfl
theorem rsv_ok {b n r f s l : Nat} {h : Mm} {S : Sta} {F : FI} (H : Hold b h n r f s l S F) (hg : Good S) : rsv h 9 (.ref n) = some (stD S) := by
  have e0 : rsv h 8 (.ref r) = some (.dct S.rel) := by
    rw [rsv]
    simp only [nr, Bool.false_eq_true, if_false, H.rel, thr_rsv hg.rel, Option.map_some]
  have e2 : rsv h 8 (.ref s) = some (.dct S.str) := by
    rw [rsv]
    simp only [nr, Bool.false_eq_true, if_false, H.str, thr_rsv hg.str, Option.map_some]
  have e3 : rsv h 8 (.ref l) = some (.dct S.lay) := by
    rw [rsv]
    simp only [nr, Bool.false_eq_true, if_false, H.lay, thr_rsv hg.lay, Option.map_some]
  have e1 : rsv h 8 (.ref f) = some (.dct ((fS F).map fun q => (Sum.inr q.1, D.lst q.2))) := by
    rw [rsv]
    simp only [nr, Bool.false_eq_true, if_false, H.fac]
    rw [facs_rsv fun q hq => ⟨H.ls q hq, nrs_rows (hg.rows (q.1, q.2.2) (by rw [H.eq]; exact List.mem_map_of_mem (f := fun q : Str × Nat × List D => (q.1, q.2.2)) hq))⟩]
    rfl
  rw [rsv]
  simp only [nr, Bool.false_eq_true, if_false, H.ins, List.mapM_cons, List.mapM_nil, e0, e1, e2, e3, Option.map_some]
  rw [← H.eq]
  rfl
theorem nr_facs : ∀ {fac : List (Str × List D)}, (∀ q ∈ fac, ∀ d ∈ q.2, rowOk d) → nrk (fac.map fun q => ((.inr q.1 : Key), D.lst q.2)) = true
  | [], _ => rfl
  | q :: fac, h => by
    simp only [List.map_cons, nrk, nr, nrs_rows (h q List.mem_cons_self), nr_facs fun x hx => h x (List.mem_cons_of_mem _ hx), Bool.and_self]
theorem nr_st {S : Sta} (hg : Good S) : nr (stD S) = true := by
  simp only [stD, nr, nrf, hg.rel, hg.str, hg.lay, nr_facs hg.rows, Bool.and_self]
end ST
namespace DR
open PySem R
variable {p : Pg}
def dDraw : FD := ⟨2, 5, [.ite (.not_ (.var 0)) [.ret (.bin .mod false (.bin .mul false (.var 1) (.lit (.int 5))) (.lit (.int 7)))] [], .set 2 (.blt .int_ false [(.idx (.var 0) (.bin .mod false (.var 1) (.blt .len false [(.var 0)])))]), .set 3 (.bin .fdiv false (.var 1) (.blt .len false [(.var 0)])), .ite (.cmp .ge (.var 2) (.lit (.int 1000000000000000000))) [.for_ (.nm 4) (.rng1 (.blt .min2 false [(.var 3), (.lit (.int 60))])) [.set 2 (.bin .fdiv false (.var 2) (.lit (.int 100003)))], .ret (.bin .mod false (.var 2) (.lit (.int 100003)))] [], .ret (.bin .mod false (.bin .mul false (.bin .mod false (.bin .add false (.bin .add false (.bin .mul false (.var 2) (.lit (.int 48271))) (.bin .mul false (.var 1) (.lit (.int 69621)))) (.lit (.int 13))) (.lit (.int 2147483647))) (.lit (.int 16807))) (.lit (.int 2147483629)))], true, []⟩
/-! ### the script's numbers -/
def at0 (ns : List Int) (j : Nat) : Int := match ns[j]? with | some x => x | none => 0
theorem idx_scr {m : Mm} {ns : List Int} {j : Nat} (h : j < ns.length) : idxD m (.scr (ns.map .int)) (.int (j : Int)) = some (.int (at0 ns j)) := by
  simp only [idxD, seqOf, lstOf, atI_nat', List.getElem?_map, at0, List.getElem?_eq_getElem h, Option.map_some]
def itn : Nat → Int → Int
  | 0, z => z
  | n + 1, z => itn n z / 100003
def drawZ (ns : List Int) (k : Nat) : Int :=
  if ns.length = 0 then (k : Int) * 5 % 7
  else if 1000000000000000000 ≤ at0 ns (k % ns.length) then itn (if 60 < k / ns.length then 60 else k / ns.length) (at0 ns (k % ns.length)) % 100003
  else (at0 ns (k % ns.length) * 48271 + (k : Int) * 69621 + 13) % 2147483647 * 16807 % 2147483629
theorem mulOk_5 {i : Int} : mulOk i 5 = true := mulOk_r (by decide)
theorem nrs_ints {ns : List Int} : nrs (ns.map D.int) = true := nrs_map fun _ _ => by simp only [nr]
theorem draw_ok {i : Nat} (hf : p.fns[i]? = some dDraw) {ns : List Int} (hl : ns.length ≤ 63) (k n : Nat) (h : Mm) : callN p (n + 1) i [.scr (ns.map .int), .int (k : Int)] h = .ok (.int (drawZ ns k)) h := by
  refine call_pure (fd := dDraw) hf rfl rfl (by simp only [nrs, nr, nrs_ints, Bool.and_self]) ?_
  by_cases h0 : ns.length = 0
  · have e0 : ns = [] := List.eq_nil_of_length_eq_zero h0
    subst e0
    simp only [dDraw, execSs, execS, evalE, evalEs, evalB, evalO, evalI, up_ok, Res.bind_ok, List.getElem?_cons_zero, List.getElem?_cons_succ, List.set_cons_zero, List.set_cons_succ, List.map_cons, List.map_nil, List.cons_append, List.nil_append, Nat.add_one_sub_one, Cn.d, if_true, wipe, bindT, bindTs, binD, arD, mkT, Bool.false_eq_true, if_false, Nat.reduceSub, Option.bind_some, szNil, szOne, szTwo, szThree, szFour, szFive, List.length_nil, List.length_cons, addD, mulD, mkL, List.replicate_succ, List.replicate_zero, List.replicate, truthD, lstOf, Option.map_some, List.isEmpty_nil, Bool.not_true, Bool.not_false, mulOk_5, decide_true, show decide ((0:Int) < 7) = true from rfl]
    exact ⟨_, _, rfl, rsv9 rfl⟩
  · have hp : 0 < ns.length := Nat.pos_of_ne_zero h0
    have hne : (ns.map D.int).isEmpty = false := by
      cases ns with
      | nil => exact absurd rfl h0
      | cons _ _ => rfl
    have e1 : decide ((0 : Int) < ((ns.length : Nat) : Int)) = true := decide_eq_true (by omega)
    have e2 : divOk ((ns.length : Nat) : Int) = true := divOk_small (by omega) (by omega)
    have e3 : ((k : Nat) : Int) % ((ns.length : Nat) : Int) = ((k % ns.length : Nat) : Int) := (Int.natCast_emod _ _).symm
    have e4 : ((k : Nat) : Int) / ((ns.length : Nat) : Int) = ((k / ns.length : Nat) : Int) := (Int.natCast_ediv _ _).symm
    have e5 := idx_scr (m := []) (ns := ns) (Nat.mod_lt k hp)
    have e6 : (if (60 : Int) < ((k / ns.length : Nat) : Int) then (60 : Int) else ((k / ns.length : Nat) : Int)) = (((if 60 < k / ns.length then 60 else k / ns.length : Nat)) : Int) := by
      split <;> split <;> omega
    have e7 : small62 (((if 60 < k / ns.length then 60 else k / ns.length : Nat)) : Int) = true := small_of (by split <;> omega)
    have e8 : ∀ i : Int, mulOk i 48271 = true := fun i => mulOk_r (by decide)
    have e9 : ∀ i : Int, mulOk i 69621 = true := fun i => mulOk_r (by decide)
    have e10 : ∀ i : Int, mulOk i 16807 = true := fun i => mulOk_r (by decide)
    simp only [dDraw, execSs, execS, evalE, evalEs, evalB, evalO, evalI, up_ok, Res.bind_ok, List.getElem?_cons_zero, List.getElem?_cons_succ, List.set_cons_zero, List.set_cons_succ, List.map_cons, List.map_nil, List.cons_append, List.nil_append, Nat.add_one_sub_one, Cn.d, if_true, wipe, bindT, bindTs, binD, arD, mkT, Bool.false_eq_true, if_false, Nat.reduceSub, Option.bind_some, szNil, szOne, szTwo, szThree, szFour, szFive, List.length_nil, List.length_cons, addD, mulD, mkL, List.replicate_succ, List.replicate_zero, List.replicate, truthD, lstOf, Option.map_some, hne, Bool.not_true, Bool.not_false, bltD, seqOf, List.length_map, e1, e2, e3, e4, e5, cmpD, e8, e9, e10, show decide ((0:Int) < 2147483647) = true from rfl, show decide ((0:Int) < 2147483629) = true from rfl, show decide ((0:Int) < 100003) = true from rfl, show divOk 100003 = true from divOk_small (by decide) (by decide)]
    by_cases hb : (1000000000000000000 : Int) ≤ at0 ns (k % ns.length)
    · simp only [decide_eq_true hb, execSs, execS, evalE, evalEs, evalB, evalO, evalI, up_ok, Res.bind_ok, List.getElem?_cons_zero, List.getElem?_cons_succ, List.set_cons_zero, List.set_cons_succ, List.map_cons, List.map_nil, List.cons_append, List.nil_append, Nat.add_one_sub_one, Cn.d, if_true, wipe, bindT, bindTs, binD, arD, mkT, Bool.false_eq_true, if_false, Nat.reduceSub, Option.bind_some, szNil, szOne, szTwo, szThree, szFour, szFive, List.length_nil, List.length_cons, addD, mulD, mkL, List.replicate_succ, List.replicate_zero, List.replicate, e6, e7, Int.toNat_natCast, bltD]
      obtain ⟨s', es, x, hs⟩ := forL_nx (c := (if 60 < k / ns.length then 60 else k / ns.length)) (F := fun k => .int (k : Int)) (f := fun x s => match bindT (.nm 4) x s.sl with | some sl => execSs p (callN p n) [MS.set 2 (.bin .fdiv false (.var 2) (.lit (.int 100003)))] ⟨sl, s.hp⟩ | none => .bad)
        (fun j s => ∃ x, s = ⟨[some (.scr (ns.map .int)), some (.int (k : Int)), some (.int (itn j (at0 ns (k % ns.length)))), some (.int ((k / ns.length : Nat) : Int)), x], []⟩) (s := ⟨[some (.scr (ns.map .int)), some (.int (k : Int)), some (.int (at0 ns (k % ns.length))), some (.int ((k / ns.length : Nat) : Int)), none], []⟩) ⟨none, rfl⟩ (by
          rintro j s hj ⟨x, rfl⟩
          simp only [execSs, execS, evalE, evalEs, evalB, evalO, evalI, up_ok, Res.bind_ok, List.getElem?_cons_zero, List.getElem?_cons_succ, List.set_cons_zero, List.set_cons_succ, List.map_cons, List.map_nil, List.cons_append, List.nil_append, Nat.add_one_sub_one, Cn.d, if_true, wipe, bindT, bindTs, binD, arD, mkT, Bool.false_eq_true, if_false, Nat.reduceSub, Option.bind_some, szNil, szOne, szTwo, szThree, szFour, szFive, List.length_nil, List.length_cons, addD, mulD, mkL, List.replicate_succ, List.replicate_zero, List.replicate, show divOk 100003 = true from divOk_small (by decide) (by decide)]
          exact ⟨_, rfl, _, rfl⟩)
      subst hs
      simp only [bindT, execSs, execS, evalE, evalEs, evalB, evalO, evalI, up_ok, Res.bind_ok, List.getElem?_cons_zero, List.getElem?_cons_succ, List.set_cons_zero, List.set_cons_succ, List.map_cons, List.map_nil, List.cons_append, List.nil_append, Nat.add_one_sub_one, Cn.d, if_true, wipe, bindT, bindTs, binD, arD, mkT, Bool.false_eq_true, if_false, Nat.reduceSub, Option.bind_some, szNil, szOne, szTwo, szThree, szFour, szFive, List.length_nil, List.length_cons, addD, mulD, mkL, List.replicate_succ, List.replicate_zero, List.replicate] at es
      simp only [es, execSs, execS, evalE, evalEs, evalB, evalO, evalI, up_ok, Res.bind_ok, List.getElem?_cons_zero, List.getElem?_cons_succ, List.set_cons_zero, List.set_cons_succ, List.map_cons, List.map_nil, List.cons_append, List.nil_append, Nat.add_one_sub_one, Cn.d, if_true, wipe, bindT, bindTs, binD, arD, mkT, Bool.false_eq_true, if_false, Nat.reduceSub, Option.bind_some, szNil, szOne, szTwo, szThree, szFour, szFive, List.length_nil, List.length_cons, addD, mulD, mkL, List.replicate_succ, List.replicate_zero, List.replicate, show divOk 100003 = true from divOk_small (by decide) (by decide), show decide ((0:Int) < 100003) = true from rfl]
      refine ⟨_, _, rfl, ?_⟩
      rw [rsv9 rfl]
      unfold drawZ
      rw [if_neg h0, if_pos hb]
    · simp only [decide_eq_false hb, execSs, execS, evalE, evalEs, evalB, evalO, evalI, up_ok, Res.bind_ok, List.getElem?_cons_zero, List.getElem?_cons_succ, List.set_cons_zero, List.set_cons_succ, List.map_cons, List.map_nil, List.cons_append, List.nil_append, Nat.add_one_sub_one, Cn.d, if_true, wipe, bindT, bindTs, binD, arD, mkT, Bool.false_eq_true, if_false, Nat.reduceSub, Option.bind_some, szNil, szOne, szTwo, szThree, szFour, szFive, List.length_nil, List.length_cons, addD, mulD, mkL, List.replicate_succ, List.replicate_zero, List.replicate, e8, e9, e10, show decide ((0:Int) < 2147483647) = true from rfl, show decide ((0:Int) < 2147483629) = true from rfl]
      refine ⟨_, _, rfl, ?_⟩
      rw [rsv9 rfl]
      unfold drawZ
      rw [if_neg h0, if_neg hb]
end DR
namespace LS
open PySem R PT PB KY ST DR
open L2 (Key)
/-! ### the states of laws k40 to k42 -/
def dValue : FD := ⟨1, 1, [.ite (.cmp .eq (.bin .mod false (.var 0) (.lit (.int 4))) (.lit (.int 0))) [.ret (.bin .add false (.lit (.str "t")) (.blt .str_ false [(.bin .mod false (.bin .fdiv false (.var 0) (.lit (.int 4))) (.lit (.int 5)))]))] [], .ret (.bin .sub false (.bin .mod false (.bin .fdiv false (.var 0) (.lit (.int 4))) (.lit (.int 7))) (.lit (.int 2)))], true, []⟩
def dState : FD := ⟨2, 7, [.set 2 (.lst true [(.tup [(.lit (.str "relation")), (.lit (.str "p")), (.tup [(.lit (.str "a")), (.lit (.str "b"))]), (.lit (.int 20))]), (.tup [(.lit (.str "relation")), (.lit (.str "q")), (.tup [(.lit (.str "c"))]), (.lit (.int 20))])]), .for_ (.nm 3) (.rng1 (.bin .add false (.lit (.int 6)) (.bin .mod false (.call 188 [(.var 0), (.var 1)]) (.lit (.int 30))))) [.set 6 (.call 188 [(.var 0), (.bin .add false (.bin .add false (.var 1) (.lit (.int 1))) (.var 3))]), .ite (.cmp .eq (.bin .mod false (.var 6) (.lit (.int 5))) (.lit (.int 0))) [.ex (.bm .append false (.var 2) [(.tup [(.lit (.str "fact")), (.lit (.str "q")), (.tup [(.call 189 [(.bin .fdiv false (.var 6) (.lit (.int 5)))])])])])] [.ex (.bm .append false (.var 2) [(.tup [(.lit (.str "fact")), (.lit (.str "p")), (.tup [(.call 189 [(.bin .fdiv false (.var 6) (.lit (.int 5)))]), (.call 189 [(.bin .fdiv false (.var 6) (.lit (.int 200)))])])])])]], .set 4 (.lc false (.bin .add false (.lit (.int 1)) (.bin .mod false (.call 188 [(.var 0), (.bin .add false (.bin .add false (.var 1) (.lit (.int 40))) (.var 3))]) (.lit (.int 6)))) (.nm 3) (.rng1 (.lit (.int 3))) none [3]), .ex (.bm .append false (.var 2) [(.tup [(.lit (.str "structure")), (.lit (.str "s")), (.lit (.str "p")), (.tup [(.lit (.str "a"))]), (.idx (.var 4) (.lit (.int 0))), (.lit (.int 8))])]), .ex (.bm .append false (.var 2) [(.tup [(.lit (.str "structure")), (.lit (.str "t")), (.lit (.str "p")), (.tup [(.lit (.str "b"))]), (.idx (.var 4) (.lit (.int 1))), (.lit (.int 8))])]), .ex (.bm .append false (.var 2) [(.tup [(.lit (.str "structure")), (.lit (.str "u")), (.lit (.str "p")), (.tup [(.lit (.str "b")), (.lit (.str "a"))]), (.idx (.var 4) (.lit (.int 2))), (.lit (.int 8))])]), .ex (.bm .append false (.var 2) [(.tup [(.lit (.str "structure")), (.lit (.str "w")), (.lit (.str "q")), (.tup [(.lit (.str "c"))]), (.lit (.int 2)), (.lit (.int 8))])]), .set 5 (.lst false [(.tup []), (.tup [(.lit (.str "s"))]), (.tup [(.lit (.str "t")), (.lit (.str "w"))]), (.tup [(.lit (.str "s")), (.lit (.str "u"))]), (.tup [(.lit (.str "u")), (.lit (.str "t")), (.lit (.str "s"))]), (.tup [(.lit (.str "w"))])]), .for_ (.nm 3) (.rng1 (.bin .add false (.lit (.int 1)) (.bin .mod false (.call 188 [(.var 0), (.bin .add false (.var 1) (.lit (.int 43)))]) (.lit (.int 6))))) [.ex (.bm .append false (.var 2) [(.tup [(.lit (.str "layout")), (.bin .add false (.lit (.str "l")) (.blt .str_ false [(.var 3)])), (.idx (.var 5) (.var 3))])])], .frzv 2, .ret (.make 0 [(.var 2)])], true, []⟩
structure LP (p : Pg) (cd : CD) : Prop where
  sp : SP p cd
  f188 : p.fns[188]? = some dDraw
  f189 : p.fns[189]? = some dValue
  f190 : p.fns[190]? = some dState
variable {p : Pg} {cd : CD}
theorem itn_nn : ∀ (k : Nat) (z : Int), 0 ≤ z → 0 ≤ itn k z
  | 0, _, h => h
  | k + 1, z, h => Int.ediv_nonneg (itn_nn k z h) (by decide)
theorem draw_nn (ns : List Int) (k : Nat) : 0 ≤ drawZ ns k := by
  unfold drawZ
  split
  · exact Int.emod_nonneg _ (by decide)
  · split
    · exact Int.emod_nonneg _ (by decide)
    · exact Int.emod_nonneg _ (by decide)
theorem strOk_t {i : Nat} (h : i < 5) : PyData.strOk (("t" : Str) ++ (toString (i : Int) : Str)) = true := by
  have : i = 0 ∨ i = 1 ∨ i = 2 ∨ i = 3 ∨ i = 4 := by omega
  rcases this with rfl | rfl | rfl | rfl | rfl <;> decide +kernel
theorem value_ok (Z : LP p cd) {n : Nat} (i : Int) (h : Mm) : ∃ d, isV d ∧ callN p (n + 1) 189 [.int i] h = .ok d h := by
  have m4 : decide ((0:Int) < 4) = true := rfl
  have m5 : decide ((0:Int) < 5) = true := rfl
  have m7 : decide ((0:Int) < 7) = true := rfl
  have d4 : divOk 4 = true := divOk_small (by decide) (by decide)
  by_cases c : i % 4 = 0
  · obtain ⟨v, hv, e⟩ : ∃ v : Nat, v < 5 ∧ i / 4 % 5 = (v : Int) := ⟨(i / 4 % 5).toNat, by
      have a := Int.emod_nonneg (i / 4) (by decide : (5 : Int) ≠ 0)
      have b := Int.emod_lt_of_pos (i / 4) (by decide : (0 : Int) < 5)
      omega⟩
    refine ⟨.str (("t" : Str) ++ (toString (v : Int) : Str)), strOk_t hv, call_run Z.f189 rfl rfl rfl ?_⟩
    simp only [dValue, List.map_cons, List.map_nil, List.cons_append, List.nil_append, List.replicate_succ, List.replicate_zero, Nat.reduceSub, List.replicate]
    refine wp_then (x := .bl true) (h1 := []) (by simp only [execSs, execS, evalE, evalEs, evalB, evalO, evalI, up_ok, Res.bind_ok, List.getElem?_cons_zero, List.getElem?_cons_succ, List.set_cons_zero, List.set_cons_succ, List.map_cons, List.map_nil, List.cons_append, List.nil_append, Nat.add_one_sub_one, Cn.d, if_true, wipe, bindT, bindTs, binD, arD, mkT, Bool.false_eq_true, if_false, Nat.reduceSub, Option.bind_some, szNil, szOne, szTwo, szThree, szFour, szFive, List.length_nil, List.length_cons, m4, eq_int, decide_eq_true c]) rfl ?_
    have st : bltD .str_ false [.int (v : Int)] [] = .ok (.str (toString (v : Int))) [] := by
      have : v = 0 ∨ v = 1 ∨ v = 2 ∨ v = 3 ∨ v = 4 := by omega
      rcases this with rfl | rfl | rfl | rfl | rfl <;> rfl
    have sa : addD false [] (.str ("t" : Str)) (.str (toString (v : Int))) = .ok (.str (("t" : Str) ++ (toString (v : Int) : Str))) [] := by
      have : v = 0 ∨ v = 1 ∨ v = 2 ∨ v = 3 ∨ v = 4 := by omega
      rcases this with rfl | rfl | rfl | rfl | rfl <;> rfl
    exact wp_ret (d := .str (("t" : Str) ++ (toString (v : Int) : Str))) (h1 := []) (by simp only [execSs, execS, evalE, evalEs, evalB, evalO, evalI, up_ok, Res.bind_ok, List.getElem?_cons_zero, List.getElem?_cons_succ, List.set_cons_zero, List.set_cons_succ, List.map_cons, List.map_nil, List.cons_append, List.nil_append, Nat.add_one_sub_one, Cn.d, if_true, wipe, bindT, bindTs, binD, arD, mkT, Bool.false_eq_true, if_false, Nat.reduceSub, Option.bind_some, szNil, szOne, szTwo, szThree, szFour, szFive, List.length_nil, List.length_cons, d4, m5, e, st, sa]) ⟨_, rfl, rsv9 rfl⟩
  · refine ⟨.int (i / 4 % 7 - 2), trivial, call_run Z.f189 rfl rfl rfl ?_⟩
    simp only [dValue, List.map_cons, List.map_nil, List.cons_append, List.nil_append, List.replicate_succ, List.replicate_zero, Nat.reduceSub, List.replicate]
    refine wp_else (x := .bl false) (h1 := []) (by simp only [execSs, execS, evalE, evalEs, evalB, evalO, evalI, up_ok, Res.bind_ok, List.getElem?_cons_zero, List.getElem?_cons_succ, List.set_cons_zero, List.set_cons_succ, List.map_cons, List.map_nil, List.cons_append, List.nil_append, Nat.add_one_sub_one, Cn.d, if_true, wipe, bindT, bindTs, binD, arD, mkT, Bool.false_eq_true, if_false, Nat.reduceSub, Option.bind_some, szNil, szOne, szTwo, szThree, szFour, szFive, List.length_nil, List.length_cons, m4, eq_int, decide_eq_false c]) rfl (wp_nil ?_)
    exact wp_ret (d := .int (i / 4 % 7 - 2)) (h1 := []) (by simp only [execSs, execS, evalE, evalEs, evalB, evalO, evalI, up_ok, Res.bind_ok, List.getElem?_cons_zero, List.getElem?_cons_succ, List.set_cons_zero, List.set_cons_succ, List.map_cons, List.map_nil, List.cons_append, List.nil_append, Nat.add_one_sub_one, Cn.d, if_true, wipe, bindT, bindTs, binD, arD, mkT, Bool.false_eq_true, if_false, Nat.reduceSub, Option.bind_some, szNil, szOne, szTwo, szThree, szFour, szFive, List.length_nil, List.length_cons, d4, m7]) ⟨_, rfl, rsv9 rfl⟩
/-! ### their items -/
def FactOk (it : Itm) : Prop := (∃ d, isV d ∧ it = .fact "q" [d]) ∨ (∃ d e, isV d ∧ isV e ∧ it = .fact "p" [d, e])
def lyD : Nat → D
  | 0 => .tup []
  | 1 => .tup [.str "s"]
  | 2 => .tup [.str "t", .str "w"]
  | 3 => .tup [.str "s", .str "u"]
  | 4 => .tup [.str "u", .str "t", .str "s"]
  | _ => .tup [.str "w"]
def lyN (k : Nat) : Str := ("l" : Str) ++ (toString (k : Int) : Str)
def rIts : List Itm := [.rel "p" (.tup [.str "a", .str "b"]) (.int 20), .rel "q" (.tup [.str "c"]) (.int 20)]
def sIts (b : Nat → Int) : List Itm := [.str "s" (.str "p") (.tup [.str "a"]) (.int (b 0)) (.int 8), .str "t" (.str "p") (.tup [.str "b"]) (.int (b 1)) (.int 8), .str "u" (.str "p") (.tup [.str "b", .str "a"]) (.int (b 2)) (.int 8), .str "w" (.str "q") (.tup [.str "c"]) (.int 2) (.int 8)]
def yIts (c : Nat) : List Itm := (List.range c).map fun k => .lay (lyN k) (lyD k)
def items (facts : List Itm) (b : Nat → Int) (c : Nat) : List Itm := rIts ++ facts ++ sIts b ++ yIts c
theorem fact_ok {it : Itm} (h : FactOk it) : it.ok := by
  rcases h with ⟨d, hd, rfl⟩ | ⟨d, e, hd, he, rfl⟩
  · exact ⟨[d], rfl, (fun x hx => by rw [List.mem_singleton.mp hx]; exact hd), (by simp), (by simp)⟩
  · refine ⟨[d, e], rfl, (fun x hx => ?_), (by simp), (by simp)⟩
    rcases List.mem_cons.mp hx with hx | hx
    · rw [hx]; exact hd
    · rw [List.mem_singleton.mp hx]; exact he
theorem lyD_nr (k : Nat) : nr (lyD k) = true := by
  unfold lyD
  split <;> rfl
theorem items_ok {facts : List Itm} (hf : ∀ i ∈ facts, FactOk i) (b : Nat → Int) (c : Nat) : ∀ i ∈ items facts b c, i.ok := by
  intro i hi
  simp only [items, List.mem_append] at hi
  rcases hi with ((hi | hi) | hi) | hi
  · simp only [rIts, List.mem_cons, List.not_mem_nil, or_false] at hi
    rcases hi with rfl | rfl <;> rfl
  · exact fact_ok (hf i hi)
  · simp only [sIts, List.mem_cons, List.not_mem_nil, or_false] at hi
    rcases hi with rfl | rfl | rfl | rfl <;> rfl
  · obtain ⟨k, _, rfl⟩ := List.mem_map.mp hi
    exact lyD_nr k
theorem nrs_its : ∀ {its : List Itm}, (∀ i ∈ its, i.ok) → nrs (its.map Itm.d) = true
  | [], _ => rfl
  | i :: its, h => by simp only [List.map_cons, nrs, nr_it (h i List.mem_cons_self), nrs_its fun j hj => h j (List.mem_cons_of_mem _ hj), Bool.and_self]
theorem state_ok (Z : LP p cd) {ns : List Int} (hl : ns.length ≤ 63) (a m : Nat) (h : Mm) : ∃ facts b c, (∀ i ∈ facts, FactOk i) ∧ facts.length ≤ 36 ∧ (∀ i, 1 ≤ b i ∧ b i ≤ 6) ∧ 1 ≤ c ∧ c ≤ 6 ∧
    callN p (m + 5) 190 [.scr (ns.map .int), .int (a : Int)] h = .ok (stD (mkS (items facts b c))) h := by
  have nsc : nrs [D.scr (ns.map .int), D.int (a : Int)] = true := by simp only [nrs, nr, nrs_ints, Bool.and_self]
  have dr := fun (k : Nat) (h : Mm) => draw_ok Z.f188 hl k (m + 3) h
  suffices Wp p (callN p (m + 4)) dState.body ⟨[some (.scr (ns.map .int)), some (.int (a : Int)), none, none, none, none, none], []⟩ (fun f' st => ∃ facts b c, ((∀ i ∈ facts, FactOk i) ∧ facts.length ≤ 36 ∧ (∀ i, 1 ≤ b i ∧ b i ≤ 6) ∧ 1 ≤ c ∧ c ≤ 6) ∧ ∃ d, f' = .rt d ∧ rsv st.hp 9 d = some (stD (mkS (items facts b c)))) by
    obtain ⟨f', st, e, facts, b, c, ⟨h1, h2, h3, h4, h5⟩, d, q, r⟩ := this
    exact ⟨facts, b, c, h1, h2, h3, h4, h5, call_run Z.f190 rfl rfl nsc ⟨f', st, e, d, q, r⟩⟩
  simp only [dState, List.map_cons, List.map_nil, List.cons_append, List.nil_append, List.replicate_succ, List.replicate_zero, Nat.reduceSub, List.replicate]
  have m30 : decide ((0:Int) < 30) = true := rfl
  have m5 : decide ((0:Int) < 5) = true := rfl
  have m6 : decide ((0:Int) < 6) = true := rfl
  have d5 : divOk 5 = true := divOk_small (by decide) (by decide)
  have d200 : divOk 200 = true := divOk_small (by decide) (by decide)
  refine wp_set (d := .ref 0) (h1 := [.lst (rIts.map Itm.d)]) (by simp only [execSs, execS, evalE, evalEs, evalB, evalO, evalI, up_ok, Res.bind_ok, List.getElem?_cons_zero, List.getElem?_cons_succ, List.set_cons_zero, List.set_cons_succ, List.map_cons, List.map_nil, List.cons_append, List.nil_append, Nat.add_one_sub_one, Cn.d, if_true, wipe, bindT, bindTs, binD, arD, mkT, Bool.false_eq_true, if_false, Nat.reduceSub, Option.bind_some, szNil, szOne, szTwo, szThree, szFour, szFive, List.length_nil, List.length_cons, mkL, szFour] <;> rfl) ?_
  simp only [List.set_cons_zero, List.set_cons_succ]
  have eN : (6 : Int) + drawZ ns a % 30 = ((6 + (drawZ ns a % 30).toNat : Nat) : Int) := by
    have := Int.emod_nonneg (drawZ ns a) (by decide : (30 : Int) ≠ 0)
    omega
  have bN : 6 + (drawZ ns a % 30).toNat ≤ 36 := by
    have := Int.emod_nonneg (drawZ ns a) (by decide : (30 : Int) ≠ 0)
    have := Int.emod_lt_of_pos (drawZ ns a) (by decide : (0 : Int) < 30)
    omega
  generalize 6 + (drawZ ns a % 30).toNat = N at eN bN
  refine wp_for (n := N) (F := fun k => .int (k : Int)) (h1 := [.lst (rIts.map Itm.d)]) (fun k st => ∃ x3 x6 facts, facts.length = k ∧ (∀ i ∈ facts, FactOk i) ∧ st = ⟨[some (.scr (ns.map .int)), some (.int (a : Int)), some (.ref 0), x3, none, none, x6], [.lst ((rIts ++ facts).map Itm.d)]⟩)
    (it_rng (by simp only [execSs, execS, evalE, evalEs, evalB, evalO, evalI, up_ok, Res.bind_ok, List.getElem?_cons_zero, List.getElem?_cons_succ, List.set_cons_zero, List.set_cons_succ, List.map_cons, List.map_nil, List.cons_append, List.nil_append, Nat.add_one_sub_one, Cn.d, if_true, wipe, bindT, bindTs, binD, arD, mkT, Bool.false_eq_true, if_false, Nat.reduceSub, Option.bind_some, szNil, szOne, szTwo, szThree, szFour, szFive, List.length_nil, List.length_cons, dr, m30, addD, eN]) (by omega)) ⟨none, none, [], rfl, (fun _ h => by cases h), by rw [List.append_nil]⟩ ?_ ?_
  · rintro k st hk ⟨x3, x6, facts, fl, hf, rfl⟩
    refine ⟨_, rfl, ?_⟩
    simp only [List.set_cons_zero, List.set_cons_succ]
    have ek : (a : Int) + 1 + (k : Int) = ((a + 1 + k : Nat) : Int) := by omega
    refine wp_set (d := .int (drawZ ns (a + 1 + k))) (h1 := [.lst ((rIts ++ facts).map Itm.d)]) (by simp only [execSs, execS, evalE, evalEs, evalB, evalO, evalI, up_ok, Res.bind_ok, List.getElem?_cons_zero, List.getElem?_cons_succ, List.set_cons_zero, List.set_cons_succ, List.map_cons, List.map_nil, List.cons_append, List.nil_append, Nat.add_one_sub_one, Cn.d, if_true, wipe, bindT, bindTs, binD, arD, mkT, Bool.false_eq_true, if_false, Nat.reduceSub, Option.bind_some, szNil, szOne, szTwo, szThree, szFour, szFive, List.length_nil, List.length_cons, addD, ek, dr]) ?_
    simp only [List.set_cons_zero, List.set_cons_succ]
    generalize drawZ ns (a + 1 + k) = v
    have ll : ((rIts ++ facts).map Itm.d).length ≤ 1000000 := by
      rw [List.length_map, List.length_append]
      simp only [rIts, List.length_cons, List.length_nil]; omega
    have mem : ∀ it, FactOk it → (∀ i ∈ facts ++ [it], FactOk i) := fun it hit i hi => by
      rcases List.mem_append.mp hi with hi | hi
      · exact hf i hi
      · rw [List.mem_singleton.mp hi]; exact hit
    have app : ∀ it : Itm, ([O.lst ((rIts ++ facts).map Itm.d)].set 0 (.lst ((rIts ++ facts).map Itm.d ++ [it.d]))) = [.lst ((rIts ++ (facts ++ [it])).map Itm.d)] := fun it => by
      rw [← List.append_assoc, List.map_append (l₁ := rIts ++ facts)]; rfl
    by_cases c : v % 5 = 0
    · obtain ⟨d, hd, e⟩ := value_ok Z (n := m + 3) (v / 5) [.lst ((rIts ++ facts).map Itm.d)]
      refine wp_then (x := .bl true) (h1 := [.lst ((rIts ++ facts).map Itm.d)]) (by simp only [execSs, execS, evalE, evalEs, evalB, evalO, evalI, up_ok, Res.bind_ok, List.getElem?_cons_zero, List.getElem?_cons_succ, List.set_cons_zero, List.set_cons_succ, List.map_cons, List.map_nil, List.cons_append, List.nil_append, Nat.add_one_sub_one, Cn.d, if_true, wipe, bindT, bindTs, binD, arD, mkT, Bool.false_eq_true, if_false, Nat.reduceSub, Option.bind_some, szNil, szOne, szTwo, szThree, szFour, szFive, List.length_nil, List.length_cons, m5, eq_int, decide_eq_true c]) rfl ?_
      refine wp_ex (ev_append (i := 0) (xs := (rIts ++ facts).map Itm.d) (h1 := [.lst ((rIts ++ facts).map Itm.d)]) (h2 := [.lst ((rIts ++ facts).map Itm.d)]) (d := Itm.d (.fact "q" [d])) (by simp only [execSs, execS, evalE, evalEs, evalB, evalO, evalI, up_ok, Res.bind_ok, List.getElem?_cons_zero, List.getElem?_cons_succ, List.set_cons_zero, List.set_cons_succ, List.map_cons, List.map_nil, List.cons_append, List.nil_append, Nat.add_one_sub_one, Cn.d, if_true, wipe, bindT, bindTs, binD, arD, mkT, Bool.false_eq_true, if_false, Nat.reduceSub, Option.bind_some, szNil, szOne, szTwo, szThree, szFour, szFive, List.length_nil, List.length_cons]) rfl (by simp only [execSs, execS, evalE, evalEs, evalB, evalO, evalI, up_ok, Res.bind_ok, List.getElem?_cons_zero, List.getElem?_cons_succ, List.set_cons_zero, List.set_cons_succ, List.map_cons, List.map_nil, List.cons_append, List.nil_append, Nat.add_one_sub_one, Cn.d, if_true, wipe, bindT, bindTs, binD, arD, mkT, Bool.false_eq_true, if_false, Nat.reduceSub, Option.bind_some, szNil, szOne, szTwo, szThree, szFour, szFive, List.length_nil, List.length_cons, d5, e] <;> rfl) rfl ll) (wp_nil (wp_nil ?_))
      exact ⟨.inl rfl, some (.int (k : Int)), some (.int v), facts ++ [.fact "q" [d]], by rw [List.length_append, fl]; rfl, mem _ (.inl ⟨d, hd, rfl⟩), by rw [app]⟩
    · obtain ⟨d, hd, e⟩ := value_ok Z (n := m + 3) (v / 5) [.lst ((rIts ++ facts).map Itm.d)]
      obtain ⟨d2, hd2, e2⟩ := value_ok Z (n := m + 3) (v / 200) [.lst ((rIts ++ facts).map Itm.d)]
      refine wp_else (x := .bl false) (h1 := [.lst ((rIts ++ facts).map Itm.d)]) (by simp only [execSs, execS, evalE, evalEs, evalB, evalO, evalI, up_ok, Res.bind_ok, List.getElem?_cons_zero, List.getElem?_cons_succ, List.set_cons_zero, List.set_cons_succ, List.map_cons, List.map_nil, List.cons_append, List.nil_append, Nat.add_one_sub_one, Cn.d, if_true, wipe, bindT, bindTs, binD, arD, mkT, Bool.false_eq_true, if_false, Nat.reduceSub, Option.bind_some, szNil, szOne, szTwo, szThree, szFour, szFive, List.length_nil, List.length_cons, m5, eq_int, decide_eq_false c]) rfl ?_
      refine wp_ex (ev_append (i := 0) (xs := (rIts ++ facts).map Itm.d) (h1 := [.lst ((rIts ++ facts).map Itm.d)]) (h2 := [.lst ((rIts ++ facts).map Itm.d)]) (d := Itm.d (.fact "p" [d, d2])) (by simp only [execSs, execS, evalE, evalEs, evalB, evalO, evalI, up_ok, Res.bind_ok, List.getElem?_cons_zero, List.getElem?_cons_succ, List.set_cons_zero, List.set_cons_succ, List.map_cons, List.map_nil, List.cons_append, List.nil_append, Nat.add_one_sub_one, Cn.d, if_true, wipe, bindT, bindTs, binD, arD, mkT, Bool.false_eq_true, if_false, Nat.reduceSub, Option.bind_some, szNil, szOne, szTwo, szThree, szFour, szFive, List.length_nil, List.length_cons]) rfl (by simp only [execSs, execS, evalE, evalEs, evalB, evalO, evalI, up_ok, Res.bind_ok, List.getElem?_cons_zero, List.getElem?_cons_succ, List.set_cons_zero, List.set_cons_succ, List.map_cons, List.map_nil, List.cons_append, List.nil_append, Nat.add_one_sub_one, Cn.d, if_true, wipe, bindT, bindTs, binD, arD, mkT, Bool.false_eq_true, if_false, Nat.reduceSub, Option.bind_some, szNil, szOne, szTwo, szThree, szFour, szFive, List.length_nil, List.length_cons, d5, d200, e, e2] <;> rfl) rfl ll) (wp_nil (wp_nil ?_))
      exact ⟨.inl rfl, some (.int (k : Int)), some (.int v), facts ++ [.fact "p" [d, d2]], by rw [List.length_append, fl]; rfl, mem _ (.inr ⟨d, d2, hd, hd2, rfl⟩), by rw [app]⟩
  rintro st ⟨x3, x6, facts, fl, hf, rfl⟩
  have fl36 : facts.length ≤ 36 := by omega
  generalize hb : (fun k : Nat => (1 : Int) + drawZ ns (a + 40 + k) % 6) = b
  have bb : ∀ k, 1 ≤ b k ∧ b k ≤ 6 := fun k => by
    rw [← hb]
    have := Int.emod_nonneg (drawZ ns (a + 40 + k)) (by decide : (6 : Int) ≠ 0)
    have := Int.emod_lt_of_pos (drawZ ns (a + 40 + k)) (by decide : (0 : Int) < 6)
    dsimp only
    omega
  refine wp_set (d := tab 3 fun k => .int (b k)) (h1 := [.lst ((rIts ++ facts).map Itm.d)]) (lc_tab (F := fun k => .int (k : Int)) (h1 := [.lst ((rIts ++ facts).map Itm.d)]) (it_rng (n := 3) (by simp only [execSs, execS, evalE, evalEs, evalB, evalO, evalI, up_ok, Res.bind_ok, List.getElem?_cons_zero, List.getElem?_cons_succ, List.set_cons_zero, List.set_cons_succ, List.map_cons, List.map_nil, List.cons_append, List.nil_append, Nat.add_one_sub_one, Cn.d, if_true, wipe, bindT, bindTs, binD, arD, mkT, Bool.false_eq_true, if_false, Nat.reduceSub, Option.bind_some, szNil, szOne, szTwo, szThree, szFour, szFive, List.length_nil, List.length_cons] <;> rfl) (by decide)) (by decide) fun k hk => ⟨_, rfl, ?_⟩) ?_
  · have ek : (a : Int) + 40 + (k : Int) = ((a + 40 + k : Nat) : Int) := by omega
    rw [← hb]
    simp only [execSs, execS, evalE, evalEs, evalB, evalO, evalI, up_ok, Res.bind_ok, List.getElem?_cons_zero, List.getElem?_cons_succ, List.set_cons_zero, List.set_cons_succ, List.map_cons, List.map_nil, List.cons_append, List.nil_append, Nat.add_one_sub_one, Cn.d, if_true, wipe, bindT, bindTs, binD, arD, mkT, Bool.false_eq_true, if_false, Nat.reduceSub, Option.bind_some, szNil, szOne, szTwo, szThree, szFour, szFive, List.length_nil, List.length_cons, List.set_cons_zero, List.set_cons_succ, addD, ek, dr, m6]
  simp only [List.set_cons_zero, List.set_cons_succ]
  have ib : ∀ (m : Mm) (k : Nat), k < 3 → idxD m (tab 3 fun k => .int (b k)) (.int (k : Int)) = some (.int (b k)) := fun m k hk => idx_tab hk
  have ib0 : ∀ m : Mm, idxD m (tab 3 fun k => .int (b k)) (.int 0) = some (.int (b 0)) := fun m => ib m 0 (by decide)
  have ib1 : ∀ m : Mm, idxD m (tab 3 fun k => .int (b k)) (.int 1) = some (.int (b 1)) := fun m => ib m 1 (by decide)
  have ib2 : ∀ m : Mm, idxD m (tab 3 fun k => .int (b k)) (.int 2) = some (.int (b 2)) := fun m => ib m 2 (by decide)
  have l0 : (rIts ++ facts).length ≤ 38 := by
    rw [List.length_append]
    simp only [rIts, List.length_cons, List.length_nil]; omega
  have six : ∀ xs : List D, xs.length = 6 → szOk xs.length = true := fun xs h => by rw [h]; rfl
  have app : ∀ (its : List Itm) (it : Itm), ([O.lst (its.map Itm.d)].set 0 (.lst (its.map Itm.d ++ [it.d]))) = [.lst ((its ++ [it]).map Itm.d)] := fun its it => by
    rw [List.map_append]; rfl
  have st : ∀ (its : List Itm) (it : Itm) {e : ME} {sl : List (Option D)}, its.length ≤ 1000 → evalE p (callN p (m + 4)) (.var 2) sl [.lst (its.map Itm.d)] = .ok (.ref 0) [.lst (its.map Itm.d)] → evalE p (callN p (m + 4)) e sl [.lst (its.map Itm.d)] = .ok it.d [.lst (its.map Itm.d)] →
      evalE p (callN p (m + 4)) (.bm .append false (.var 2) [e]) sl [.lst (its.map Itm.d)] = .ok .non [.lst ((its ++ [it]).map Itm.d)] := fun its it e sl hn h1 h2 => by
    rw [← app]
    exact ev_append h1 rfl h2 rfl (by rw [List.length_map]; omega)
  have z6 : szOk (0 + 1 + 1 + 1 + 1 + 1 + 1) = true := rfl
  refine wp_ex (st (rIts ++ facts) (.str "s" (.str "p") (.tup [.str "a"]) (.int (b 0)) (.int 8)) (by omega) (by simp only [execSs, execS, evalE, evalEs, evalB, evalO, evalI, up_ok, Res.bind_ok, List.getElem?_cons_zero, List.getElem?_cons_succ, List.set_cons_zero, List.set_cons_succ, List.map_cons, List.map_nil, List.cons_append, List.nil_append, Nat.add_one_sub_one, Cn.d, if_true, wipe, bindT, bindTs, binD, arD, mkT, Bool.false_eq_true, if_false, Nat.reduceSub, Option.bind_some, szNil, szOne, szTwo, szThree, szFour, szFive, List.length_nil, List.length_cons]) (by simp only [execSs, execS, evalE, evalEs, evalB, evalO, evalI, up_ok, Res.bind_ok, List.getElem?_cons_zero, List.getElem?_cons_succ, List.set_cons_zero, List.set_cons_succ, List.map_cons, List.map_nil, List.cons_append, List.nil_append, Nat.add_one_sub_one, Cn.d, if_true, wipe, bindT, bindTs, binD, arD, mkT, Bool.false_eq_true, if_false, Nat.reduceSub, Option.bind_some, szNil, szOne, szTwo, szThree, szFour, szFive, List.length_nil, List.length_cons, ib0, z6] <;> rfl)) ?_
  refine wp_ex (st _ (.str "t" (.str "p") (.tup [.str "b"]) (.int (b 1)) (.int 8)) (by rw [List.length_append]; simp only [List.length_cons, List.length_nil]; omega) (by simp only [execSs, execS, evalE, evalEs, evalB, evalO, evalI, up_ok, Res.bind_ok, List.getElem?_cons_zero, List.getElem?_cons_succ, List.set_cons_zero, List.set_cons_succ, List.map_cons, List.map_nil, List.cons_append, List.nil_append, Nat.add_one_sub_one, Cn.d, if_true, wipe, bindT, bindTs, binD, arD, mkT, Bool.false_eq_true, if_false, Nat.reduceSub, Option.bind_some, szNil, szOne, szTwo, szThree, szFour, szFive, List.length_nil, List.length_cons]) (by simp only [execSs, execS, evalE, evalEs, evalB, evalO, evalI, up_ok, Res.bind_ok, List.getElem?_cons_zero, List.getElem?_cons_succ, List.set_cons_zero, List.set_cons_succ, List.map_cons, List.map_nil, List.cons_append, List.nil_append, Nat.add_one_sub_one, Cn.d, if_true, wipe, bindT, bindTs, binD, arD, mkT, Bool.false_eq_true, if_false, Nat.reduceSub, Option.bind_some, szNil, szOne, szTwo, szThree, szFour, szFive, List.length_nil, List.length_cons, ib1, z6] <;> rfl)) ?_
  refine wp_ex (st _ (.str "u" (.str "p") (.tup [.str "b", .str "a"]) (.int (b 2)) (.int 8)) (by rw [List.length_append, List.length_append]; simp only [List.length_cons, List.length_nil]; omega) (by simp only [execSs, execS, evalE, evalEs, evalB, evalO, evalI, up_ok, Res.bind_ok, List.getElem?_cons_zero, List.getElem?_cons_succ, List.set_cons_zero, List.set_cons_succ, List.map_cons, List.map_nil, List.cons_append, List.nil_append, Nat.add_one_sub_one, Cn.d, if_true, wipe, bindT, bindTs, binD, arD, mkT, Bool.false_eq_true, if_false, Nat.reduceSub, Option.bind_some, szNil, szOne, szTwo, szThree, szFour, szFive, List.length_nil, List.length_cons]) (by simp only [execSs, execS, evalE, evalEs, evalB, evalO, evalI, up_ok, Res.bind_ok, List.getElem?_cons_zero, List.getElem?_cons_succ, List.set_cons_zero, List.set_cons_succ, List.map_cons, List.map_nil, List.cons_append, List.nil_append, Nat.add_one_sub_one, Cn.d, if_true, wipe, bindT, bindTs, binD, arD, mkT, Bool.false_eq_true, if_false, Nat.reduceSub, Option.bind_some, szNil, szOne, szTwo, szThree, szFour, szFive, List.length_nil, List.length_cons, ib2, z6] <;> rfl)) ?_
  refine wp_ex (st _ (.str "w" (.str "q") (.tup [.str "c"]) (.int 2) (.int 8)) (by rw [List.length_append, List.length_append, List.length_append]; simp only [List.length_cons, List.length_nil]; omega) (by simp only [execSs, execS, evalE, evalEs, evalB, evalO, evalI, up_ok, Res.bind_ok, List.getElem?_cons_zero, List.getElem?_cons_succ, List.set_cons_zero, List.set_cons_succ, List.map_cons, List.map_nil, List.cons_append, List.nil_append, Nat.add_one_sub_one, Cn.d, if_true, wipe, bindT, bindTs, binD, arD, mkT, Bool.false_eq_true, if_false, Nat.reduceSub, Option.bind_some, szNil, szOne, szTwo, szThree, szFour, szFive, List.length_nil, List.length_cons]) (by simp only [execSs, execS, evalE, evalEs, evalB, evalO, evalI, up_ok, Res.bind_ok, List.getElem?_cons_zero, List.getElem?_cons_succ, List.set_cons_zero, List.set_cons_succ, List.map_cons, List.map_nil, List.cons_append, List.nil_append, Nat.add_one_sub_one, Cn.d, if_true, wipe, bindT, bindTs, binD, arD, mkT, Bool.false_eq_true, if_false, Nat.reduceSub, Option.bind_some, szNil, szOne, szTwo, szThree, szFour, szFive, List.length_nil, List.length_cons, z6] <;> rfl)) ?_
  rw [show rIts ++ facts ++ [Itm.str "s" (.str "p") (.tup [.str "a"]) (.int (b 0)) (.int 8)] ++ [Itm.str "t" (.str "p") (.tup [.str "b"]) (.int (b 1)) (.int 8)] ++ [Itm.str "u" (.str "p") (.tup [.str "b", .str "a"]) (.int (b 2)) (.int 8)] ++ [Itm.str "w" (.str "q") (.tup [.str "c"]) (.int 2) (.int 8)] = rIts ++ facts ++ sIts b by simp [sIts]]
  have l1 : (rIts ++ facts ++ sIts b).length ≤ 42 := by
    rw [List.length_append]
    simp only [sIts, List.length_cons, List.length_nil]; omega
  generalize hbase : rIts ++ facts ++ sIts b = base at l1
  have mk6 : ∀ m : Mm, mkL false [lyD 0, lyD 1, lyD 2, lyD 3, lyD 4, lyD 5] m = .ok (tab 6 lyD) m := fun _ => rfl
  refine wp_set (d := tab 6 lyD) (h1 := [.lst (base.map Itm.d)]) (by simp only [execSs, execS, evalE, evalEs, evalB, evalO, evalI, up_ok, Res.bind_ok, List.getElem?_cons_zero, List.getElem?_cons_succ, List.set_cons_zero, List.set_cons_succ, List.map_cons, List.map_nil, List.cons_append, List.nil_append, Nat.add_one_sub_one, Cn.d, if_true, wipe, bindT, bindTs, binD, arD, mkT, Bool.false_eq_true, if_false, Nat.reduceSub, Option.bind_some, szNil, szOne, szTwo, szThree, szFour, szFive, List.length_nil, List.length_cons]; exact mk6 _) ?_
  simp only [List.set_cons_zero, List.set_cons_succ]
  obtain ⟨c, hc1, hc6, ec⟩ : ∃ c : Nat, 1 ≤ c ∧ c ≤ 6 ∧ (1 : Int) + drawZ ns (a + 43) % 6 = (c : Int) := by
    have := Int.emod_nonneg (drawZ ns (a + 43)) (by decide : (6 : Int) ≠ 0)
    have := Int.emod_lt_of_pos (drawZ ns (a + 43)) (by decide : (0 : Int) < 6)
    exact ⟨(1 + drawZ ns (a + 43) % 6).toNat, by omega, by omega, by omega⟩
  have e43 : (a : Int) + 43 = ((a + 43 : Nat) : Int) := by omega
  have i6 : ∀ (m : Mm) (k : Nat), k < 6 → idxD m (tab 6 lyD) (.int (k : Int)) = some (lyD k) := fun m k hk => idx_tab hk
  refine wp_for (n := c) (F := fun k => .int (k : Int)) (h1 := [.lst (base.map Itm.d)]) (fun k st => ∃ x3 x6, st = ⟨[some (.scr (ns.map .int)), some (.int (a : Int)), some (.ref 0), x3, some (tab 3 fun k => .int (b k)), some (tab 6 lyD), x6], [.lst ((base ++ yIts k).map Itm.d)]⟩)
    (it_rng (by simp only [execSs, execS, evalE, evalEs, evalB, evalO, evalI, up_ok, Res.bind_ok, List.getElem?_cons_zero, List.getElem?_cons_succ, List.set_cons_zero, List.set_cons_succ, List.map_cons, List.map_nil, List.cons_append, List.nil_append, Nat.add_one_sub_one, Cn.d, if_true, wipe, bindT, bindTs, binD, arD, mkT, Bool.false_eq_true, if_false, Nat.reduceSub, Option.bind_some, szNil, szOne, szTwo, szThree, szFour, szFive, List.length_nil, List.length_cons, addD, e43, dr, m6, ec]) (by omega)) ⟨x3, x6, by simp only [yIts, List.range_zero, List.map_nil, List.append_nil]⟩ ?_ ?_
  · rintro k s' hk ⟨x3, x6, rfl⟩
    refine ⟨_, rfl, ?_⟩
    simp only [List.set_cons_zero, List.set_cons_succ]
    have hk6 : k < 6 := by omega
    have sk : bltD .str_ false [.int (k : Int)] [.lst ((base ++ yIts k).map Itm.d)] = .ok (.str (toString (k : Int))) [.lst ((base ++ yIts k).map Itm.d)] := by
      have : k = 0 ∨ k = 1 ∨ k = 2 ∨ k = 3 ∨ k = 4 ∨ k = 5 := by omega
      rcases this with rfl | rfl | rfl | rfl | rfl | rfl <;> rfl
    have sa : addD false [.lst ((base ++ yIts k).map Itm.d)] (.str ("l" : Str)) (.str (toString (k : Int))) = .ok (.str (lyN k)) [.lst ((base ++ yIts k).map Itm.d)] := by
      have : k = 0 ∨ k = 1 ∨ k = 2 ∨ k = 3 ∨ k = 4 ∨ k = 5 := by omega
      rcases this with rfl | rfl | rfl | rfl | rfl | rfl <;> rfl
    have ly : (yIts k).length = k := by simp [yIts]
    refine wp_ex (st (base ++ yIts k) (.lay (lyN k) (lyD k)) (by rw [List.length_append, ly]; omega) (by simp only [execSs, execS, evalE, evalEs, evalB, evalO, evalI, up_ok, Res.bind_ok, List.getElem?_cons_zero, List.getElem?_cons_succ, List.set_cons_zero, List.set_cons_succ, List.map_cons, List.map_nil, List.cons_append, List.nil_append, Nat.add_one_sub_one, Cn.d, if_true, wipe, bindT, bindTs, binD, arD, mkT, Bool.false_eq_true, if_false, Nat.reduceSub, Option.bind_some, szNil, szOne, szTwo, szThree, szFour, szFive, List.length_nil, List.length_cons]) (by simp only [execSs, execS, evalE, evalEs, evalB, evalO, evalI, up_ok, Res.bind_ok, List.getElem?_cons_zero, List.getElem?_cons_succ, List.set_cons_zero, List.set_cons_succ, List.map_cons, List.map_nil, List.cons_append, List.nil_append, Nat.add_one_sub_one, Cn.d, if_true, wipe, bindT, bindTs, binD, arD, mkT, Bool.false_eq_true, if_false, Nat.reduceSub, Option.bind_some, szNil, szOne, szTwo, szThree, szFour, szFive, List.length_nil, List.length_cons, sk, sa, i6 _ k hk6] <;> rfl)) (wp_nil ⟨.inl rfl, some (.int (k : Int)), x6, ?_⟩)
    rw [List.append_assoc, show yIts k ++ [Itm.lay (lyN k) (lyD k)] = yIts (k + 1) by
      unfold yIts
      rw [map_rng_succ]]
  · rintro s' ⟨x3, x6, rfl⟩
    have hit : base ++ yIts c = items facts b c := by rw [← hbase]; rfl
    rw [hit]
    have ok := items_ok hf b c
    refine wp_frzv rfl (frz_ref rfl (nrs_its ok)) ?_
    simp only [List.set_cons_zero, List.set_cons_succ]
    have il : (items facts b c).length ≤ 100000 := by
      rw [← hit, List.length_append]
      simp only [yIts, List.length_map, List.length_range]; omega
    obtain ⟨h', r, f, s, l, F, e, H, fr⟩ := make_ok (m := m) Z.sp ok il (d := .lst ((items facts b c).map Itm.d)) (.inl rfl) (e := .var 2) (sl := [some (.scr (ns.map .int)), some (.int (a : Int)), some (.lst ((items facts b c).map Itm.d)), x3, some (tab 3 fun k => .int (b k)), some (tab 6 lyD), x6]) (h := [.dead]) (h0 := [.dead]) (by simp only [execSs, execS, evalE, evalEs, evalB, evalO, evalI, up_ok, Res.bind_ok, List.getElem?_cons_zero, List.getElem?_cons_succ, List.set_cons_zero, List.set_cons_succ, List.map_cons, List.map_nil, List.cons_append, List.nil_append, Nat.add_one_sub_one, Cn.d, if_true, wipe, bindT, bindTs, binD, arD, mkT, Bool.false_eq_true, if_false, Nat.reduceSub, Option.bind_some, szNil, szOne, szTwo, szThree, szFour, szFive, List.length_nil, List.length_cons])
    exact wp_ret e ⟨facts, b, c, ⟨hf, fl36, bb, hc1, hc6⟩, _, rfl, rsv_ok H (mkS_good ok)⟩
/-! ### what they hold -/
theorem fold_facts : ∀ {facts : List Itm} {S : Sta}, (∀ i ∈ facts, FactOk i) → (facts.foldl (fun S i => putI i S) S).rel = S.rel ∧ (facts.foldl (fun S i => putI i S) S).str = S.str ∧ (facts.foldl (fun S i => putI i S) S).lay = S.lay
  | [], _, _ => ⟨rfl, rfl, rfl⟩
  | i :: facts, S, h => by
    have ih := fold_facts (facts := facts) (S := putI i S) fun j hj => h j (List.mem_cons_of_mem _ hj)
    have e : (putI i S).rel = S.rel ∧ (putI i S).str = S.str ∧ (putI i S).lay = S.lay := by
      rcases h i List.mem_cons_self with ⟨d, _, rfl⟩ | ⟨d, e, _, _, rfl⟩ <;> simp only [putI] <;> split <;> exact ⟨rfl, rfl, rfl⟩
    rw [List.foldl_cons]
    exact ⟨ih.1.trans e.1, ih.2.1.trans e.2.1, ih.2.2.trans e.2.2⟩
theorem fold_lays : ∀ {ks : List Nat} {S : Sta}, ((ks.map fun k => Itm.lay (lyN k) (lyD k)).foldl (fun S i => putI i S) S).rel = S.rel ∧ ((ks.map fun k => Itm.lay (lyN k) (lyD k)).foldl (fun S i => putI i S) S).str = S.str ∧ ((ks.map fun k => Itm.lay (lyN k) (lyD k)).foldl (fun S i => putI i S) S).fac = S.fac
  | [], _ => ⟨rfl, rfl, rfl⟩
  | k :: ks, S => by
    have ih := fold_lays (ks := ks) (S := putI (.lay (lyN k) (lyD k)) S)
    rw [List.map_cons, List.foldl_cons]
    exact ih
def relL : List (Key × D) := [(.inr "p", .tup [.tup [.str "a", .str "b"], .int 20]), (.inr "q", .tup [.tup [.str "c"], .int 20])]
def strL (b : Nat → Int) : List (Key × D) := [(.inr "s", .tup [.str "p", .tup [.str "a"], .int (b 0), .int 8]), (.inr "t", .tup [.str "p", .tup [.str "b"], .int (b 1), .int 8]), (.inr "u", .tup [.str "p", .tup [.str "b", .str "a"], .int (b 2), .int 8]), (.inr "w", .tup [.str "q", .tup [.str "c"], .int 2, .int 8])]
theorem mk_rel {facts : List Itm} (hf : ∀ i ∈ facts, FactOk i) (b : Nat → Int) (c : Nat) : (mkS (items facts b c)).rel = relL := by
  unfold mkS items
  show Sta.rel (List.foldl _ _ _) = _
  rw [List.foldl_append, List.foldl_append, List.foldl_append, yIts, fold_lays.1]
  have e : ∀ S : Sta, ((sIts b).foldl (fun S i => putI i S) S).rel = S.rel := fun _ => rfl
  rw [e, (fold_facts hf).1]
  rfl
theorem mk_str {facts : List Itm} (hf : ∀ i ∈ facts, FactOk i) (b : Nat → Int) (c : Nat) : (mkS (items facts b c)).str = strL b := by
  unfold mkS items
  show Sta.str (List.foldl _ _ _) = _
  rw [List.foldl_append, List.foldl_append, List.foldl_append, yIts, fold_lays.2.1]
  have e : ∀ S : Sta, ((sIts b).foldl (fun S i => putI i S) S).str = putD (putD (putD (putD S.str (.inr "s") (.tup [.str "p", .tup [.str "a"], .int (b 0), .int 8])) (.inr "t") (.tup [.str "p", .tup [.str "b"], .int (b 1), .int 8])) (.inr "u") (.tup [.str "p", .tup [.str "b", .str "a"], .int (b 2), .int 8])) (.inr "w") (.tup [.str "q", .tup [.str "c"], .int 2, .int 8]) := fun _ => rfl
  rw [e, (fold_facts hf).2.1]
  rfl
end LS
namespace CO
open PySem R PT PB KY ST
open L2 (Key)
/-! ### laying, stands, going, way -/
structure CP (p : Pg) : Prop where
  f76 : p.fns[76]? = some d_laying
  f77 : p.fns[77]? = some d_stands
  f78 : p.fns[78]? = some d_going
  f79 : p.fns[79]? = some d_way
variable {p : Pg} {S : Sta}
theorem fldS0 {m : Mm} : fldD m 0 (stD S) = some (.dct S.rel) := rfl
theorem fldS2 {m : Mm} : fldD m 2 (stD S) = some (.dct S.str) := rfl
theorem idxS {m : Mm} {kvs : List (Key × D)} {z : Str} : idxD m (.dct kvs) (.str z) = valD kvs (.inr z) := idx_dct (n := 0) rfl
/-- the room of a structure and of its relation -/
def Room (S : Sta) (z : Str) (c : Int) : Prop := ∃ (r : Str) (cl cl2 : D) (room b s : Int), valD S.str (.inr z) = some (.tup [.str r, cl, .int b, .int s]) ∧ valD S.rel (.inr r) = some (.tup [cl2, .int room]) ∧ b.natAbs ≤ 1000000 ∧ c = room + b * s
theorem laying_ok (C : CP p) (hg : Good S) {z : Str} {c : Int} (hr : Room S z c) (n : Nat) (h : Mm) : callN p (n + 1) 76 [stD S, .str z] h = .ok (.int c) h := by
  obtain ⟨r, cl, cl2, room, b, s, e1, e2, hb, rfl⟩ := hr
  have mo : mulOk b s = true := mulOk_l (by omega)
  have i1 : ∀ m, idxD m (.tup [cl2, .int room]) (.int 1) = some (.int room) := fun m => ixk 1
  refine call_run C.f76 rfl rfl (by simp only [nrs, nr_st hg, nr, Bool.and_self]) ?_
  simp only [d_laying, List.map_cons, List.map_nil, List.cons_append, List.nil_append, List.replicate_succ, List.replicate_zero, Nat.reduceSub, List.replicate]
  refine wp_unp (d := .tup [.str r, cl, .int b, .int s]) (h1 := []) (by simp only [execSs, execS, evalE, evalEs, evalB, evalO, evalI, up_ok, Res.bind_ok, List.getElem?_cons_zero, List.getElem?_cons_succ, List.set_cons_zero, List.set_cons_succ, List.map_cons, List.map_nil, List.cons_append, List.nil_append, Nat.add_one_sub_one, Cn.d, if_true, wipe, bindT, bindTs, binD, arD, mkT, Bool.false_eq_true, if_false, Nat.reduceSub, Option.bind_some, szNil, szOne, szTwo, szThree, szFour, szFive, List.length_nil, List.length_cons, fldS2, idxS, e1]) rfl ?_
  simp only [List.set_cons_zero, List.set_cons_succ]
  exact wp_ret (d := .int (room + b * s)) (h1 := []) (by simp only [execSs, execS, evalE, evalEs, evalB, evalO, evalI, up_ok, Res.bind_ok, List.getElem?_cons_zero, List.getElem?_cons_succ, List.set_cons_zero, List.set_cons_succ, List.map_cons, List.map_nil, List.cons_append, List.nil_append, Nat.add_one_sub_one, Cn.d, if_true, wipe, bindT, bindTs, binD, arD, mkT, Bool.false_eq_true, if_false, Nat.reduceSub, Option.bind_some, szNil, szOne, szTwo, szThree, szFour, szFive, List.length_nil, List.length_cons, fldS0, idxS, e2, i1, mulD, mo, addD]) ⟨_, rfl, rsv9 rfl⟩
theorem inV_str (x : Str) : ∀ xs : List Str, L2.inV (.str x) (xs.map .str) = decide (x ∈ xs)
  | [] => rfl
  | y :: ys => by
    have ih := inV_str x ys
    unfold L2.inV at ih ⊢
    rw [List.map_cons, List.any_cons, ih]
    by_cases e : y = x
    · subst e
      simp [L2.eqV]
    · have : ¬ x = y := fun z => e z.symm
      simp [L2.eqV, e, this]
theorem flats_str : ∀ xs : List Str, flatsD (xs.map D.str) = some (xs.map L2.V.str)
  | [] => rfl
  | y :: ys => by simp only [List.map_cons, flatsD, flatD, flats_str ys, Option.bind_some, Option.map_some]
theorem mem_tup {m : Mm} {x : Str} {xs : List Str} : memD m (.str x) (.tup (xs.map .str)) = some (decide (x ∈ xs)) := by
  simp only [memD, seqOf, flatD, flats_str, inV_str]
/-- a comprehension with a condition -/
theorem mapL_keep {α : Type} {f : D → Mm → Res Mm (Option D)} {F : α → D} {P : α → Bool} {G : α → D} {h : Mm} : ∀ {xs : List α}, (∀ k ∈ xs, f (F k) h = .ok (if P k = true then some (G k) else none) h) → mapL f (xs.map F) h = .ok ((xs.filter P).map G) h
  | [], _ => rfl
  | k :: xs, H => by
    have e := H k List.mem_cons_self
    have ih := mapL_keep (P := P) (G := G) (xs := xs) fun y hy => H y (List.mem_cons_of_mem _ hy)
    cases q : P k with
    | true =>
      rw [q] at e
      simp only [List.map_cons, mapL, e, ih, Res.bind_ok, List.filter_cons, q, if_true]
    | false =>
      rw [q] at e
      simp only [List.map_cons, mapL, e, ih, Res.bind_ok, List.filter_cons, q, Bool.false_eq_true, if_false]
theorem lc_keep {c : Calls} {sl : List (Option D)} {h h1 : Mm} {obj : Bool} {elt k : ME} {g : Tg} {it : It} {own : List Nat} {α : Type} {xs : List α} {F G : α → D} {P : α → Bool} (a : evalI p c it sl h = .ok (xs.map F) h1) (hn : xs.length ≤ 16777216)
    (step : ∀ i ∈ xs, ∃ sl', bindT g (F i) (wipe sl own) = some sl' ∧ evalE p c k sl' h1 = .ok (.bl (P i)) h1 ∧ (P i = true → evalE p c elt sl' h1 = .ok (G i) h1)) :
    evalE p c (.lc obj elt g it (some k) own) sl h = mkL obj ((xs.filter P).map G) h1 := by
  simp only [evalE, a, Res.bind_ok]
  rw [mapL_keep (P := P) (G := G) fun i hi => ?_]
  · rfl
  · obtain ⟨sl', b, e, q⟩ := step i hi
    cases z : P i with
    | true =>
      rw [z] at e
      simp only [b, e, noExn, Res.bind_ok, truthD, q z, if_true]
    | false =>
      rw [z] at e
      simp only [b, e, noExn, Res.bind_ok, truthD, Bool.false_eq_true, if_false]
theorem sum_ints {m : Mm} {o : Bool} {xs : List Int} : bltD .sum_ o [.lst (xs.map .int)] m = .ok (.int xs.sum) m := by
  have := intsOf_map (fun i : Int => i) xs
  rw [List.map_id'] at this
  simp only [bltD, lstOf, this]
theorem mkL_f {ds : List D} {m : Mm} (h : ds.length ≤ 16777216) : mkL false ds m = .ok (.lst ds) m := by
  simp only [mkL, szOk_of h, if_true, Bool.false_eq_true, if_false]
theorem nr_strs (xs : List Str) : nrs (xs.map D.str) = true := nrs_map fun _ _ => rfl
variable {cost : Str → Int}
theorem stands_ok (C : CP p) (hg : Good S) {xs : List Str} (hl : xs.length ≤ 1000) (hr : ∀ z ∈ xs, Room S z (cost z)) (n : Nat) (h : Mm) : callN p (n + 2) 77 [stD S, .tup (xs.map .str)] h = .ok (.int (xs.map cost).sum) h := by
  refine call_run C.f77 rfl rfl (by simp only [nrs, nr_st hg, nr, nr_strs, Bool.and_self]) ?_
  simp only [d_stands, List.map_cons, List.map_nil, List.cons_append, List.nil_append, List.replicate_succ, List.replicate_zero, Nat.reduceSub, List.replicate]
  have e := lc_list (p := p) (c := callN p (n + 1)) (obj := false) (elt := .call 76 [(.var 0), (.var 2)]) (g := .nm 2) (it := .seq (.var 1)) (own := [2]) (sl := [some (stD S), some (.tup (xs.map .str)), none]) (h := []) (h1 := []) (xs := xs) (F := D.str) (G := fun z => .int (cost z)) (by simp only [execSs, execS, evalE, evalEs, evalB, evalO, evalI, up_ok, Res.bind_ok, List.getElem?_cons_zero, List.getElem?_cons_succ, List.set_cons_zero, List.set_cons_succ, List.map_cons, List.map_nil, List.cons_append, List.nil_append, Nat.add_one_sub_one, Cn.d, if_true, wipe, bindT, bindTs, binD, arD, mkT, Bool.false_eq_true, if_false, Nat.reduceSub, Option.bind_some, szNil, szOne, szTwo, szThree, szFour, szFive, List.length_nil, List.length_cons]) (by omega) fun z hz => ⟨_, rfl, by
    simp only [execSs, execS, evalE, evalEs, evalB, evalO, evalI, up_ok, Res.bind_ok, List.getElem?_cons_zero, List.getElem?_cons_succ, List.set_cons_zero, List.set_cons_succ, List.map_cons, List.map_nil, List.cons_append, List.nil_append, Nat.add_one_sub_one, Cn.d, if_true, wipe, bindT, bindTs, binD, arD, mkT, Bool.false_eq_true, if_false, Nat.reduceSub, Option.bind_some, szNil, szOne, szTwo, szThree, szFour, szFive, List.length_nil, List.length_cons, List.set_cons_zero, List.set_cons_succ, laying_ok C hg (hr z hz)]⟩
  rw [if_neg Bool.false_ne_true] at e
  have sm : bltD .sum_ false [.lst (xs.map fun z => D.int (cost z))] [] = .ok (.int (xs.map cost).sum) [] := by
    have := sum_ints (m := []) (o := false) (xs := xs.map cost)
    rwa [List.map_map] at this
  refine wp_ret (d := .int (xs.map cost).sum) (h1 := []) ?_ ⟨_, rfl, rsv9 rfl⟩
  rw [evalE]
  simp only [evalEs, e, Res.bind_ok, sm]
def goingZ (cost : Str → Int) (xs ys : List Str) : Int := ((ys.filter fun z => !decide (z ∈ xs)).map cost).sum
theorem going_ok (C : CP p) (hg : Good S) {xs ys : List Str} (hl : ys.length ≤ 1000) (hr : ∀ z ∈ ys, Room S z (cost z)) (n : Nat) (h : Mm) : callN p (n + 2) 78 [stD S, .tup (xs.map .str), .tup (ys.map .str)] h = .ok (.int (goingZ cost xs ys)) h := by
  refine call_run C.f78 rfl rfl (by simp only [nrs, nr_st hg, nr, nr_strs, Bool.and_self]) ?_
  simp only [d_going, List.map_cons, List.map_nil, List.cons_append, List.nil_append, List.replicate_succ, List.replicate_zero, Nat.reduceSub, List.replicate]
  have e := lc_keep (p := p) (c := callN p (n + 1)) (obj := false) (elt := .call 76 [(.var 0), (.var 3)]) (k := .mem true (.var 3) (.var 1)) (g := .nm 3) (it := .seq (.var 2)) (own := [3]) (sl := [some (stD S), some (.tup (xs.map .str)), some (.tup (ys.map .str)), none]) (h := []) (h1 := []) (xs := ys) (F := D.str) (G := fun z => .int (cost z)) (P := fun z => !decide (z ∈ xs)) (by simp only [execSs, execS, evalE, evalEs, evalB, evalO, evalI, up_ok, Res.bind_ok, List.getElem?_cons_zero, List.getElem?_cons_succ, List.set_cons_zero, List.set_cons_succ, List.map_cons, List.map_nil, List.cons_append, List.nil_append, Nat.add_one_sub_one, Cn.d, if_true, wipe, bindT, bindTs, binD, arD, mkT, Bool.false_eq_true, if_false, Nat.reduceSub, Option.bind_some, szNil, szOne, szTwo, szThree, szFour, szFive, List.length_nil, List.length_cons]) (by omega) fun z hz => ⟨_, rfl, by
    simp only [execSs, execS, evalE, evalEs, evalB, evalO, evalI, up_ok, Res.bind_ok, List.getElem?_cons_zero, List.getElem?_cons_succ, List.set_cons_zero, List.set_cons_succ, List.map_cons, List.map_nil, List.cons_append, List.nil_append, Nat.add_one_sub_one, Cn.d, if_true, wipe, bindT, bindTs, binD, arD, mkT, Bool.false_eq_true, if_false, Nat.reduceSub, Option.bind_some, szNil, szOne, szTwo, szThree, szFour, szFive, List.length_nil, List.length_cons, List.set_cons_zero, List.set_cons_succ, mem_tup], fun _ => by simp only [execSs, execS, evalE, evalEs, evalB, evalO, evalI, up_ok, Res.bind_ok, List.getElem?_cons_zero, List.getElem?_cons_succ, List.set_cons_zero, List.set_cons_succ, List.map_cons, List.map_nil, List.cons_append, List.nil_append, Nat.add_one_sub_one, Cn.d, if_true, wipe, bindT, bindTs, binD, arD, mkT, Bool.false_eq_true, if_false, Nat.reduceSub, Option.bind_some, szNil, szOne, szTwo, szThree, szFour, szFive, List.length_nil, List.length_cons, List.set_cons_zero, List.set_cons_succ, laying_ok C hg (hr z hz)]⟩
  rw [mkL_f (by
    rw [List.length_map]
    have := List.length_filter_le (fun z => !decide (z ∈ xs)) ys
    omega)] at e
  have sm : bltD .sum_ false [.lst ((ys.filter fun z => !decide (z ∈ xs)).map fun z => D.int (cost z))] [] = .ok (.int (goingZ cost xs ys)) [] := by
    have := sum_ints (m := []) (o := false) (xs := (ys.filter fun z => !decide (z ∈ xs)).map cost)
    rwa [List.map_map] at this
  refine wp_ret (d := .int (goingZ cost xs ys)) (h1 := []) ?_ ⟨_, rfl, rsv9 rfl⟩
  rw [evalE]
  simp only [evalEs, e, Res.bind_ok, sm]
theorem way_ok (C : CP p) (hg : Good S) {xs ys : List Str} (hx : xs.length ≤ 1000) (hl : ys.length ≤ 1000) (hrx : ∀ z ∈ xs, Room S z (cost z)) (hr : ∀ z ∈ ys, Room S z (cost z)) (n : Nat) (h : Mm) : callN p (n + 3) 79 [stD S, .tup (xs.map .str), .tup (ys.map .str)] h = .ok (.int (goingZ cost xs ys + goingZ cost ys xs)) h := by
  refine call_run C.f79 rfl rfl (by simp only [nrs, nr_st hg, nr, nr_strs, Bool.and_self]) ?_
  simp only [d_way, List.map_cons, List.map_nil, List.cons_append, List.nil_append, List.replicate_succ, List.replicate_zero, Nat.reduceSub, List.replicate]
  exact wp_ret (d := .int (goingZ cost xs ys + goingZ cost ys xs)) (h1 := []) (by simp only [execSs, execS, evalE, evalEs, evalB, evalO, evalI, up_ok, Res.bind_ok, List.getElem?_cons_zero, List.getElem?_cons_succ, List.set_cons_zero, List.set_cons_succ, List.map_cons, List.map_nil, List.cons_append, List.nil_append, Nat.add_one_sub_one, Cn.d, if_true, wipe, bindT, bindTs, binD, arD, mkT, Bool.false_eq_true, if_false, Nat.reduceSub, Option.bind_some, szNil, szOne, szTwo, szThree, szFour, szFive, List.length_nil, List.length_cons, going_ok C hg hl hr, going_ok C hg hx hrx, addD]) ⟨_, rfl, rsv9 rfl⟩
end CO
namespace K42
open PySem R
/-- 188: _law_draw (_law_script, _law_k, _law_cell, _law_turn, _law_step) -/
def d__law_draw : FD := ⟨2, 5, [.ite (.not_ (.var 0)) [.ret (.bin .mod false (.bin .mul false (.var 1) (.lit (.int 5))) (.lit (.int 7)))] [], .set 2 (.blt .int_ false [(.idx (.var 0) (.bin .mod false (.var 1) (.blt .len false [(.var 0)])))]), .set 3 (.bin .fdiv false (.var 1) (.blt .len false [(.var 0)])), .ite (.cmp .ge (.var 2) (.lit (.int 1000000000000000000))) [.for_ (.nm 4) (.rng1 (.blt .min2 false [(.var 3), (.lit (.int 60))])) [.set 2 (.bin .fdiv false (.var 2) (.lit (.int 100003)))], .ret (.bin .mod false (.var 2) (.lit (.int 100003)))] [], .ret (.bin .mod false (.bin .mul false (.bin .mod false (.bin .add false (.bin .add false (.bin .mul false (.var 2) (.lit (.int 48271))) (.bin .mul false (.var 1) (.lit (.int 69621)))) (.lit (.int 13))) (.lit (.int 2147483647))) (.lit (.int 16807))) (.lit (.int 2147483629)))], true, []⟩
/-- 189: _law_value (_law_number) -/
def d__law_value : FD := ⟨1, 1, [.ite (.cmp .eq (.bin .mod false (.var 0) (.lit (.int 4))) (.lit (.int 0))) [.ret (.bin .add false (.lit (.str "t")) (.blt .str_ false [(.bin .mod false (.bin .fdiv false (.var 0) (.lit (.int 4))) (.lit (.int 5)))]))] [], .ret (.bin .sub false (.bin .mod false (.bin .fdiv false (.var 0) (.lit (.int 4))) (.lit (.int 7))) (.lit (.int 2)))], true, []⟩
/-- 190: _law_state (_law_script, _law_start, _law_items, _law_k, _law_buckets, _law_layouts, _law_number) -/
def d__law_state : FD := ⟨2, 7, [.set 2 (.lst true [(.tup [(.lit (.str "relation")), (.lit (.str "p")), (.tup [(.lit (.str "a")), (.lit (.str "b"))]), (.lit (.int 20))]), (.tup [(.lit (.str "relation")), (.lit (.str "q")), (.tup [(.lit (.str "c"))]), (.lit (.int 20))])]), .for_ (.nm 3) (.rng1 (.bin .add false (.lit (.int 6)) (.bin .mod false (.call 188 [(.var 0), (.var 1)]) (.lit (.int 30))))) [.set 6 (.call 188 [(.var 0), (.bin .add false (.bin .add false (.var 1) (.lit (.int 1))) (.var 3))]), .ite (.cmp .eq (.bin .mod false (.var 6) (.lit (.int 5))) (.lit (.int 0))) [.ex (.bm .append false (.var 2) [(.tup [(.lit (.str "fact")), (.lit (.str "q")), (.tup [(.call 189 [(.bin .fdiv false (.var 6) (.lit (.int 5)))])])])])] [.ex (.bm .append false (.var 2) [(.tup [(.lit (.str "fact")), (.lit (.str "p")), (.tup [(.call 189 [(.bin .fdiv false (.var 6) (.lit (.int 5)))]), (.call 189 [(.bin .fdiv false (.var 6) (.lit (.int 200)))])])])])]], .set 4 (.lc false (.bin .add false (.lit (.int 1)) (.bin .mod false (.call 188 [(.var 0), (.bin .add false (.bin .add false (.var 1) (.lit (.int 40))) (.var 3))]) (.lit (.int 6)))) (.nm 3) (.rng1 (.lit (.int 3))) none [3]), .ex (.bm .append false (.var 2) [(.tup [(.lit (.str "structure")), (.lit (.str "s")), (.lit (.str "p")), (.tup [(.lit (.str "a"))]), (.idx (.var 4) (.lit (.int 0))), (.lit (.int 8))])]), .ex (.bm .append false (.var 2) [(.tup [(.lit (.str "structure")), (.lit (.str "t")), (.lit (.str "p")), (.tup [(.lit (.str "b"))]), (.idx (.var 4) (.lit (.int 1))), (.lit (.int 8))])]), .ex (.bm .append false (.var 2) [(.tup [(.lit (.str "structure")), (.lit (.str "u")), (.lit (.str "p")), (.tup [(.lit (.str "b")), (.lit (.str "a"))]), (.idx (.var 4) (.lit (.int 2))), (.lit (.int 8))])]), .ex (.bm .append false (.var 2) [(.tup [(.lit (.str "structure")), (.lit (.str "w")), (.lit (.str "q")), (.tup [(.lit (.str "c"))]), (.lit (.int 2)), (.lit (.int 8))])]), .set 5 (.lst false [(.tup []), (.tup [(.lit (.str "s"))]), (.tup [(.lit (.str "t")), (.lit (.str "w"))]), (.tup [(.lit (.str "s")), (.lit (.str "u"))]), (.tup [(.lit (.str "u")), (.lit (.str "t")), (.lit (.str "s"))]), (.tup [(.lit (.str "w"))])]), .for_ (.nm 3) (.rng1 (.bin .add false (.lit (.int 1)) (.bin .mod false (.call 188 [(.var 0), (.bin .add false (.var 1) (.lit (.int 43)))]) (.lit (.int 6))))) [.ex (.bm .append false (.var 2) [(.tup [(.lit (.str "layout")), (.bin .add false (.lit (.str "l")) (.blt .str_ false [(.var 3)])), (.idx (.var 5) (.var 3))])])], .frzv 2, .ret (.make 0 [(.var 2)])], true, []⟩
/-- 191: _law_layout (_law_number, _law_names, _law_name) -/
def d__law_layout : FD := ⟨1, 3, [.set 1 (.lst false [(.lit (.str "s")), (.lit (.str "t")), (.lit (.str "u")), (.lit (.str "w"))]), .set 1 (.bin .add false (.slc false (.var 1) (some (.bin .mod false (.var 0) (.lit (.int 4)))) none) (.slc false (.var 1) none (some (.bin .mod false (.var 0) (.lit (.int 4)))))), .ret (.blt .tuple_ false [(.lc false (.var 2) (.nm 2) (.seq (.var 1)) (some (.cmp .eq (.bin .mod false (.bin .fdiv false (.var 0) (.bin .mul false (.lit (.int 4)) (.bin .sub false (.bin .add false (.lit (.int 1)) (.blt .ord_ false [(.var 2)])) (.lit (.int 115))))) (.lit (.int 2))) (.lit (.int 0)))) [2])])], true, []⟩
/-- 192: law (_law_script, _law_state_here, _law_rooms, _law_name, _law_layouts, _law_x, _law_y, _law_k, _law_due, _law_z) -/
def d_law : FD := ⟨1, 10, [.set 1 (.call 190 [(.var 0), (.lit (.int 0))]), .set 2 .dnew, .for_ (.nm 3) (.seq (.lst false [(.lit (.str "s")), (.lit (.str "t")), (.lit (.str "u")), (.lit (.str "w"))])) [.dput (.var 2) (.var 3) (.bin .add true (.lit (.int 20)) (.bin .mul false (.idx (.idx (.fld (.var 1) 2) (.var 3)) (.lit (.int 2))) (.idx (.idx (.fld (.var 1) 2) (.var 3)) (.lit (.int 3))))), .ite (.cmp .ne (.call 76 [(.var 1), (.var 3)]) (.idx (.var 2) (.var 3))) [.ret (.lit (.bl false))] []], .frzv 2, .set 4 (.lc false (.call 191 [(.call 188 [(.var 0), (.bin .add false (.lit (.int 60)) (.var 7))])]) (.nm 7) (.rng1 (.lit (.int 4))) none [7]), .for_ (.nm 5) (.seq (.var 4)) [.ite (.bop false [(.cmp .ne (.call 77 [(.var 1), (.var 5)]) (.blt .sum_ false [(.lc false (.idx (.var 2) (.var 3)) (.nm 3) (.seq (.var 5)) none [3])])), (.cmp .ne (.call 79 [(.var 1), (.var 5), (.var 5)]) (.lit (.int 0)))]) [.ret (.lit (.bl false))] [], .for_ (.nm 6) (.seq (.var 4)) [.set 8 (.blt .sum_ false [(.lc false (.idx (.var 2) (.var 3)) (.nm 3) (.seq (.var 6)) (some (.mem true (.var 3) (.var 5))) [3])]), .ite (.bop false [(.cmp .ne (.call 78 [(.var 1), (.var 5), (.var 6)]) (.var 8)), (.cmp .ne (.call 79 [(.var 1), (.var 5), (.var 6)]) (.call 79 [(.var 1), (.var 6), (.var 5)]))]) [.ret (.lit (.bl false))] [], .ite (.cmp .ne (.bin .add false (.bin .mul false (.lit (.int 2)) (.var 8)) (.call 77 [(.var 1), (.var 5)])) (.bin .add false (.call 79 [(.var 1), (.var 5), (.var 6)]) (.call 77 [(.var 1), (.var 6)]))) [.ret (.lit (.bl false))] [], .for_ (.nm 9) (.seq (.var 4)) [.ite (.cmp .gt (.call 79 [(.var 1), (.var 5), (.var 9)]) (.bin .add false (.call 79 [(.var 1), (.var 5), (.var 6)]) (.call 79 [(.var 1), (.var 6), (.var 9)]))) [.ret (.lit (.bl false))] []]]], .ret (.lit (.bl true))], true, []⟩
def pg : Pg := ⟨PT.fns ++ [d__law_draw, d__law_value, d__law_state, d__law_layout, d_law], [⟨4, [(0, 5), (2, 7), (4, 9)]⟩], PT.cns.take 0⟩
end K42
namespace K42
open PySem R PT PB KY ST LS CO DR
open L2 (Key)
theorem Z : LP pg ⟨4, [(0, 5), (2, 7), (4, 9)]⟩ := ⟨⟨⟨rfl, rfl⟩, rfl, rfl, rfl, rfl, rfl, rfl, rfl, rfl, rfl⟩, rfl, rfl, rfl⟩
theorem C : CP pg := ⟨rfl, rfl, rfl, rfl⟩
def N4 : List Str := ["s", "t", "u", "w"]
def rot (r : Nat) : List Str := N4.drop r ++ N4.take r
def od (z : Str) : Int := (z.cps.getD 0 0 : Nat)
def Qv (v : Int) (z : Str) : Bool := decide (v / (4 * (1 + od z - 115)) % 2 = 0)
def layN (v : Int) : List Str := (rot (v % 4).toNat).filter (Qv v)
theorem N4_c {z : Str} (h : z ∈ N4) : z = "s" ∨ z = "t" ∨ z = "u" ∨ z = "w" := by simpa [N4] using h
theorem rot_mem {r : Nat} {z : Str} : z ∈ rot r ↔ z ∈ N4 := by
  unfold rot
  rw [List.mem_append, Or.comm, ← List.mem_append, List.take_append_drop]
theorem rot_len (r : Nat) : (rot r).length ≤ 4 := by
  unfold rot
  rw [List.length_append, Nat.add_comm, ← List.length_append, List.take_append_drop]; decide
theorem ord_ok {z : Str} (h : z ∈ N4) (m : Mm) (o : Bool) : bltD .ord_ o [.str z] m = .ok (.int (od z)) m ∧ divOk (4 * (1 + od z - 115)) = true := by
  rcases N4_c h with rfl | rfl | rfl | rfl <;> exact ⟨rfl, by decide +kernel⟩
theorem f191 : pg.fns[191]? = some d__law_layout := rfl
theorem layout_ok (v : Int) (n : Nat) (h : Mm) : callN pg (n + 1) 191 [.int v] h = .ok (.tup ((layN v).map .str)) h := by
  refine call_run f191 rfl rfl rfl ?_
  simp only [d__law_layout, List.map_cons, List.map_nil, List.cons_append, List.nil_append, List.replicate_succ, List.replicate_zero, Nat.reduceSub, List.replicate]
  have q4 : decide ((0:Int) < 4) = true := rfl
  have q2 : decide ((0:Int) < 2) = true := rfl
  have hr : (v % 4) = (((v % 4).toNat : Nat) : Int) := by
    have := Int.emod_nonneg v (by decide : (4 : Int) ≠ 0)
    omega
  have hlay : layN v = (rot (v % 4).toNat).filter (Qv v) := rfl
  generalize (v % 4).toNat = r at hr hlay
  have mk4 : ∀ m : Mm, mkL false [.str "s", .str "t", .str "u", .str "w"] m = .ok (.lst (N4.map .str)) m := fun _ => rfl
  refine wp_set (d := .lst (N4.map .str)) (h1 := []) (by simp only [execSs, execS, evalE, evalEs, evalB, evalO, evalI, up_ok, Res.bind_ok, List.getElem?_cons_zero, List.getElem?_cons_succ, List.set_cons_zero, List.set_cons_succ, List.map_cons, List.map_nil, List.cons_append, List.nil_append, Nat.add_one_sub_one, Cn.d, if_true, wipe, bindT, bindTs, binD, arD, mkT, Bool.false_eq_true, if_false, Nat.reduceSub, Option.bind_some, szNil, szOne, szTwo, szThree, szFour, szFive, List.length_nil, List.length_cons, mk4]) ?_
  simp only [List.set_cons_zero, List.set_cons_succ]
  have s1 : slcD false [] (.lst (N4.map .str)) (some ((r : Nat) : Int)) none = .ok (.lst ((N4.drop r).map .str)) [] := by
    have : (N4.drop r).length ≤ 4 := by rw [List.length_drop]; exact Nat.sub_le _ _
    simp only [slcD, lstOf, cutD_from, ← List.map_drop]
    exact mkL_f (by rw [List.length_map]; omega)
  have s2 : slcD false [] (.lst (N4.map .str)) none (some ((r : Nat) : Int)) = .ok (.lst ((N4.take r).map .str)) [] := by
    have : (N4.take r).length ≤ 4 := List.length_take_le' _ _
    simp only [slcD, lstOf, cutD_to, ← List.map_take]
    exact mkL_f (by rw [List.length_map]; omega)
  have s3 : addD false [] (.lst ((N4.drop r).map .str)) (.lst ((N4.take r).map .str)) = .ok (.lst ((rot r).map .str)) [] := by
    have e := rot_len r
    simp only [addD, lstW, ← List.map_append]
    exact mkL_f (by rw [List.length_map]; exact Nat.le_trans e (by decide))
  refine wp_set (d := .lst ((rot r).map .str)) (h1 := []) (by
    simp only [execSs, execS, evalE, evalEs, evalB, evalO, evalI, up_ok, Res.bind_ok, List.getElem?_cons_zero, List.getElem?_cons_succ, List.set_cons_zero, List.set_cons_succ, List.map_cons, List.map_nil, List.cons_append, List.nil_append, Nat.add_one_sub_one, Cn.d, if_true, wipe, bindT, bindTs, binD, arD, mkT, Bool.false_eq_true, if_false, Nat.reduceSub, Option.bind_some, szNil, szOne, szTwo, szThree, szFour, szFive, List.length_nil, List.length_cons, q4]
    rw [hr]
    simp only [execSs, execS, evalE, evalEs, evalB, evalO, evalI, up_ok, Res.bind_ok, List.getElem?_cons_zero, List.getElem?_cons_succ, List.set_cons_zero, List.set_cons_succ, List.map_cons, List.map_nil, List.cons_append, List.nil_append, Nat.add_one_sub_one, Cn.d, if_true, wipe, bindT, bindTs, binD, arD, mkT, Bool.false_eq_true, if_false, Nat.reduceSub, Option.bind_some, szNil, szOne, szTwo, szThree, szFour, szFive, List.length_nil, List.length_cons, s1, s2, s3]) ?_
  simp only [List.set_cons_zero, List.set_cons_succ]
  have e := lc_keep (p := pg) (c := callN pg n) (obj := false) (elt := .var 2) (k := .cmp .eq (.bin .mod false (.bin .fdiv false (.var 0) (.bin .mul false (.lit (.int 4)) (.bin .sub false (.bin .add false (.lit (.int 1)) (.blt .ord_ false [(.var 2)])) (.lit (.int 115))))) (.lit (.int 2))) (.lit (.int 0))) (g := .nm 2) (it := .seq (.var 1)) (own := [2]) (sl := [some (.int v), some (.lst ((rot r).map .str)), none]) (h := []) (h1 := []) (xs := rot r) (F := D.str) (G := D.str) (P := Qv v) (by simp only [execSs, execS, evalE, evalEs, evalB, evalO, evalI, up_ok, Res.bind_ok, List.getElem?_cons_zero, List.getElem?_cons_succ, List.set_cons_zero, List.set_cons_succ, List.map_cons, List.map_nil, List.cons_append, List.nil_append, Nat.add_one_sub_one, Cn.d, if_true, wipe, bindT, bindTs, binD, arD, mkT, Bool.false_eq_true, if_false, Nat.reduceSub, Option.bind_some, szNil, szOne, szTwo, szThree, szFour, szFive, List.length_nil, List.length_cons]) (by have := rot_len r; omega) fun z hz => ⟨_, rfl, by
    obtain ⟨o1, o2⟩ := ord_ok (rot_mem.mp hz) [] false
    have mo : mulOk 4 (1 + od z - 115) = true := mulOk_l (by decide)
    simp only [execSs, execS, evalE, evalEs, evalB, evalO, evalI, up_ok, Res.bind_ok, List.getElem?_cons_zero, List.getElem?_cons_succ, List.set_cons_zero, List.set_cons_succ, List.map_cons, List.map_nil, List.cons_append, List.nil_append, Nat.add_one_sub_one, Cn.d, if_true, wipe, bindT, bindTs, binD, arD, mkT, Bool.false_eq_true, if_false, Nat.reduceSub, Option.bind_some, szNil, szOne, szTwo, szThree, szFour, szFive, List.length_nil, List.length_cons, List.set_cons_zero, List.set_cons_succ, o1, addD, mulD, mo, o2, q2, eq_int]
    rfl, fun _ => by simp only [execSs, execS, evalE, evalEs, evalB, evalO, evalI, up_ok, Res.bind_ok, List.getElem?_cons_zero, List.getElem?_cons_succ, List.set_cons_zero, List.set_cons_succ, List.map_cons, List.map_nil, List.cons_append, List.nil_append, Nat.add_one_sub_one, Cn.d, if_true, wipe, bindT, bindTs, binD, arD, mkT, Bool.false_eq_true, if_false, Nat.reduceSub, Option.bind_some, szNil, szOne, szTwo, szThree, szFour, szFive, List.length_nil, List.length_cons, List.set_cons_zero, List.set_cons_succ]⟩
  have fl : ((rot r).filter (Qv v)).length ≤ 4 := Nat.le_trans (List.length_filter_le _ _) (rot_len _)
  rw [mkL_f (by rw [List.length_map]; omega)] at e
  refine wp_ret (d := .tup ((layN v).map .str)) (h1 := []) ?_ ⟨_, rfl, rsv9 (by simp only [nr, nr_strs])⟩
  rw [evalE]
  simp only [evalEs, e, Res.bind_ok, hlay]
  exact tup_lst (by rw [List.length_map]; omega)
/-! ### sums over layouts -/
def T (f : Str → Int) : Int := f "s" + f "t" + f "u" + f "w"
theorem sum_filter (f : Str → Int) (P : Str → Bool) : ∀ l : List Str, ((l.filter P).map f).sum = (l.map fun z => if P z = true then f z else 0).sum
  | [] => rfl
  | z :: l => by
    have ih := sum_filter f P l
    cases q : P z with
    | true => simp only [List.filter_cons, q, if_true, List.map_cons, List.sum_cons, ih]
    | false => simp only [List.filter_cons, q, Bool.false_eq_true, if_false, List.map_cons, List.sum_cons, ih]; omega
theorem rot_sum (f : Str → Int) {r : Nat} (hr : r < 4) : ((rot r).map f).sum = T f := by
  have : r = 0 ∨ r = 1 ∨ r = 2 ∨ r = 3 := by omega
  rcases this with rfl | rfl | rfl | rfl <;> simp only [rot, N4, T, List.drop, List.take, List.append_nil, List.nil_append, List.cons_append, List.map_cons, List.map_nil, List.sum_cons, List.sum_nil] <;> omega
theorem mod4 (v : Int) : (v % 4).toNat < 4 := by
  have := Int.emod_nonneg v (by decide : (4 : Int) ≠ 0)
  have := Int.emod_lt_of_pos v (by decide : (0 : Int) < 4)
  omega
theorem lay_sum (v : Int) (P : Str → Bool) (f : Str → Int) : (((layN v).filter P).map f).sum = T fun z => if (Qv v z && P z) = true then f z else 0 := by
  unfold layN
  rw [List.filter_filter, sum_filter, rot_sum _ (mod4 v)]
  congr 1
  funext z
  rw [Bool.and_comm]
theorem lay_sum1 (v : Int) (f : Str → Int) : ((layN v).map f).sum = T fun z => if Qv v z = true then f z else 0 := by
  unfold layN
  rw [sum_filter, rot_sum _ (mod4 v)]
theorem lay_mem {v : Int} {z : Str} : z ∈ layN v ↔ z ∈ N4 ∧ Qv v z = true := by
  unfold layN
  rw [List.mem_filter, rot_mem]
theorem T_congr {f g : Str → Int} (h : ∀ z ∈ N4, f z = g z) : T f = T g := by
  unfold T
  rw [h "s" (by simp [N4]), h "t" (by simp [N4]), h "u" (by simp [N4]), h "w" (by simp [N4])]
theorem going_T (cost : Str → Int) (v w : Int) : goingZ cost (layN v) (layN w) = T fun z => if (Qv w z && !Qv v z) = true then cost z else 0 := by
  unfold goingZ
  rw [lay_sum]
  refine T_congr fun z hz => ?_
  have : decide (z ∈ layN v) = Qv v z := by
    cases q : Qv v z <;> simp [lay_mem, hz, q]
  rw [this]
theorem lay_len (v : Int) : (layN v).length ≤ 4 := Nat.le_trans (List.length_filter_le _ _) (rot_len _)
/-! ### the law's equations -/
theorem eq_self (cost : Str → Int) (v : Int) : goingZ cost (layN v) (layN v) = 0 := by
  rw [going_T]
  simp [T]
theorem one (q r : Bool) (c : Int) : 2 * (if (r && !q) = true then c else 0) + (if q = true then c else 0) = ((if (r && !q) = true then c else 0) + (if (q && !r) = true then c else 0)) + (if r = true then c else 0) := by
  cases q <;> cases r <;> simp <;> omega
theorem two (cost : Str → Int) (v w : Int) : 2 * goingZ cost (layN v) (layN w) + ((layN v).map cost).sum = (goingZ cost (layN v) (layN w) + goingZ cost (layN w) (layN v)) + ((layN w).map cost).sum := by
  rw [going_T, going_T, lay_sum1, lay_sum1]
  unfold T
  have a := one (Qv v "s") (Qv w "s") (cost "s")
  have b := one (Qv v "t") (Qv w "t") (cost "t")
  have c := one (Qv v "u") (Qv w "u") (cost "u")
  have d := one (Qv v "w") (Qv w "w") (cost "w")
  dsimp only
  omega
theorem tri1 (q r s : Bool) {c : Int} (hc : 0 ≤ c) : (if (s && !q) = true then c else 0) + (if (q && !s) = true then c else 0) ≤ ((if (r && !q) = true then c else 0) + (if (q && !r) = true then c else 0)) + ((if (s && !r) = true then c else 0) + (if (r && !s) = true then c else 0)) := by
  cases q <;> cases r <;> cases s <;> simp <;> omega
theorem tri {cost : Str → Int} (hc : ∀ z, 0 ≤ cost z) (u v w : Int) : goingZ cost (layN u) (layN w) + goingZ cost (layN w) (layN u) ≤ (goingZ cost (layN u) (layN v) + goingZ cost (layN v) (layN u)) + (goingZ cost (layN v) (layN w) + goingZ cost (layN w) (layN v)) := by
  rw [going_T, going_T, going_T, going_T, going_T, going_T]
  unfold T
  have a := tri1 (Qv u "s") (Qv v "s") (Qv w "s") (hc "s")
  have b := tri1 (Qv u "t") (Qv v "t") (Qv w "t") (hc "t")
  have c := tri1 (Qv u "u") (Qv v "u") (Qv w "u") (hc "u")
  have d := tri1 (Qv u "w") (Qv v "w") (Qv w "w") (hc "w")
  dsimp only
  omega
end K42
namespace K42
open PySem R PT PB KY ST LS CO DR
open L2 (Key)
def bk (b : Nat → Int) (z : Str) : Int := if z = "s" then b 0 else if z = "t" then b 1 else if z = "u" then b 2 else 2
def cst (b : Nat → Int) (z : Str) : Int := 20 + bk b z * 8
theorem str_at (b : Nat → Int) {z : Str} (h : z ∈ N4) : ∃ (r : Str) (cl cl2 : D), valD (strL b) (.inr z) = some (.tup [.str r, cl, .int (bk b z), .int 8]) ∧ valD relL (.inr r) = some (.tup [cl2, .int 20]) := by
  rcases N4_c h with rfl | rfl | rfl | rfl <;> exact ⟨_, _, _, rfl, rfl⟩
section
variable {S : Sta} {b : Nat → Int}
theorem bk_b (hb : ∀ i, 1 ≤ b i ∧ b i ≤ 6) (z : Str) : 1 ≤ bk b z ∧ bk b z ≤ 6 := by
  unfold bk
  have := hb 0
  have := hb 1
  have := hb 2
  split
  · omega
  · split
    · omega
    · split <;> omega
theorem room_ok (h1 : S.rel = relL) (h2 : S.str = strL b) (hb : ∀ i, 1 ≤ b i ∧ b i ≤ 6) {z : Str} (h : z ∈ N4) : Room S z (cst b z) := by
  obtain ⟨r, cl, cl2, e1, e2⟩ := str_at b h
  have := bk_b hb z
  exact ⟨r, cl, cl2, 20, bk b z, 8, by rw [h2]; exact e1, by rw [h1]; exact e2, by omega, rfl⟩
def rm (b : Nat → Int) (l : List Str) : List (Key × D) := l.map fun z => (.inr z, .int (cst b z))
theorem rm_val {z : Str} : ∀ {l : List Str}, z ∈ l → valD (rm b l) (.inr z) = some (.int (cst b z))
  | [], h => by cases h
  | y :: l, h => by
    simp only [rm, List.map_cons, valD]
    by_cases e : y = z
    · subst e; simp
    · have : ¬ ((Sum.inr y : Key) = .inr z) := fun q => e (Sum.inr.inj q)
      rw [if_neg this]
      have h : z ∈ l := by
        rcases List.mem_cons.mp h with h | h
        · exact absurd h.symm e
        · exact h
      exact rm_val h
theorem rm_put {z : Str} {l : List Str} (h : z ∉ l) : putD (rm b l) (.inr z) (.int (cst b z)) = rm b (l ++ [z]) := by
  unfold putD
  have : ((rm b l).any fun kv => decide (kv.1 = Sum.inr z)) = false := by
    rw [List.any_eq_false]
    intro kv hk
    obtain ⟨q, hq, rfl⟩ := List.mem_map.mp hk
    simp only [decide_eq_true_eq]
    intro e
    exact h (Sum.inr.inj e ▸ hq)
  rw [this]
  simp [rm]
theorem nrk_rm : ∀ l : List Str, nrk (rm b l) = true
  | [] => rfl
  | z :: l => by
    have := nrk_rm l
    unfold rm at this ⊢
    simp only [List.map_cons, nrk, nr, this, Bool.and_self]
end
theorem thr_nrk {k : Nat} {h : Mm} : ∀ {kvs : List (Key × D)}, nrk kvs = true → thr (fun p h => (frzN (k + 1) p.2 h).map fun q => ((p.1, q.1), q.2)) kvs h = some (kvs, h)
  | [], _ => rfl
  | q :: kvs, hn => by
    simp only [nrk, Bool.and_eq_true] at hn
    have e : frzN (k + 1) q.2 h = some (q.2, h) := by
      unfold frzN
      rw [if_pos hn.1]
    simp only [thr, e, thr_nrk hn.2, Option.map_some, Option.bind_some]
theorem frz_dct {h : Mm} {n : Nat} {kvs : List (Key × D)} (e : h[n]? = some (.dct kvs)) (q : nrk kvs = true) : frzD (.ref n) h = .ok (.dct kvs) (h.set n .dead) := by
  unfold frzD frzN
  simp only [nr, Bool.false_eq_true, if_false, e, thr_nrk q, Option.map_some]
theorem f192 : pg.fns[192]? = some d_law := rfl
theorem eq_of {m : Mm} {i j : Int} (h : i = j) : cmpD .ne m (.int i) (.int j) = some false := by
  rw [ne_int, decide_eq_false (by simpa using h)]
theorem ev_ne {p : Pg} {c : Calls} {sl : List (Option D)} {h : Mm} {a b : ME} {i j : Int} (h1 : evalE p c a sl h = .ok (.int i) h) (h2 : evalE p c b sl h = .ok (.int j) h) (e : i = j) : evalE p c (.cmp .ne a b) sl h = .ok (.bl false) h := by
  subst e
  rw [evalE]
  simp only [h1, Res.bind_ok, h2, eq_of rfl]
theorem ev_or2 {p : Pg} {c : Calls} {sl : List (Option D)} {h : Mm} {a b : ME} (h1 : evalE p c a sl h = .ok (.bl false) h) (h2 : evalE p c b sl h = .ok (.bl false) h) : evalE p c (.bop false [a, b]) sl h = .ok (.bl false) h := by
  rw [evalE, evalB]
  · simp only [h1, Res.bind_ok, truthD, if_true, evalB, h2]
  · intro z; cases z
theorem law_runs : LawR pg 12 192 := by
  intro ns hl
  have run : Wp pg (callN pg 11) d_law.body ⟨[some (.scr (ns.map .int)), none, none, none, none, none, none, none, none, none], []⟩ (fun f s => ∃ d, f = .rt d ∧ rsv s.hp 9 d = some (.bl true)) := by
    simp only [d_law, List.map_cons, List.map_nil, List.cons_append, List.nil_append, List.replicate_succ, List.replicate_zero, Nat.reduceSub, List.replicate]
    obtain ⟨facts, b, c, hf, _, hb, _, _, est⟩ := state_ok Z hl 0 6 []
    have h1 := mk_rel hf b c
    have h2 := mk_str hf b c
    have hg := mkS_good (items_ok hf b c)
    generalize mkS (items facts b c) = S at h1 h2 hg est
    have room := fun {z} (hz : z ∈ N4) => room_ok h1 h2 hb hz
    have cn : ∀ z, 0 ≤ cst b z := fun z => by
      have := bk_b hb z
      unfold cst
      omega
    have est : callN pg 11 190 [.scr (ns.map .int), .int 0] [] = .ok (stD S) [] := est
    refine wp_set (d := stD S) (h1 := []) (by simp only [execSs, execS, evalE, evalEs, evalB, evalO, evalI, up_ok, Res.bind_ok, List.getElem?_cons_zero, List.getElem?_cons_succ, List.set_cons_zero, List.set_cons_succ, List.map_cons, List.map_nil, List.cons_append, List.nil_append, Nat.add_one_sub_one, Cn.d, if_true, wipe, bindT, bindTs, binD, arD, mkT, Bool.false_eq_true, if_false, Nat.reduceSub, Option.bind_some, szNil, szOne, szTwo, szThree, szFour, szFive, List.length_nil, List.length_cons, est]) ?_
    simp only [List.set_cons_zero, List.set_cons_succ]
    refine wp_set (d := .ref 0) (h1 := [.dct []]) (by simp only [execSs, execS, evalE, evalEs, evalB, evalO, evalI, up_ok, Res.bind_ok, List.getElem?_cons_zero, List.getElem?_cons_succ, List.set_cons_zero, List.set_cons_succ, List.map_cons, List.map_nil, List.cons_append, List.nil_append, Nat.add_one_sub_one, Cn.d, if_true, wipe, bindT, bindTs, binD, arD, mkT, Bool.false_eq_true, if_false, Nat.reduceSub, Option.bind_some, szNil, szOne, szTwo, szThree, szFour, szFive, List.length_nil, List.length_cons]) ?_
    simp only [List.set_cons_zero, List.set_cons_succ]
    have mk4 : ∀ m : Mm, mkL false [.str "s", .str "t", .str "u", .str "w"] m = .ok (.lst (N4.map .str)) m := fun _ => rfl
    refine wp_forR (α := Str) (F := D.str) (xs := N4) (h1 := [.dct []]) (fun rest st => ∃ x3 done, done ++ rest = N4 ∧ st = ⟨[some (.scr (ns.map .int)), some (stD S), some (.ref 0), x3, none, none, none, none, none, none], [.dct (rm b done)]⟩)
      (by simp only [execSs, execS, evalE, evalEs, evalB, evalO, evalI, up_ok, Res.bind_ok, List.getElem?_cons_zero, List.getElem?_cons_succ, List.set_cons_zero, List.set_cons_succ, List.map_cons, List.map_nil, List.cons_append, List.nil_append, Nat.add_one_sub_one, Cn.d, if_true, wipe, bindT, bindTs, binD, arD, mkT, Bool.false_eq_true, if_false, Nat.reduceSub, Option.bind_some, szNil, szOne, szTwo, szThree, szFour, szFive, List.length_nil, List.length_cons, mk4]) ⟨none, [], rfl, rfl⟩ ?_ ?_
    · rintro z rest st ⟨x3, done, hdn, rfl⟩
      refine ⟨_, rfl, ?_⟩
      simp only [List.set_cons_zero, List.set_cons_succ]
      have hz : z ∈ N4 := by rw [← hdn]; simp
      have nd : N4.Nodup := by decide
      have nin : z ∉ done := fun q => by
        rw [← hdn, List.nodup_append] at nd
        exact nd.2.2 z q z (by simp) rfl
      obtain ⟨r, cl, cl2, e1, e2⟩ := str_at b hz
      rw [← h2] at e1
      have i2 : ∀ m, idxD m (.tup [.str r, cl, .int (bk b z), .int 8]) (.int 2) = some (.int (bk b z)) := fun m => ixk 2
      have i3 : ∀ m, idxD m (.tup [.str r, cl, .int (bk b z), .int 8]) (.int 3) = some (.int 8) := fun m => ixk 3
      have mo : mulOk (bk b z) 8 = true := mulOk_r (by decide)
      have dl : (rm b done).length ≤ 1000000 := by
        have := congrArg List.length hdn
        rw [List.length_append, show N4.length = 4 from rfl] at this
        unfold rm
        rw [List.length_map]; omega
      refine wp_dput (d := .int (cst b z)) (h1 := [.dct (rm b done)]) (x := .ref 0) (h2 := [.dct (rm b done)]) (y := .str z) (h3 := [.dct (rm b done)]) (by
        simp only [execSs, execS, evalE, evalEs, evalB, evalO, evalI, up_ok, Res.bind_ok, List.getElem?_cons_zero, List.getElem?_cons_succ, List.set_cons_zero, List.set_cons_succ, List.map_cons, List.map_nil, List.cons_append, List.nil_append, Nat.add_one_sub_one, Cn.d, if_true, wipe, bindT, bindTs, binD, arD, mkT, Bool.false_eq_true, if_false, Nat.reduceSub, Option.bind_some, szNil, szOne, szTwo, szThree, szFour, szFive, List.length_nil, List.length_cons, fldS2, idxS, e1, i2, i3, mulD, mo, addD]
        rfl) (by simp only [execSs, execS, evalE, evalEs, evalB, evalO, evalI, up_ok, Res.bind_ok, List.getElem?_cons_zero, List.getElem?_cons_succ, List.set_cons_zero, List.set_cons_succ, List.map_cons, List.map_nil, List.cons_append, List.nil_append, Nat.add_one_sub_one, Cn.d, if_true, wipe, bindT, bindTs, binD, arD, mkT, Bool.false_eq_true, if_false, Nat.reduceSub, Option.bind_some, szNil, szOne, szTwo, szThree, szFour, szFive, List.length_nil, List.length_cons]) (by simp only [execSs, execS, evalE, evalEs, evalB, evalO, evalI, up_ok, Res.bind_ok, List.getElem?_cons_zero, List.getElem?_cons_succ, List.set_cons_zero, List.set_cons_succ, List.map_cons, List.map_nil, List.cons_append, List.nil_append, Nat.add_one_sub_one, Cn.d, if_true, wipe, bindT, bindTs, binD, arD, mkT, Bool.false_eq_true, if_false, Nat.reduceSub, Option.bind_some, szNil, szOne, szTwo, szThree, szFour, szFive, List.length_nil, List.length_cons]) (dput_ref rfl dl) ?_
      rw [rm_put nin]
      have l76 := laying_ok C hg (room hz) 10 [.dct (rm b (done ++ [z]))]
      have i0 : idxD [.dct (rm b (done ++ [z]))] (.ref 0) (.str z) = some (.int (cst b z)) := by
        rw [idx_dct (n := 0) (dct_ref rfl)]
        exact rm_val (by simp)
      refine wp_else (x := .bl false) (h1 := [.dct (rm b (done ++ [z]))]) (by simp only [execSs, execS, evalE, evalEs, evalB, evalO, evalI, up_ok, Res.bind_ok, List.getElem?_cons_zero, List.getElem?_cons_succ, List.set_cons_zero, List.set_cons_succ, List.map_cons, List.map_nil, List.cons_append, List.nil_append, Nat.add_one_sub_one, Cn.d, if_true, wipe, bindT, bindTs, binD, arD, mkT, Bool.false_eq_true, if_false, Nat.reduceSub, Option.bind_some, szNil, szOne, szTwo, szThree, szFour, szFive, List.length_nil, List.length_cons, l76, i0, eq_of rfl]) rfl (wp_nil (wp_nil ⟨some (.str z), done ++ [z], by rw [List.append_assoc]; exact hdn, rfl⟩))
    rintro st ⟨x3, done, hdn, rfl⟩
    have hdn : done = N4 := by simpa using hdn
    subst hdn
    refine wp_frzv rfl (frz_dct rfl (nrk_rm _)) ?_
    simp only [List.set_cons_zero, List.set_cons_succ]
    have rmv : ∀ {z : Str} (m : Mm), z ∈ N4 → idxD m (.dct (rm b N4)) (.str z) = some (.int (cst b z)) := fun m hz => by
      rw [idxS]; exact rm_val hz
    generalize hV : (fun k : Nat => drawZ ns (60 + k)) = V
    refine wp_set (d := tab 4 fun k => .tup ((layN (V k)).map .str)) (h1 := [.dead]) (lc_tab (F := fun k => .int (k : Int)) (h1 := [.dead]) (it_rng (n := 4) (by simp only [execSs, execS, evalE, evalEs, evalB, evalO, evalI, up_ok, Res.bind_ok, List.getElem?_cons_zero, List.getElem?_cons_succ, List.set_cons_zero, List.set_cons_succ, List.map_cons, List.map_nil, List.cons_append, List.nil_append, Nat.add_one_sub_one, Cn.d, if_true, wipe, bindT, bindTs, binD, arD, mkT, Bool.false_eq_true, if_false, Nat.reduceSub, Option.bind_some, szNil, szOne, szTwo, szThree, szFour, szFive, List.length_nil, List.length_cons] <;> rfl) (by decide)) (by decide) fun k hk => ⟨_, rfl, ?_⟩) ?_
    · have ek : (60 : Int) + (k : Int) = ((60 + k : Nat) : Int) := by omega
      have dr := draw_ok Z.f188 hl (60 + k) 10 [.dead]
      have ly := layout_ok (drawZ ns (60 + k)) 10 [.dead]
      rw [← hV]
      simp only [execSs, execS, evalE, evalEs, evalB, evalO, evalI, up_ok, Res.bind_ok, List.getElem?_cons_zero, List.getElem?_cons_succ, List.set_cons_zero, List.set_cons_succ, List.map_cons, List.map_nil, List.cons_append, List.nil_append, Nat.add_one_sub_one, Cn.d, if_true, wipe, bindT, bindTs, binD, arD, mkT, Bool.false_eq_true, if_false, Nat.reduceSub, Option.bind_some, szNil, szOne, szTwo, szThree, szFour, szFive, List.length_nil, List.length_cons, List.set_cons_zero, List.set_cons_succ, addD, ek, dr, ly]
    simp only [List.set_cons_zero, List.set_cons_succ]
    have hL : ∀ k : Nat, (layN (V k)).length ≤ 1000 := fun k => by have := lay_len (V k); omega
    have hR : ∀ k : Nat, ∀ z ∈ layN (V k), Room S z (cst b z) := fun k z hz => room (lay_mem.mp hz).1
    have e77 := fun k => stands_ok C hg (hL k) (hR k) 9 [.dead]
    have e78 := fun j k => going_ok C hg (xs := layN (V j)) (hL k) (hR k) 9 [.dead]
    have e79 := fun j k => way_ok C hg (hL j) (hL k) (hR j) (hR k) 8 [.dead]
    have sumA : ∀ (k : Nat) (x3 x6 x7 x8 x9 : Option D), evalE pg (callN pg 11) (.blt .sum_ false [(.lc false (.idx (.var 2) (.var 3)) (.nm 3) (.seq (.var 5)) none [3])]) [some (.scr (ns.map .int)), some (stD S), some (.dct (rm b N4)), x3, some (tab 4 fun k => .tup ((layN (V k)).map .str)), some (.tup ((layN (V k)).map .str)), x6, x7, x8, x9] [.dead] = .ok (.int ((layN (V k)).map (cst b)).sum) [.dead] := fun k x3 x6 x7 x8 x9 => by
      have e := lc_list (p := pg) (c := callN pg 11) (obj := false) (elt := .idx (.var 2) (.var 3)) (g := .nm 3) (it := .seq (.var 5)) (own := [3]) (sl := [some (.scr (ns.map .int)), some (stD S), some (.dct (rm b N4)), x3, some (tab 4 fun k => .tup ((layN (V k)).map .str)), some (.tup ((layN (V k)).map .str)), x6, x7, x8, x9]) (h := [.dead]) (h1 := [.dead]) (xs := layN (V k)) (F := D.str) (G := fun z => .int (cst b z)) (by simp only [execSs, execS, evalE, evalEs, evalB, evalO, evalI, up_ok, Res.bind_ok, List.getElem?_cons_zero, List.getElem?_cons_succ, List.set_cons_zero, List.set_cons_succ, List.map_cons, List.map_nil, List.cons_append, List.nil_append, Nat.add_one_sub_one, Cn.d, if_true, wipe, bindT, bindTs, binD, arD, mkT, Bool.false_eq_true, if_false, Nat.reduceSub, Option.bind_some, szNil, szOne, szTwo, szThree, szFour, szFive, List.length_nil, List.length_cons]) (by have := hL k; omega) fun z hz => ⟨_, rfl, by
        simp only [execSs, execS, evalE, evalEs, evalB, evalO, evalI, up_ok, Res.bind_ok, List.getElem?_cons_zero, List.getElem?_cons_succ, List.set_cons_zero, List.set_cons_succ, List.map_cons, List.map_nil, List.cons_append, List.nil_append, Nat.add_one_sub_one, Cn.d, if_true, wipe, bindT, bindTs, binD, arD, mkT, Bool.false_eq_true, if_false, Nat.reduceSub, Option.bind_some, szNil, szOne, szTwo, szThree, szFour, szFive, List.length_nil, List.length_cons, List.set_cons_zero, List.set_cons_succ, rmv _ (lay_mem.mp hz).1]⟩
      rw [if_neg Bool.false_ne_true] at e
      have sm : bltD .sum_ false [.lst ((layN (V k)).map fun z => D.int (cst b z))] [.dead] = .ok (.int ((layN (V k)).map (cst b)).sum) [.dead] := by
        have := sum_ints (m := [.dead]) (o := false) (xs := (layN (V k)).map (cst b))
        rwa [List.map_map] at this
      rw [evalE]
      simp only [evalEs, e, Res.bind_ok, sm]
    have sumB : ∀ (j k : Nat) (x3 x7 x8 x9 : Option D), evalE pg (callN pg 11) (.blt .sum_ false [(.lc false (.idx (.var 2) (.var 3)) (.nm 3) (.seq (.var 6)) (some (.mem true (.var 3) (.var 5))) [3])]) [some (.scr (ns.map .int)), some (stD S), some (.dct (rm b N4)), x3, some (tab 4 fun k => .tup ((layN (V k)).map .str)), some (.tup ((layN (V j)).map .str)), some (.tup ((layN (V k)).map .str)), x7, x8, x9] [.dead] = .ok (.int (goingZ (cst b) (layN (V j)) (layN (V k)))) [.dead] := fun j k x3 x7 x8 x9 => by
      have e := lc_keep (p := pg) (c := callN pg 11) (obj := false) (elt := .idx (.var 2) (.var 3)) (k := .mem true (.var 3) (.var 5)) (g := .nm 3) (it := .seq (.var 6)) (own := [3]) (sl := [some (.scr (ns.map .int)), some (stD S), some (.dct (rm b N4)), x3, some (tab 4 fun k => .tup ((layN (V k)).map .str)), some (.tup ((layN (V j)).map .str)), some (.tup ((layN (V k)).map .str)), x7, x8, x9]) (h := [.dead]) (h1 := [.dead]) (xs := layN (V k)) (F := D.str) (G := fun z => .int (cst b z)) (P := fun z => !decide (z ∈ layN (V j))) (by simp only [execSs, execS, evalE, evalEs, evalB, evalO, evalI, up_ok, Res.bind_ok, List.getElem?_cons_zero, List.getElem?_cons_succ, List.set_cons_zero, List.set_cons_succ, List.map_cons, List.map_nil, List.cons_append, List.nil_append, Nat.add_one_sub_one, Cn.d, if_true, wipe, bindT, bindTs, binD, arD, mkT, Bool.false_eq_true, if_false, Nat.reduceSub, Option.bind_some, szNil, szOne, szTwo, szThree, szFour, szFive, List.length_nil, List.length_cons]) (by have := hL k; omega) fun z hz => ⟨_, rfl, by
        simp only [execSs, execS, evalE, evalEs, evalB, evalO, evalI, up_ok, Res.bind_ok, List.getElem?_cons_zero, List.getElem?_cons_succ, List.set_cons_zero, List.set_cons_succ, List.map_cons, List.map_nil, List.cons_append, List.nil_append, Nat.add_one_sub_one, Cn.d, if_true, wipe, bindT, bindTs, binD, arD, mkT, Bool.false_eq_true, if_false, Nat.reduceSub, Option.bind_some, szNil, szOne, szTwo, szThree, szFour, szFive, List.length_nil, List.length_cons, List.set_cons_zero, List.set_cons_succ, mem_tup], fun _ => by simp only [execSs, execS, evalE, evalEs, evalB, evalO, evalI, up_ok, Res.bind_ok, List.getElem?_cons_zero, List.getElem?_cons_succ, List.set_cons_zero, List.set_cons_succ, List.map_cons, List.map_nil, List.cons_append, List.nil_append, Nat.add_one_sub_one, Cn.d, if_true, wipe, bindT, bindTs, binD, arD, mkT, Bool.false_eq_true, if_false, Nat.reduceSub, Option.bind_some, szNil, szOne, szTwo, szThree, szFour, szFive, List.length_nil, List.length_cons, List.set_cons_zero, List.set_cons_succ, rmv _ (lay_mem.mp hz).1]⟩
      rw [mkL_f (by
        rw [List.length_map]
        have := List.length_filter_le (fun z => !decide (z ∈ layN (V j))) (layN (V k))
        have := hL k
        omega)] at e
      have sm : bltD .sum_ false [.lst (((layN (V k)).filter fun z => !decide (z ∈ layN (V j))).map fun z => D.int (cst b z))] [.dead] = .ok (.int (goingZ (cst b) (layN (V j)) (layN (V k)))) [.dead] := by
        have := sum_ints (m := [.dead]) (o := false) (xs := ((layN (V k)).filter fun z => !decide (z ∈ layN (V j))).map (cst b))
        rwa [List.map_map] at this
      rw [evalE]
      simp only [evalEs, e, Res.bind_ok, sm]
    have mo2 : ∀ j : Int, mulOk 2 j = true := fun j => mulOk_l (by decide)
    refine wp_for (n := 4) (F := fun k => .tup ((layN (V k)).map .str)) (h1 := [.dead]) (fun _ st => ∃ x3 x5 x6 x7 x8 x9, st = ⟨[some (.scr (ns.map .int)), some (stD S), some (.dct (rm b N4)), x3, some (tab 4 fun k => .tup ((layN (V k)).map .str)), x5, x6, x7, x8, x9], [.dead]⟩)
      (it_tab (by simp only [execSs, execS, evalE, evalEs, evalB, evalO, evalI, up_ok, Res.bind_ok, List.getElem?_cons_zero, List.getElem?_cons_succ, List.set_cons_zero, List.set_cons_succ, List.map_cons, List.map_nil, List.cons_append, List.nil_append, Nat.add_one_sub_one, Cn.d, if_true, wipe, bindT, bindTs, binD, arD, mkT, Bool.false_eq_true, if_false, Nat.reduceSub, Option.bind_some, szNil, szOne, szTwo, szThree, szFour, szFive, List.length_nil, List.length_cons])) ⟨_, _, _, _, _, _, rfl⟩ ?_ ?_
    · rintro i st hi ⟨x3, x5, x6, x7, x8, x9, rfl⟩
      refine ⟨_, rfl, ?_⟩
      simp only [List.set_cons_zero, List.set_cons_succ]
      refine wp_else (x := .bl false) (h1 := [.dead]) (ev_or2 (ev_ne (by simp only [execSs, execS, evalE, evalEs, evalB, evalO, evalI, up_ok, Res.bind_ok, List.getElem?_cons_zero, List.getElem?_cons_succ, List.set_cons_zero, List.set_cons_succ, List.map_cons, List.map_nil, List.cons_append, List.nil_append, Nat.add_one_sub_one, Cn.d, if_true, wipe, bindT, bindTs, binD, arD, mkT, Bool.false_eq_true, if_false, Nat.reduceSub, Option.bind_some, szNil, szOne, szTwo, szThree, szFour, szFive, List.length_nil, List.length_cons, e77]) (sumA i x3 x6 x7 x8 x9) rfl) (ev_ne (i := goingZ (cst b) (layN (V i)) (layN (V i)) + goingZ (cst b) (layN (V i)) (layN (V i))) (j := 0) (by simp only [execSs, execS, evalE, evalEs, evalB, evalO, evalI, up_ok, Res.bind_ok, List.getElem?_cons_zero, List.getElem?_cons_succ, List.set_cons_zero, List.set_cons_succ, List.map_cons, List.map_nil, List.cons_append, List.nil_append, Nat.add_one_sub_one, Cn.d, if_true, wipe, bindT, bindTs, binD, arD, mkT, Bool.false_eq_true, if_false, Nat.reduceSub, Option.bind_some, szNil, szOne, szTwo, szThree, szFour, szFive, List.length_nil, List.length_cons, e79]) (by simp only [execSs, execS, evalE, evalEs, evalB, evalO, evalI, up_ok, Res.bind_ok, List.getElem?_cons_zero, List.getElem?_cons_succ, List.set_cons_zero, List.set_cons_succ, List.map_cons, List.map_nil, List.cons_append, List.nil_append, Nat.add_one_sub_one, Cn.d, if_true, wipe, bindT, bindTs, binD, arD, mkT, Bool.false_eq_true, if_false, Nat.reduceSub, Option.bind_some, szNil, szOne, szTwo, szThree, szFour, szFive, List.length_nil, List.length_cons]) (by rw [eq_self]; rfl))) rfl (wp_nil ?_)
      refine wp_for (n := 4) (F := fun k => .tup ((layN (V k)).map .str)) (h1 := [.dead]) (fun _ st => ∃ x3 x6 x7 x8 x9, st = ⟨[some (.scr (ns.map .int)), some (stD S), some (.dct (rm b N4)), x3, some (tab 4 fun k => .tup ((layN (V k)).map .str)), some (.tup ((layN (V i)).map .str)), x6, x7, x8, x9], [.dead]⟩)
        (it_tab (by simp only [execSs, execS, evalE, evalEs, evalB, evalO, evalI, up_ok, Res.bind_ok, List.getElem?_cons_zero, List.getElem?_cons_succ, List.set_cons_zero, List.set_cons_succ, List.map_cons, List.map_nil, List.cons_append, List.nil_append, Nat.add_one_sub_one, Cn.d, if_true, wipe, bindT, bindTs, binD, arD, mkT, Bool.false_eq_true, if_false, Nat.reduceSub, Option.bind_some, szNil, szOne, szTwo, szThree, szFour, szFive, List.length_nil, List.length_cons])) ⟨_, _, _, _, _, rfl⟩ ?_ ?_
      · rintro j st hj ⟨x3, x6, x7, x8, x9, rfl⟩
        refine ⟨_, rfl, ?_⟩
        simp only [List.set_cons_zero, List.set_cons_succ]
        refine wp_set (d := .int (goingZ (cst b) (layN (V i)) (layN (V j)))) (h1 := [.dead]) (sumB i j x3 x7 x8 x9) ?_
        simp only [List.set_cons_zero, List.set_cons_succ]
        refine wp_else (x := .bl false) (h1 := [.dead]) (ev_or2 (ev_ne (by simp only [execSs, execS, evalE, evalEs, evalB, evalO, evalI, up_ok, Res.bind_ok, List.getElem?_cons_zero, List.getElem?_cons_succ, List.set_cons_zero, List.set_cons_succ, List.map_cons, List.map_nil, List.cons_append, List.nil_append, Nat.add_one_sub_one, Cn.d, if_true, wipe, bindT, bindTs, binD, arD, mkT, Bool.false_eq_true, if_false, Nat.reduceSub, Option.bind_some, szNil, szOne, szTwo, szThree, szFour, szFive, List.length_nil, List.length_cons, e78] <;> rfl) (by simp only [execSs, execS, evalE, evalEs, evalB, evalO, evalI, up_ok, Res.bind_ok, List.getElem?_cons_zero, List.getElem?_cons_succ, List.set_cons_zero, List.set_cons_succ, List.map_cons, List.map_nil, List.cons_append, List.nil_append, Nat.add_one_sub_one, Cn.d, if_true, wipe, bindT, bindTs, binD, arD, mkT, Bool.false_eq_true, if_false, Nat.reduceSub, Option.bind_some, szNil, szOne, szTwo, szThree, szFour, szFive, List.length_nil, List.length_cons] <;> rfl) rfl) (ev_ne (by simp only [execSs, execS, evalE, evalEs, evalB, evalO, evalI, up_ok, Res.bind_ok, List.getElem?_cons_zero, List.getElem?_cons_succ, List.set_cons_zero, List.set_cons_succ, List.map_cons, List.map_nil, List.cons_append, List.nil_append, Nat.add_one_sub_one, Cn.d, if_true, wipe, bindT, bindTs, binD, arD, mkT, Bool.false_eq_true, if_false, Nat.reduceSub, Option.bind_some, szNil, szOne, szTwo, szThree, szFour, szFive, List.length_nil, List.length_cons, e79] <;> rfl) (by simp only [execSs, execS, evalE, evalEs, evalB, evalO, evalI, up_ok, Res.bind_ok, List.getElem?_cons_zero, List.getElem?_cons_succ, List.set_cons_zero, List.set_cons_succ, List.map_cons, List.map_nil, List.cons_append, List.nil_append, Nat.add_one_sub_one, Cn.d, if_true, wipe, bindT, bindTs, binD, arD, mkT, Bool.false_eq_true, if_false, Nat.reduceSub, Option.bind_some, szNil, szOne, szTwo, szThree, szFour, szFive, List.length_nil, List.length_cons, e79] <;> rfl) (Int.add_comm _ _))) rfl (wp_nil ?_)
        refine wp_else (x := .bl false) (h1 := [.dead]) (ev_ne (by simp only [execSs, execS, evalE, evalEs, evalB, evalO, evalI, up_ok, Res.bind_ok, List.getElem?_cons_zero, List.getElem?_cons_succ, List.set_cons_zero, List.set_cons_succ, List.map_cons, List.map_nil, List.cons_append, List.nil_append, Nat.add_one_sub_one, Cn.d, if_true, wipe, bindT, bindTs, binD, arD, mkT, Bool.false_eq_true, if_false, Nat.reduceSub, Option.bind_some, szNil, szOne, szTwo, szThree, szFour, szFive, List.length_nil, List.length_cons, e77, mulD, mo2, addD] <;> rfl) (by simp only [execSs, execS, evalE, evalEs, evalB, evalO, evalI, up_ok, Res.bind_ok, List.getElem?_cons_zero, List.getElem?_cons_succ, List.set_cons_zero, List.set_cons_succ, List.map_cons, List.map_nil, List.cons_append, List.nil_append, Nat.add_one_sub_one, Cn.d, if_true, wipe, bindT, bindTs, binD, arD, mkT, Bool.false_eq_true, if_false, Nat.reduceSub, Option.bind_some, szNil, szOne, szTwo, szThree, szFour, szFive, List.length_nil, List.length_cons, e79, e77, addD] <;> rfl) (two (cst b) (V i) (V j))) rfl (wp_nil ?_)
        refine wp_for (n := 4) (F := fun k => .tup ((layN (V k)).map .str)) (h1 := [.dead]) (fun _ st => ∃ x3 x7 x8 x9, st = ⟨[some (.scr (ns.map .int)), some (stD S), some (.dct (rm b N4)), x3, some (tab 4 fun k => .tup ((layN (V k)).map .str)), some (.tup ((layN (V i)).map .str)), some (.tup ((layN (V j)).map .str)), x7, x8, x9], [.dead]⟩)
          (it_tab (by simp only [execSs, execS, evalE, evalEs, evalB, evalO, evalI, up_ok, Res.bind_ok, List.getElem?_cons_zero, List.getElem?_cons_succ, List.set_cons_zero, List.set_cons_succ, List.map_cons, List.map_nil, List.cons_append, List.nil_append, Nat.add_one_sub_one, Cn.d, if_true, wipe, bindT, bindTs, binD, arD, mkT, Bool.false_eq_true, if_false, Nat.reduceSub, Option.bind_some, szNil, szOne, szTwo, szThree, szFour, szFive, List.length_nil, List.length_cons])) ⟨_, _, _, _, rfl⟩ ?_ ?_
        · rintro k st hk ⟨x3, x7, x8, x9, rfl⟩
          refine ⟨_, rfl, ?_⟩
          simp only [List.set_cons_zero, List.set_cons_succ]
          have t := tri cn (V i) (V j) (V k)
          have t2 := decide_eq_false (show ¬ (goingZ (cst b) (layN (V i)) (layN (V j)) + goingZ (cst b) (layN (V j)) (layN (V i))) + (goingZ (cst b) (layN (V j)) (layN (V k)) + goingZ (cst b) (layN (V k)) (layN (V j))) < goingZ (cst b) (layN (V i)) (layN (V k)) + goingZ (cst b) (layN (V k)) (layN (V i)) by omega)
          refine wp_else (x := .bl false) (h1 := [.dead]) (by simp only [execSs, execS, evalE, evalEs, evalB, evalO, evalI, up_ok, Res.bind_ok, List.getElem?_cons_zero, List.getElem?_cons_succ, List.set_cons_zero, List.set_cons_succ, List.map_cons, List.map_nil, List.cons_append, List.nil_append, Nat.add_one_sub_one, Cn.d, if_true, wipe, bindT, bindTs, binD, arD, mkT, Bool.false_eq_true, if_false, Nat.reduceSub, Option.bind_some, szNil, szOne, szTwo, szThree, szFour, szFive, List.length_nil, List.length_cons, e79, addD, gt_int, t2]) rfl (wp_nil (wp_nil ⟨.inl rfl, _, _, _, _, rfl⟩))
        · rintro st ⟨x3, x7, x8, x9, rfl⟩
          exact wp_nil ⟨.inl rfl, _, _, _, _, _, rfl⟩
      · rintro st ⟨x3, x6, x7, x8, x9, rfl⟩
        exact wp_nil ⟨.inl rfl, _, _, _, _, _, _, rfl⟩
    · rintro st ⟨x3, x5, x6, x7, x8, x9, rfl⟩
      exact wp_ret (d := .bl true) (h1 := [.dead]) (by simp only [execSs, execS, evalE, evalEs, evalB, evalO, evalI, up_ok, Res.bind_ok, List.getElem?_cons_zero, List.getElem?_cons_succ, List.set_cons_zero, List.set_cons_succ, List.map_cons, List.map_nil, List.cons_append, List.nil_append, Nat.add_one_sub_one, Cn.d, if_true, wipe, bindT, bindTs, binD, arD, mkT, Bool.false_eq_true, if_false, Nat.reduceSub, Option.bind_some, szNil, szOne, szTwo, szThree, szFour, szFive, List.length_nil, List.length_cons]) ⟨_, rfl, rsv9 rfl⟩
  obtain ⟨f, s, e, d, q, r⟩ := run
  exact ⟨[], call_run f192 rfl rfl (by simp only [nrs, nr, nrs_ints, Bool.and_self]) ⟨f, s, e, d, q, r⟩⟩
end K42
namespace K42
open PySem PySem.Spec PyProof.Rows L2 R
def cf : Cf := ⟨[some ("value_key" : Str), some ("row_key" : Str), none, none, none, none, none, none, none, none, none, none, none, none, none, none, none, none, none, none, none, none, none, none, none, none, none, none, none, none, none, none, none, none, none, none, none, none, none, none, none, none, none, none, none, none, none, none, none, none, none, none, none, none, none, none, none, none, none, none, none, none, none, none, none, none, none, none, none, none, none, none, none, none, none, none, some ("laying" : Str), some ("stands" : Str), some ("going" : Str), some ("way" : Str), none, none, none, none, none, none, none, none, none, none, none, none, none, none, none, none, none, none, none, none, none, none, none, none, none, none, none, none, none, none, none, none, none, none, none, none, none, none, none, none, none, none, none, none, none, none, none, none, none, none, none, none, none, none, none, none, none, none, none, none, none, none, none, none, none, none, none, none, none, none, none, none, none, none, none, none, none, none, none, none, none, none, none, none, none, none, none, none, none, none, none, none, none, none, none, none, none, none, none, none, none, none, none, none, none, none, none, none, some ("_law_draw" : Str), some ("_law_value" : Str), some ("_law_state" : Str), some ("_law_layout" : Str), some ("law" : Str)], [some ("State" : Str)], [("_put" : Str), ("_take" : Str), ("_order_facts" : Str), ("all_items" : Str), ("has" : Str), ("copy" : Str), ("change" : Str), ("same_schema" : Str), ("read_byte" : Str), ("read_choice" : Str), ("end" : Str), ("read_number" : Str), ("read_integer" : Str), ("read_count" : Str), ("read_character" : Str), ("read_string" : Str), ("read_names" : Str), ("read_value" : Str), ("read_row" : Str), ("read_item" : Str), ("read_change" : Str), ("read_changes" : Str), ("read_image" : Str), ("going" : Str), ("serve" : Str), ("hindsight" : Str), ("paper" : Str), ("new_turn" : Str), ("write_all" : Str), ("write_new" : Str), ("can_hold" : Str), ("fits" : Str), ("commit" : Str), ("go_back" : Str), ("take" : Str), ("_run" : Str), ("own" : Str), ("say" : Str), ("savepoint" : Str), ("rollback_to" : Str), ("again" : Str), ("all_calls" : Str), ("check_open" : Str), ("state" : Str), ("_shape" : Str), ("_write" : Str), ("_whole" : Str), ("_write_all" : Str), ("_begin_phase" : Str), ("_move" : Str), ("_serve" : Str), ("_restart" : Str), ("read_call" : Str), ("commit_call" : Str), ("_commit_schema" : Str), ("session" : Str), ("status" : Str), ("run" : Str), ("begin" : Str), ("_open_words" : Str), ("rollback" : Str), ("size" : Str), ("read" : Str), ("pending" : Str), ("counts" : Str), ("note_reads" : Str), ("lose_power" : Str), ("operate" : Str), ("write" : Str), ("sync" : Str), ("fail_after" : Str), ("power" : Str), ("is_on" : Str), ("losses" : Str)], [("relations" : Str), ("facts" : Str), ("structures" : Str), ("layouts" : Str)], []⟩
def top (i : Nat) : Stmt := PySem.Challenge.pw_turnshelves_k42_ways_between_layouts.main.body.getD i (.Pass ⟨0, 0, 0, 0⟩)
abbrev s_value_key : Stmt := top 2
theorem sc_value_key : FnScope ["value"] ["value"] (defScope s_value_key) := ⟨rfl, rfl, rfl, by decide +kernel, rfl, by decide +kernel, by decide +kernel⟩
theorem m_value_key : mSs pg cf ["value"] (defScope s_value_key) (fun _ => true) PT.d_value_key.body (defBody s_value_key) = true := by decide +kernel
abbrev s_row_key : Stmt := top 3
theorem sc_row_key : FnScope ["row", "parts", "value"] ["row"] (defScope s_row_key) := ⟨rfl, rfl, rfl, by decide +kernel, rfl, by decide +kernel, by decide +kernel⟩
theorem m_row_key : mSs pg cf ["row", "parts", "value"] (defScope s_row_key) (fun _ => true) PT.d_row_key.body (defBody s_row_key) = true := by decide +kernel
abbrev s_State___init__ : Stmt := inClass (top 5) 0
theorem sc_State___init__ : FnScope ["self", "items", "item"] ["self", "items"] (defScope s_State___init__) := ⟨rfl, rfl, rfl, by decide +kernel, rfl, by decide +kernel, by decide +kernel⟩
theorem m_State___init__ : mSs pg cf ["self", "items", "item"] (defScope s_State___init__) (fun _ => true) PT.d_State___init__.body (defBody s_State___init__) = true := by decide +kernel
abbrev s_State__put : Stmt := inClass (top 5) 1
theorem sc_State__put : FnScope ["self", "item", "sort", "name"] ["self", "item"] (defScope s_State__put) := ⟨rfl, rfl, rfl, by decide +kernel, rfl, by decide +kernel, by decide +kernel⟩
theorem m_State__put : mSs pg cf ["self", "item", "sort", "name"] (defScope s_State__put) (fun _ => true) PT.d_State__put.body (defBody s_State__put) = true := by decide +kernel
abbrev s_State__order_facts : Stmt := inClass (top 5) 3
theorem sc_State__order_facts : FnScope ["self", "kept", "name"] ["self"] (defScope s_State__order_facts) := ⟨rfl, rfl, rfl, by decide +kernel, rfl, by decide +kernel, by decide +kernel⟩
theorem m_State__order_facts : mSs pg cf ["self", "kept", "name"] (defScope s_State__order_facts) (fun _ => true) PT.d_State__order_facts.body (defBody s_State__order_facts) = true := by decide +kernel
abbrev s_State_has : Stmt := inClass (top 5) 5
theorem sc_State_has : FnScope ["self", "relation", "row"] ["self", "relation", "row"] (defScope s_State_has) := ⟨rfl, rfl, rfl, by decide +kernel, rfl, by decide +kernel, by decide +kernel⟩
theorem m_State_has : mSs pg cf ["self", "relation", "row"] (defScope s_State_has) (fun _ => true) PT.d_State_has.body (defBody s_State_has) = true := by decide +kernel
abbrev s_laying : Stmt := top 7
theorem sc_laying : FnScope ["state", "structure", "relation", "_", "buckets", "sectors"] ["state", "structure"] (defScope s_laying) := ⟨rfl, rfl, rfl, by decide +kernel, rfl, by decide +kernel, by decide +kernel⟩
theorem m_laying : mSs pg cf ["state", "structure", "relation", "_", "buckets", "sectors"] (defScope s_laying) (fun _ => true) PT.d_laying.body (defBody s_laying) = true := by decide +kernel
abbrev s_stands : Stmt := top 8
theorem sc_stands : FnScope ["state", "layout", "name"] ["state", "layout"] (defScope s_stands) := ⟨rfl, rfl, rfl, by decide +kernel, rfl, by decide +kernel, by decide +kernel⟩
theorem m_stands : mSs pg cf ["state", "layout", "name"] (defScope s_stands) (fun _ => true) PT.d_stands.body (defBody s_stands) = true := by decide +kernel
abbrev s_going : Stmt := top 9
theorem sc_going : FnScope ["state", "first", "second", "name"] ["state", "first", "second"] (defScope s_going) := ⟨rfl, rfl, rfl, by decide +kernel, rfl, by decide +kernel, by decide +kernel⟩
theorem m_going : mSs pg cf ["state", "first", "second", "name"] (defScope s_going) (fun _ => true) PT.d_going.body (defBody s_going) = true := by decide +kernel
abbrev s_way : Stmt := top 10
theorem sc_way : FnScope ["state", "first", "second"] ["state", "first", "second"] (defScope s_way) := ⟨rfl, rfl, rfl, by decide +kernel, rfl, by decide +kernel, by decide +kernel⟩
theorem m_way : mSs pg cf ["state", "first", "second"] (defScope s_way) (fun _ => true) PT.d_way.body (defBody s_way) = true := by decide +kernel
abbrev s__law_draw : Stmt := top 12
theorem sc__law_draw : FnScope ["_law_script", "_law_k", "_law_cell", "_law_turn", "_law_step"] ["_law_script", "_law_k"] (defScope s__law_draw) := ⟨rfl, rfl, rfl, by decide +kernel, rfl, by decide +kernel, by decide +kernel⟩
theorem m__law_draw : mSs pg cf ["_law_script", "_law_k", "_law_cell", "_law_turn", "_law_step"] (defScope s__law_draw) (fun _ => true) d__law_draw.body (defBody s__law_draw) = true := by decide +kernel
abbrev s__law_value : Stmt := top 13
theorem sc__law_value : FnScope ["_law_number"] ["_law_number"] (defScope s__law_value) := ⟨rfl, rfl, rfl, by decide +kernel, rfl, by decide +kernel, by decide +kernel⟩
theorem m__law_value : mSs pg cf ["_law_number"] (defScope s__law_value) (fun _ => true) d__law_value.body (defBody s__law_value) = true := by decide +kernel
abbrev s__law_state : Stmt := top 14
theorem sc__law_state : FnScope ["_law_script", "_law_start", "_law_items", "_law_k", "_law_buckets", "_law_layouts", "_law_number"] ["_law_script", "_law_start"] (defScope s__law_state) := ⟨rfl, rfl, rfl, by decide +kernel, rfl, by decide +kernel, by decide +kernel⟩
theorem m__law_state : mSs pg cf ["_law_script", "_law_start", "_law_items", "_law_k", "_law_buckets", "_law_layouts", "_law_number"] (defScope s__law_state) (fun _ => true) d__law_state.body (defBody s__law_state) = true := by decide +kernel
abbrev s__law_layout : Stmt := top 16
theorem sc__law_layout : FnScope ["_law_number", "_law_names", "_law_name"] ["_law_number"] (defScope s__law_layout) := ⟨rfl, rfl, rfl, by decide +kernel, rfl, by decide +kernel, by decide +kernel⟩
theorem m__law_layout : mSs pg cf ["_law_number", "_law_names", "_law_name"] (defScope s__law_layout) (fun _ => true) d__law_layout.body (defBody s__law_layout) = true := by decide +kernel
abbrev s_law : Stmt := top 17
theorem sc_law : FnScope ["_law_script", "_law_state_here", "_law_rooms", "_law_name", "_law_layouts", "_law_x", "_law_y", "_law_k", "_law_due", "_law_z"] ["_law_script"] (defScope s_law) := ⟨rfl, rfl, rfl, by decide +kernel, rfl, by decide +kernel, by decide +kernel⟩
theorem m_law : mSs pg cf ["_law_script", "_law_state_here", "_law_rooms", "_law_name", "_law_layouts", "_law_x", "_law_y", "_law_k", "_law_due", "_law_z"] (defScope s_law) (fun _ => true) d_law.body (defBody s_law) = true := by decide +kernel
theorem all_mk {K : PySem.W.Frag} {h : Heap} {mg : Str → Option Value} {fa C0 f0 f1 f4 f5 f7 f9 f76 f77 f78 f79 f188 f189 f190 f191 f192 : Addr} (X : K.In h) (G : h.Ns mainGlobals mg) (hfa : mg "law" = some (.ref fa)) {od0 an0 od1 an1 od4 an4 od5 an5 od7 an7 od9 an9 od76 an76 od77 an77 od78 an78 od79 an79 od188 an188 od189 an189 od190 an190 od191 an191 od192 an192 : Option Addr} {sl0 sl1 sl4 sl5 sl7 sl9 sl76 sl77 sl78 sl79 sl188 sl189 sl190 sl191 sl192 : Array (Option Value)} {oc0 kV0 dc0 pm0 cd0 ct0 oc1 kV1 dc1 pm1 cd1 ct1 oc4 kV4 dc4 pm4 cd4 ct4 oc5 kV5 dc5 pm5 cd5 ct5 oc7 kV7 dc7 pm7 cd7 ct7 oc9 kV9 dc9 pm9 cd9 ct9 oc76 kV76 dc76 pm76 cd76 ct76 oc77 kV77 dc77 pm77 cd77 ct77 oc78 kV78 dc78 pm78 cd78 ct78 oc79 kV79 dc79 pm79 cd79 ct79 oc188 kV188 dc188 pm188 cd188 ct188 oc189 kV189 dc189 pm189 cd189 ct189 oc190 kV190 dc190 pm190 cd190 ct190 oc191 kV191 dc191 pm191 cd191 ct191 oc192 kV192 dc192 pm192 cd192 ct192 : Value}  {td4 te4 : Addr} {tn4 : Nat} {tc4 : Value} {tq4 : Option Addr} {ts4 : Array (Option Value)}
    (aC0 : PySem.W.nsIn K mainGlobals "State" = some (some (.ref C0)))
    (pg0 : PySem.W.plainGet K C0 Str.empty = true)
    (hd0 : PySem.W.hasDictIn K C0 = true)
    (po0 : PySem.W.plainOver K C0 = true)
    (sa0 : PySem.W.findIn K (.ref C0) "__setattr__" = some (some (.builtin "object.__setattr__")))
    (mk0 : PySem.W.makesIn K C0 = true)
    (kc0 : PySem.W.keepIn K (.ref C0) = true)
    (n0_0 : PySem.W.findIn K (.ref C0) "relations" = some none)
    (n0_1 : PySem.W.findIn K (.ref C0) "facts" = some none)
    (n0_2 : PySem.W.findIn K (.ref C0) "structures" = some none)
    (n0_3 : PySem.W.findIn K (.ref C0) "layouts" = some none)
    (a0 : PySem.W.nsIn K mainGlobals "value_key" = some (some (.ref f0)))
    (l0 : K.lookup f0 = some ⟨oc0, od0, .func (PySem.W.fnOf "value_key" "value_key" (defArgs s_value_key) (defBody s_value_key) (defScope s_value_key) .none kV0 dc0 pm0 an0 cd0 ct0), sl0⟩)
    (c0 : PySem.W.codeIn K cd0 "value_key" = true)
    (k0 : PySem.W.keepIn K (.ref f0) = true)
    (a1 : PySem.W.nsIn K mainGlobals "row_key" = some (some (.ref f1)))
    (l1 : K.lookup f1 = some ⟨oc1, od1, .func (PySem.W.fnOf "row_key" "row_key" (defArgs s_row_key) (defBody s_row_key) (defScope s_row_key) .none kV1 dc1 pm1 an1 cd1 ct1), sl1⟩)
    (c1 : PySem.W.codeIn K cd1 "row_key" = true)
    (k1 : PySem.W.keepIn K (.ref f1) = true)
    (a4 : PySem.W.findIn K (.ref C0) "__init__" = some (some (.ref f4)))
    (i4 : PySem.W.isFn K (.ref f4) = true)
    (t4 : K.lookup td4 = some ⟨tc4, tq4, .seq #[.ref te4] tn4, ts4⟩)
    (l4 : K.lookup f4 = some ⟨oc4, od4, .func (PySem.W.fnOf "__init__" "State.__init__" (defArgs s_State___init__) (defBody s_State___init__) (defScope s_State___init__) (.ref td4) kV4 dc4 pm4 an4 cd4 ct4), sl4⟩)
    (c4 : PySem.W.codeIn K cd4 "State.__init__" = true)
    (k4 : PySem.W.keepIn K (.ref f4) = true)
    (a5 : PySem.W.findIn K (.ref C0) "_put" = some (some (.ref f5)))
    (i5 : PySem.W.isFn K (.ref f5) = true)
    (l5 : K.lookup f5 = some ⟨oc5, od5, .func (PySem.W.fnOf "_put" "State._put" (defArgs s_State__put) (defBody s_State__put) (defScope s_State__put) .none kV5 dc5 pm5 an5 cd5 ct5), sl5⟩)
    (c5 : PySem.W.codeIn K cd5 "State._put" = true)
    (k5 : PySem.W.keepIn K (.ref f5) = true)
    (a7 : PySem.W.findIn K (.ref C0) "_order_facts" = some (some (.ref f7)))
    (i7 : PySem.W.isFn K (.ref f7) = true)
    (l7 : K.lookup f7 = some ⟨oc7, od7, .func (PySem.W.fnOf "_order_facts" "State._order_facts" (defArgs s_State__order_facts) (defBody s_State__order_facts) (defScope s_State__order_facts) .none kV7 dc7 pm7 an7 cd7 ct7), sl7⟩)
    (c7 : PySem.W.codeIn K cd7 "State._order_facts" = true)
    (k7 : PySem.W.keepIn K (.ref f7) = true)
    (a9 : PySem.W.findIn K (.ref C0) "has" = some (some (.ref f9)))
    (i9 : PySem.W.isFn K (.ref f9) = true)
    (l9 : K.lookup f9 = some ⟨oc9, od9, .func (PySem.W.fnOf "has" "State.has" (defArgs s_State_has) (defBody s_State_has) (defScope s_State_has) .none kV9 dc9 pm9 an9 cd9 ct9), sl9⟩)
    (c9 : PySem.W.codeIn K cd9 "State.has" = true)
    (k9 : PySem.W.keepIn K (.ref f9) = true)
    (a76 : PySem.W.nsIn K mainGlobals "laying" = some (some (.ref f76)))
    (l76 : K.lookup f76 = some ⟨oc76, od76, .func (PySem.W.fnOf "laying" "laying" (defArgs s_laying) (defBody s_laying) (defScope s_laying) .none kV76 dc76 pm76 an76 cd76 ct76), sl76⟩)
    (c76 : PySem.W.codeIn K cd76 "laying" = true)
    (k76 : PySem.W.keepIn K (.ref f76) = true)
    (a77 : PySem.W.nsIn K mainGlobals "stands" = some (some (.ref f77)))
    (l77 : K.lookup f77 = some ⟨oc77, od77, .func (PySem.W.fnOf "stands" "stands" (defArgs s_stands) (defBody s_stands) (defScope s_stands) .none kV77 dc77 pm77 an77 cd77 ct77), sl77⟩)
    (c77 : PySem.W.codeIn K cd77 "stands" = true)
    (k77 : PySem.W.keepIn K (.ref f77) = true)
    (a78 : PySem.W.nsIn K mainGlobals "going" = some (some (.ref f78)))
    (l78 : K.lookup f78 = some ⟨oc78, od78, .func (PySem.W.fnOf "going" "going" (defArgs s_going) (defBody s_going) (defScope s_going) .none kV78 dc78 pm78 an78 cd78 ct78), sl78⟩)
    (c78 : PySem.W.codeIn K cd78 "going" = true)
    (k78 : PySem.W.keepIn K (.ref f78) = true)
    (a79 : PySem.W.nsIn K mainGlobals "way" = some (some (.ref f79)))
    (l79 : K.lookup f79 = some ⟨oc79, od79, .func (PySem.W.fnOf "way" "way" (defArgs s_way) (defBody s_way) (defScope s_way) .none kV79 dc79 pm79 an79 cd79 ct79), sl79⟩)
    (c79 : PySem.W.codeIn K cd79 "way" = true)
    (k79 : PySem.W.keepIn K (.ref f79) = true)
    (a188 : PySem.W.nsIn K mainGlobals "_law_draw" = some (some (.ref f188)))
    (l188 : K.lookup f188 = some ⟨oc188, od188, .func (PySem.W.fnOf "_law_draw" "_law_draw" (defArgs s__law_draw) (defBody s__law_draw) (defScope s__law_draw) .none kV188 dc188 pm188 an188 cd188 ct188), sl188⟩)
    (c188 : PySem.W.codeIn K cd188 "_law_draw" = true)
    (k188 : PySem.W.keepIn K (.ref f188) = true)
    (a189 : PySem.W.nsIn K mainGlobals "_law_value" = some (some (.ref f189)))
    (l189 : K.lookup f189 = some ⟨oc189, od189, .func (PySem.W.fnOf "_law_value" "_law_value" (defArgs s__law_value) (defBody s__law_value) (defScope s__law_value) .none kV189 dc189 pm189 an189 cd189 ct189), sl189⟩)
    (c189 : PySem.W.codeIn K cd189 "_law_value" = true)
    (k189 : PySem.W.keepIn K (.ref f189) = true)
    (a190 : PySem.W.nsIn K mainGlobals "_law_state" = some (some (.ref f190)))
    (l190 : K.lookup f190 = some ⟨oc190, od190, .func (PySem.W.fnOf "_law_state" "_law_state" (defArgs s__law_state) (defBody s__law_state) (defScope s__law_state) .none kV190 dc190 pm190 an190 cd190 ct190), sl190⟩)
    (c190 : PySem.W.codeIn K cd190 "_law_state" = true)
    (k190 : PySem.W.keepIn K (.ref f190) = true)
    (a191 : PySem.W.nsIn K mainGlobals "_law_layout" = some (some (.ref f191)))
    (l191 : K.lookup f191 = some ⟨oc191, od191, .func (PySem.W.fnOf "_law_layout" "_law_layout" (defArgs s__law_layout) (defBody s__law_layout) (defScope s__law_layout) .none kV191 dc191 pm191 an191 cd191 ct191), sl191⟩)
    (c191 : PySem.W.codeIn K cd191 "_law_layout" = true)
    (k191 : PySem.W.keepIn K (.ref f191) = true)
    (a192 : PySem.W.nsIn K mainGlobals "law" = some (some (.ref f192)))
    (l192 : K.lookup f192 = some ⟨oc192, od192, .func (PySem.W.fnOf "law" "law" (defArgs s_law) (defBody s_law) (defScope s_law) .none kV192 dc192 pm192 an192 cd192 ct192), sl192⟩)
    (c192 : PySem.W.codeIn K cd192 "law" = true)
    (k192 : PySem.W.keepIn K (.ref f192) = true)
    (z0 : PySem.W.nsIn K mainGlobals "len" = some none)
    (z1 : PySem.W.nsIn K mainGlobals "int" = some none)
    (z2 : PySem.W.nsIn K mainGlobals "abs" = some none)
    (z3 : PySem.W.nsIn K mainGlobals "min" = some none)
    (z4 : PySem.W.nsIn K mainGlobals "max" = some none)
    (z5 : PySem.W.nsIn K mainGlobals "sum" = some none)
    (z6 : PySem.W.nsIn K mainGlobals "list" = some none)
    (z7 : PySem.W.nsIn K mainGlobals "tuple" = some none)
    (z8 : PySem.W.nsIn K mainGlobals "str" = some none)
    (z9 : PySem.W.nsIn K mainGlobals "ord" = some none)
    (z10 : PySem.W.nsIn K mainGlobals "repr" = some none)
    (z11 : PySem.W.nsIn K mainGlobals "range" = some none)
    (z12 : PySem.W.nsIn K mainGlobals "zip" = some none)
    (z13 : PySem.W.nsIn K mainGlobals "enumerate" = some none)
    (z14 : PySem.W.nsIn K mainGlobals "isinstance" = some none)
    (z15 : PySem.W.nsIn K mainGlobals "bool" = some none)
    (z16 : PySem.W.nsIn K mainGlobals "any" = some none)
    (z17 : PySem.W.nsIn K mainGlobals "sorted" = some none)
    : ∃ (fd : FuncData) (cad : Nat → Addr), (∀ (s : Shared) (u : Value), BindsTo s fd ⟨[u], []⟩ [("_law_script", u)]) ∧ DefX pg cf K 192 fa fd ["_law_script"] ∧ RowOk K mg pg cf cad := by
  have e := hfa.symm.trans (PySem.W.mg_of X G a192)
  cases e
  have F0 := fun_mk (st := s_value_key) l0 c0 k0
  have D0 : DefX pg cf K 0 f0 _ ["value"] := ⟨⟨PT.d_value_key, _, _, s_value_key, _, rfl, .inl F0, sc_value_key, rfl, rfl, m_value_key⟩, F0.binds (ps := ["value"]) fun _ _ _ _ _ _ us hl => match us, hl with | [_], _ => rfl⟩
  have F1 := fun_mk (st := s_row_key) l1 c1 k1
  have D1 : DefX pg cf K 1 f1 _ ["row"] := ⟨⟨PT.d_row_key, _, _, s_row_key, _, rfl, .inl F1, sc_row_key, rfl, rfl, m_row_key⟩, F1.binds (ps := ["row"]) fun _ _ _ _ _ _ us hl => match us, hl with | [_], _ => rfl⟩
  have F4 : FunD K "__init__" "State.__init__" (defArgs s_State___init__) (defBody s_State___init__) (defScope s_State___init__) [.ref te4] [] f4 _ := ⟨⟨_, _, _, _, _, _, _, _, _, _, rfl, l4, c4, .inr ⟨by simp, _, _, [.ref te4], _, rfl, t4, rfl, .cons rfl .nil⟩, .inl rfl⟩, k4⟩
  have B4 := F4.binds1 (ps := ["self", "items"]) 2 1 (by simp) rfl fun _ _ _ _ _ _ _ us its hl1 hl2 => match us, its, hl1, hl2 with | [_, _], [_], _, _ => ⟨_, rfl, rfl⟩
  have D4 : DefX pg cf K 4 f4 _ ["self", "items"] := ⟨⟨PT.d_State___init__, _, _, s_State___init__, _, rfl, .inr ⟨_, _, F4⟩, sc_State___init__, rfl, rfl, m_State___init__⟩, by obtain ⟨ds, hv, hb⟩ := B4; cases hv; exact hb⟩
  have F5 := fun_mk (st := s_State__put) l5 c5 k5
  have D5 : DefX pg cf K 5 f5 _ ["self", "item"] := ⟨⟨PT.d_State__put, _, _, s_State__put, _, rfl, .inl F5, sc_State__put, rfl, rfl, m_State__put⟩, F5.binds (ps := ["self", "item"]) fun _ _ _ _ _ _ us hl => match us, hl with | [_, _], _ => rfl⟩
  have F7 := fun_mk (st := s_State__order_facts) l7 c7 k7
  have D7 : DefX pg cf K 7 f7 _ ["self"] := ⟨⟨PT.d_State__order_facts, _, _, s_State__order_facts, _, rfl, .inl F7, sc_State__order_facts, rfl, rfl, m_State__order_facts⟩, F7.binds (ps := ["self"]) fun _ _ _ _ _ _ us hl => match us, hl with | [_], _ => rfl⟩
  have F9 := fun_mk (st := s_State_has) l9 c9 k9
  have D9 : DefX pg cf K 9 f9 _ ["self", "relation", "row"] := ⟨⟨PT.d_State_has, _, _, s_State_has, _, rfl, .inl F9, sc_State_has, rfl, rfl, m_State_has⟩, F9.binds (ps := ["self", "relation", "row"]) fun _ _ _ _ _ _ us hl => match us, hl with | [_, _, _], _ => rfl⟩
  have F76 := fun_mk (st := s_laying) l76 c76 k76
  have D76 : DefX pg cf K 76 f76 _ ["state", "structure"] := ⟨⟨PT.d_laying, _, _, s_laying, _, rfl, .inl F76, sc_laying, rfl, rfl, m_laying⟩, F76.binds (ps := ["state", "structure"]) fun _ _ _ _ _ _ us hl => match us, hl with | [_, _], _ => rfl⟩
  have F77 := fun_mk (st := s_stands) l77 c77 k77
  have D77 : DefX pg cf K 77 f77 _ ["state", "layout"] := ⟨⟨PT.d_stands, _, _, s_stands, _, rfl, .inl F77, sc_stands, rfl, rfl, m_stands⟩, F77.binds (ps := ["state", "layout"]) fun _ _ _ _ _ _ us hl => match us, hl with | [_, _], _ => rfl⟩
  have F78 := fun_mk (st := s_going) l78 c78 k78
  have D78 : DefX pg cf K 78 f78 _ ["state", "first", "second"] := ⟨⟨PT.d_going, _, _, s_going, _, rfl, .inl F78, sc_going, rfl, rfl, m_going⟩, F78.binds (ps := ["state", "first", "second"]) fun _ _ _ _ _ _ us hl => match us, hl with | [_, _, _], _ => rfl⟩
  have F79 := fun_mk (st := s_way) l79 c79 k79
  have D79 : DefX pg cf K 79 f79 _ ["state", "first", "second"] := ⟨⟨PT.d_way, _, _, s_way, _, rfl, .inl F79, sc_way, rfl, rfl, m_way⟩, F79.binds (ps := ["state", "first", "second"]) fun _ _ _ _ _ _ us hl => match us, hl with | [_, _, _], _ => rfl⟩
  have F188 := fun_mk (st := s__law_draw) l188 c188 k188
  have D188 : DefX pg cf K 188 f188 _ ["_law_script", "_law_k"] := ⟨⟨d__law_draw, _, _, s__law_draw, _, rfl, .inl F188, sc__law_draw, rfl, rfl, m__law_draw⟩, F188.binds (ps := ["_law_script", "_law_k"]) fun _ _ _ _ _ _ us hl => match us, hl with | [_, _], _ => rfl⟩
  have F189 := fun_mk (st := s__law_value) l189 c189 k189
  have D189 : DefX pg cf K 189 f189 _ ["_law_number"] := ⟨⟨d__law_value, _, _, s__law_value, _, rfl, .inl F189, sc__law_value, rfl, rfl, m__law_value⟩, F189.binds (ps := ["_law_number"]) fun _ _ _ _ _ _ us hl => match us, hl with | [_], _ => rfl⟩
  have F190 := fun_mk (st := s__law_state) l190 c190 k190
  have D190 : DefX pg cf K 190 f190 _ ["_law_script", "_law_start"] := ⟨⟨d__law_state, _, _, s__law_state, _, rfl, .inl F190, sc__law_state, rfl, rfl, m__law_state⟩, F190.binds (ps := ["_law_script", "_law_start"]) fun _ _ _ _ _ _ us hl => match us, hl with | [_, _], _ => rfl⟩
  have F191 := fun_mk (st := s__law_layout) l191 c191 k191
  have D191 : DefX pg cf K 191 f191 _ ["_law_number"] := ⟨⟨d__law_layout, _, _, s__law_layout, _, rfl, .inl F191, sc__law_layout, rfl, rfl, m__law_layout⟩, F191.binds (ps := ["_law_number"]) fun _ _ _ _ _ _ us hl => match us, hl with | [_], _ => rfl⟩
  have F192 := fun_mk (st := s_law) l192 c192 k192
  have D192 : DefX pg cf K 192 fa _ ["_law_script"] := ⟨⟨d_law, _, _, s_law, _, rfl, .inl F192, sc_law, rfl, rfl, m_law⟩, F192.binds (ps := ["_law_script"]) fun _ _ _ _ _ _ us hl => match us, hl with | [_], _ => rfl⟩
  refine ⟨_, fun i => ([C0]).getD i 0, fun s v => ?_, D192, ⟨by decide +kernel, by decide +kernel, by decide +kernel, by decide +kernel, ?_, ?_, ?_, ?_⟩⟩
  · exact .of_eq rfl
  · exact ⟨PySem.W.mg_none_of X G z0, PySem.W.mg_none_of X G z1, PySem.W.mg_none_of X G z2, PySem.W.mg_none_of X G z3, PySem.W.mg_none_of X G z4, PySem.W.mg_none_of X G z5, PySem.W.mg_none_of X G z6, PySem.W.mg_none_of X G z7, PySem.W.mg_none_of X G z8, PySem.W.mg_none_of X G z9, PySem.W.mg_none_of X G z10, PySem.W.mg_none_of X G z11, PySem.W.mg_none_of X G z12, PySem.W.mg_none_of X G z13, PySem.W.mg_none_of X G z14, PySem.W.mg_none_of X G z15, PySem.W.mg_none_of X G z16, PySem.W.mg_none_of X G z17, trivial⟩
  · exact ⟨⟨_, PySem.W.mg_of X G a0, k0, _, _, D0⟩, ⟨_, PySem.W.mg_of X G a1, k1, _, _, D1⟩, ⟨_, PySem.W.mg_of X G a76, k76, _, _, D76⟩, ⟨_, PySem.W.mg_of X G a77, k77, _, _, D77⟩, ⟨_, PySem.W.mg_of X G a78, k78, _, _, D78⟩, ⟨_, PySem.W.mg_of X G a79, k79, _, _, D79⟩, ⟨_, PySem.W.mg_of X G a188, k188, _, _, D188⟩, ⟨_, PySem.W.mg_of X G a189, k189, _, _, D189⟩, ⟨_, PySem.W.mg_of X G a190, k190, _, _, D190⟩, ⟨_, PySem.W.mg_of X G a191, k191, _, _, D191⟩, ⟨_, PySem.W.mg_of X G a192, k192, _, _, D192⟩, trivial⟩
  · exact ⟨⟨⟨pg0, hd0, po0, sa0⟩, ⟨n0_0, n0_1, n0_2, n0_3, trivial⟩, ⟨⟨_, ⟨a5, i5, k5⟩, _, _, D5⟩, ⟨_, ⟨a7, i7, k7⟩, _, _, D7⟩, ⟨_, ⟨a9, i9, k9⟩, _, _, D9⟩, trivial⟩, fun _ e => by cases e; exact ⟨_, PySem.W.mg_of X G aC0, ⟨mk0, a4, i4, kc0⟩, _, _, D4⟩⟩, trivial⟩
  · exact trivial
end K42

open PySem PySem.W PyProof.Rows in
set_option maxRecDepth 100000 in
set_option maxHeartbeats 0 in
theorem PySem.Challenge.cw_turnshelves_k42_ways_between_layouts_holds : PySem.Challenge.rw_turnshelves_k42_ways_between_layouts.Holds := by
  w_on; o_law; k_head; (case hw => w_witness2)
  k_fill
  refine R.law_walk (l := PySem.Challenge.rw_turnshelves_k42_ways_between_layouts) (p := K42.pg) (cf := K42.cf) (n := 12) (f := 192) (x := "_law_script") ⟨rfl, by decide, by decide⟩ K42.law_runs rfl rfl (fun w h Y => PySem.W.kIn_of Y) ?F
  case F =>
    intro w mg fa h KX G hmg
    refine' K42.all_mk KX G hmg ?aC0 ?pg0 ?hd0 ?po0 ?sa0 ?mk0 ?kc0 ?n0_0 ?n0_1 ?n0_2 ?n0_3 ?a0 ?l0 ?c0 ?k0 ?a1 ?l1 ?c1 ?k1 ?a4 ?i4 ?t4 ?l4 ?c4 ?k4 ?a5 ?i5 ?l5 ?c5 ?k5 ?a7 ?i7 ?l7 ?c7 ?k7 ?a9 ?i9 ?l9 ?c9 ?k9 ?a76 ?l76 ?c76 ?k76 ?a77 ?l77 ?c77 ?k77 ?a78 ?l78 ?c78 ?k78 ?a79 ?l79 ?c79 ?k79 ?a188 ?l188 ?c188 ?k188 ?a189 ?l189 ?c189 ?k189 ?a190 ?l190 ?c190 ?k190 ?a191 ?l191 ?c191 ?k191 ?a192 ?l192 ?c192 ?k192 ?z0 ?z1 ?z2 ?z3 ?z4 ?z5 ?z6 ?z7 ?z8 ?z9 ?z10 ?z11 ?z12 ?z13 ?z14 ?z15 ?z16 ?z17
    (case aC0 => k_is)
    (case pg0 => k_is)
    (case hd0 => k_is)
    (case po0 => k_is)
    (case sa0 => k_is)
    (case mk0 => k_is)
    (case kc0 => k_is)
    (case n0_0 => k_is)
    (case n0_1 => k_is)
    (case n0_2 => k_is)
    (case n0_3 => k_is)
    (case a0 => k_is)
    (case l0 => k_is)
    (case c0 => k_is)
    (case k0 => k_is)
    (case a1 => k_is)
    (case l1 => k_is)
    (case c1 => k_is)
    (case k1 => k_is)
    (case a4 => k_is)
    (case i4 => k_is)
    (case l4 => k_is)
    (case t4 => k_is)
    (case c4 => k_is)
    (case k4 => k_is)
    (case a5 => k_is)
    (case i5 => k_is)
    (case l5 => k_is)
    (case c5 => k_is)
    (case k5 => k_is)
    (case a7 => k_is)
    (case i7 => k_is)
    (case l7 => k_is)
    (case c7 => k_is)
    (case k7 => k_is)
    (case a9 => k_is)
    (case i9 => k_is)
    (case l9 => k_is)
    (case c9 => k_is)
    (case k9 => k_is)
    (case a76 => k_is)
    (case l76 => k_is)
    (case c76 => k_is)
    (case k76 => k_is)
    (case a77 => k_is)
    (case l77 => k_is)
    (case c77 => k_is)
    (case k77 => k_is)
    (case a78 => k_is)
    (case l78 => k_is)
    (case c78 => k_is)
    (case k78 => k_is)
    (case a79 => k_is)
    (case l79 => k_is)
    (case c79 => k_is)
    (case k79 => k_is)
    (case a188 => k_is)
    (case l188 => k_is)
    (case c188 => k_is)
    (case k188 => k_is)
    (case a189 => k_is)
    (case l189 => k_is)
    (case c189 => k_is)
    (case k189 => k_is)
    (case a190 => k_is)
    (case l190 => k_is)
    (case c190 => k_is)
    (case k190 => k_is)
    (case a191 => k_is)
    (case l191 => k_is)
    (case c191 => k_is)
    (case k191 => k_is)
    (case a192 => k_is)
    (case l192 => k_is)
    (case c192 => k_is)
    (case k192 => k_is)
    (case z0 => k_is)
    (case z1 => k_is)
    (case z2 => k_is)
    (case z3 => k_is)
    (case z4 => k_is)
    (case z5 => k_is)
    (case z6 => k_is)
    (case z7 => k_is)
    (case z8 => k_is)
    (case z9 => k_is)
    (case z10 => k_is)
    (case z11 => k_is)
    (case z12 => k_is)
    (case z13 => k_is)
    (case z14 => k_is)
    (case z15 => k_is)
    (case z16 => k_is)
    (case z17 => k_is)
#print axioms PySem.Challenge.cw_turnshelves_k42_ways_between_layouts_holds
