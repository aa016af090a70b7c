import PyProof.Rows.All
import Wide.All
import OpenK.AllK
import Wide.FinOn
import HandS.ForMost
import HandS.Exc
import HandS.TryOnly
import HandS.ExcOwn
import HandS.WordsExc
import HandS.Wide
import HandS.Flow
import HandS.Style
import HandS.IsInst
import HandS.TupAny
import HandS.Zip
import HandS.Deep
import HandS.Strs
import HandS.Codes
import HandS.More
import HandS.SetKeys
import HandS.SortKw
import HandS.Defaults
import HandS.Iter
import KE.SortKeyHeap
import KE.SortCalls
import KE.KDictKeyed
import HandS.Replace
import HandS.Conv
import HandS.ExcIs
import HandS.ExcField
import HandS.ExcInit
import HandS.Ends
import PySem.Challenge.RW_turnshelves_k43_policy_serves_by_works
set_option Elab.async false
set_option linter.all false
set_option maxRecDepth 100000
namespace R
open PySem
inductive D where
  | non | bl (b : Bool) | int (i : Int) | str (x : Str)
  | tup (xs : List D)
  | lst (xs : List D)
  | scr (xs : List D)
  | dct (kvs : List (L2.Key × D))
  | ins (C : Nat) (fs : List (Nat × D))
  | ref (n : Nat)
  | pr (a b : D)
  deriving Inhabited
/-- what stands at an id -/
inductive O where
  | lst (xs : List D) | dct (kvs : List (L2.Key × D)) | ins (C : Nat) (fs : List (Nat × D)) | dead | ldct (kvs : List (L2.Key × D)) | llst (xs : List D)
  /- a dict whose keys are tuples; the same, while it is gone over -/
  | tct (kvs : List (D × D)) | ltct (kvs : List (D × D))
  deriving Inhabited
abbrev Mm := List O
inductive Res (σ α : Type) where
  | ok (a : α) (s : σ)
  | exn (C : Nat) (p : Option D) (s : σ)
  | bad
def Res.bind {σ α β : Type} : Res σ α → (α → σ → Res σ β) → Res σ β
  | .ok a s, f => f a s
  | .exn C p s, _ => .exn C p s
  | .bad, _ => .bad
@[simp] theorem Res.bind_ok {σ α β : Type} (a : α) (s : σ) (f : α → σ → Res σ β) : (Res.ok a s).bind f = f a s := rfl
@[simp] theorem Res.bind_exn {σ α β : Type} (C : Nat) (p : Option D) (s : σ) (f : α → σ → Res σ β) : (Res.exn C p s : Res σ α).bind f = .exn C p s := rfl
@[simp] theorem Res.bind_bad {σ α β : Type} (f : α → σ → Res σ β) : (Res.bad : Res σ α).bind f = .bad := rfl
inductive Cn where
  | non | bl (b : Bool) | int (i : Int) | str (x : Str)
  deriving DecidableEq, Inhabited
def Cn.d : Cn → D
  | .non => .non | .bl b => .bl b | .int i => .int i | .str x => .str x
inductive Op where
  | add | sub | mul | fdiv | mod | pow
  deriving DecidableEq, Inhabited
inductive Cm where
  | eq | ne | lt | le | gt | ge
  deriving DecidableEq, Inhabited
/-- built-in functions and types, called -/
inductive Bt where
  | len | int_ | abs_ | min2 | max2 | min1 | max1 | sum_ | list_ | tuple_ | str_ | ord_ | repr_ | any_ | sorted_
  deriving DecidableEq, Inhabited
/-- methods of lists, dicts, texts -/
inductive Bm where
  | append | index | extend | insert | join | sindex | tindex
  deriving DecidableEq, Inhabited
/-- types that isinstance is asked of -/
inductive Ty where
  | int_ | bool_ | str_ | tup_ | lst_ | dct_
  deriving DecidableEq, Inhabited
inductive Tg where
  | nm (i : Nat) | tp (ts : List Tg)
  deriving Inhabited
mutual
inductive ME where
  | var (i : Nat)
  | lit (c : Cn)
  | bin (o : Op) (obj : Bool) (a b : ME)
  | neg (a : ME)
  | cmp (c : Cm) (a b : ME)
  | isn (neg : Bool) (a : ME)
  | isi (t : Ty) (a : ME)
  | isit (t u : Ty) (a : ME)
  | mem (neg : Bool) (a b : ME)
  | glb (i : Nat)
  | kcat (i : Nat) (obj : Bool) (a : ME) | kidx (i : Nat) (a : ME)
  | kd (ks : List Str) (vs : List Int) (a : ME)
  | dnew | tnew
  | dget2 (o k x : ME) | dsetd (o k x : ME)
  /- d.get(k), d.pop(k, x), {'..': e, ..}, d.update(e), dict(e) -/
  | dget1 (o k : ME) | dpop2 (o k x : ME) | ddis (ks : List Str) (es : List ME) | dupd (o e : ME) | dcop (e : ME)
  | srk (obj : Bool) (o : ME) (f : Nat)
  | dsrt (obj : Bool) (o : ME)
  | no
  | makeD (C : Nat)
  | lk (o e : ME)
  | cmp2 (c d : Cm) (a b e : ME)
  | bop (conj : Bool) (es : List ME) | not_ (a : ME)
  | ife (c a b : ME)
  | call (f : Nat) (as : List ME)
  | make (C : Nat) (as : List ME)
  | meth (o : ME) (m : Nat) (as : List ME)
  | blt (b : Bt) (obj : Bool) (as : List ME)
  | bm (b : Bm) (obj : Bool) (o : ME) (as : List ME)
  | fld (o : ME) (f : Nat)
  | idx (o i : ME)
  | slc (obj : Bool) (o : ME) (lo hi : Option ME)
  | rev (obj : Bool) (o : ME)
  | lst (obj : Bool) (es : List ME)
  | tup (es : List ME)
  | lc (obj : Bool) (elt : ME) (g : Tg) (it : It) (cond : Option ME) (own : List Nat)
  | frz (e : ME)
/-- what a loop goes over -/
inductive It where
  | seq (e : ME)
  | rng1 (a : ME) | rng2 (a b : ME) | rng3 (a b c : ME)
  | zip (a b : ME)
  | enum (a : ME)
end
instance : Inhabited ME := ⟨.lit .non⟩
/-- what an except suite says: quiet expressions, isinstance of the error against an own class (or ValueError), its problem -/
inductive HE where
  | q (e : ME) | isx (j : Nat) | isb | prob
  | tup (es : List HE) | lst (obj : Bool) (es : List HE)
  | bop (conj : Bool) (es : List HE) | not_ (e : HE)
instance : Inhabited HE := ⟨.isb⟩
inductive HS where
  | ret (e : HE) | retn | pass
  | ite (c : HE) (a b : List HS)
  deriving Inhabited
inductive MS where
  | ex (e : ME)
  | ret (e : ME) | retn
  | set (i : Nat) (e : ME)
  | unp (g : Tg) (e : ME)
  | setf (o : ME) (f : Nat) (e : ME)
  | seti (o i e : ME)
  | setsl (o : ME) (lo hi : ME) (e : ME)
  | aug (i : Nat) (o : Op) (e : ME)
  | augf (o : ME) (f : Nat) (op : Op) (e : ME)
  | augi (o i : ME) (op : Op) (e : ME)
  | ite (c : ME) (a b : List MS)
  | for_ (g : Tg) (it : It) (body : List MS)
  | while_ (fuel : Nat) (c : ME) (body : List MS)
  | brk | cont | pass
  | frzv (i : Nat)
  | frzs (i : Nat)
  | dput (o k e : ME)
  | no
  | forP (g : Tg) (e : ME) (body : List MS)
  /- raise X('..'), raise Refused(e), try: body except X (as the name in a slot): suite -/
  | rse (j : Nat) | rsp (j : Nat) (e : ME)
  /- a statement while the list that a path leads to stays -/
  | lks (o : ME) (m : MS)
  /- d[k] op= e of a dict -/
  | augd (o i : ME) (op : Op) (e : ME)
  | try_ (body : List MS) (j : Nat) (nm : Option Nat) (hd : List HS)
  deriving Inhabited
structure FD where
  np : Nat
  nl : Nat
  body : List MS
  pure_ : Bool
  dflt : List Cn := []
  deriving Inhabited
/-- a class: its methods by number (with the function's), its __init__ -/
structure CD where
  init : Nat
  meths : List (Nat × Nat)
  dflt : List D := []
  deriving Inhabited
structure Pg where
  fns : List FD
  cls : List CD
  cns : List D := []
  deriving Inhabited
def szOk (n : Nat) : Bool := Nat.ble n 16777216
def mulOk (i j : Int) : Bool := Nat.ble i.natAbs 18446744073709551615 || Nat.ble j.natAbs 18446744073709551615 || Nat.ble (i.natAbs.log2 + j.natAbs.log2) 999999
def divOk (j : Int) : Bool := decide (0 < j) && Nat.ble (j.natAbs.log2 + 1) 9000
def small62 (i : Int) : Bool := Nat.ble i.natAbs 4611686018427387903
def powOk (i j : Int) : Bool := decide (0 ≤ j) && Nat.ble j.natAbs 1000000 && Nat.ble i.natAbs 18446744073709551615
/-- a new list: a value, or an object -/
def mkL (obj : Bool) (ds : List D) (h : Mm) : Res Mm D :=
  if szOk ds.length = true then (if obj = true then .ok (.ref h.length) (h ++ [.lst ds]) else .ok (.lst ds) h) else .bad
def mkT (ds : List D) (h : Mm) : Res Mm D := if szOk ds.length = true then .ok (.tup ds) h else .bad
/-- the items of a list -/
def lstOf (h : Mm) : D → Option (List D)
  | .lst xs => some xs
  | .scr xs => some xs
  | .ref n => match h[n]? with | some (.lst xs) => some xs | some (.llst xs) => some xs | _ => none
  | _ => none
/-- of a list of ours -/
def lstW (h : Mm) : D → Option (List D)
  | .lst xs => some xs
  | .ref n => match h[n]? with | some (.lst xs) => some xs | _ => none
  | _ => none
def seqOf (h : Mm) : D → Option (List D)
  | .tup xs => some xs
  | d => lstOf h d
/-- plain data -/
def toP (h : Mm) : Nat → D → Option PyData
  | 0, _ => none
  | _ + 1, .non => some .none
  | _ + 1, .bl b => some (.bool b)
  | _ + 1, .int i => some (.int i)
  | _ + 1, .str x => some (.str x)
  | k + 1, .tup xs => (xs.mapM (toP h k)).map .tuple
  | k + 1, .lst xs => (xs.mapM (toP h k)).map .list
  | k + 1, .scr xs => (xs.mapM (toP h k)).map .list
  | k + 1, .ref n => match h[n]? with | some (.lst xs) => (xs.mapM (toP h k)).map .list | _ => none
  | _ + 1, _ => none
mutual
/-- no id in it -/
def nr : D → Bool
  | .non => true
  | .bl _ => true
  | .int _ => true
  | .str _ => true
  | .tup xs => nrs xs
  | .lst xs => nrs xs
  | .scr xs => nrs xs
  | .dct kvs => nrk kvs
  | .ins _ fs => nrf fs
  | .ref _ => false
  | .pr a b => nr a && nr b
def nrs : List D → Bool
  | [] => true
  | d :: ds => nr d && nrs ds
def nrk : List (L2.Key × D) → Bool
  | [] => true
  | d :: ds => nr d.2 && nrk ds
def nrf : List (Nat × D) → Bool
  | [] => true
  | d :: ds => nr d.2 && nrf ds
end
/-- without ids -/
def rsv (h : Mm) : Nat → D → Option D
  | 0, _ => none
  | k + 1, d => if nr d = true then some d else match d with
    | .tup xs => (xs.mapM (rsv h k)).map .tup
    | .lst xs => (xs.mapM (rsv h k)).map .lst
    | .scr xs => (xs.mapM (rsv h k)).map .scr
    | .ref n => match h[n]? with
      | some (.lst xs) => (xs.mapM (rsv h k)).map .lst
      | some (.ins C fs) => (fs.mapM fun p => (rsv h k p.2).map fun d => (p.1, d)).map (.ins C)
      | some (.dct kvs) => (kvs.mapM fun p => (rsv h k p.2).map fun d => (p.1, d)).map .dct
      | _ => none
    | .ins C fs => (fs.mapM fun p => (rsv h k p.2).map fun d => (p.1, d)).map (.ins C)
    | .dct kvs => (kvs.mapM fun p => (rsv h k p.2).map fun d => (p.1, d)).map .dct
    | _ => none
/-- .. where a frozen list within might be somebody else's -/
def own (h : Mm) : Nat → D → Option D
  | 0, _ => none
  | k + 1, d => match d with
    | .non => some .non
    | .bl b => some (.bl b)
    | .int i => some (.int i)
    | .str x => some (.str x)
    | .tup xs => (xs.mapM (own h k)).map .tup
    | .ref n => match h[n]? with
      | some (.lst xs) => (xs.mapM (own h k)).map .lst
      | some (.ins C fs) => (fs.mapM fun p => (own h k p.2).map fun d => (p.1, d)).map (.ins C)
      | some (.dct kvs) => (kvs.mapM fun p => (own h k p.2).map fun d => (p.1, d)).map .dct
      | _ => none
    | _ => none
def eqD (h : Mm) : D → D → Option Bool
  | .int i, .int j => some (i == j)
  | .str x, .str y => some (decide (x = y))
  | a, b => match toP h 9 a, toP h 9 b with
    | some p, some q => if SeqAt.shaped p = true ∧ SeqAt.shaped q = true then some (PyData.eqv p q) else none
    | _, _ => none
/-- text comparisons -/
def ltS (x y : Str) : Bool := decide (x.cps.toList < y.cps.toList)
/-- numbers and texts, as keys; their order within tuples -/
def isKey : D → Option L2.Key
  | .int i => some (.inl i)
  | .str x => some (.inr x)
  | _ => none
def keysD : List D → Option (List L2.Key)
  | [] => some []
  | d :: ds => (isKey d).bind fun k => (keysD ds).map fun ks => k :: ks
def keyLt : L2.Key → L2.Key → Option Bool
  | .inl a, .inl b => some (decide (a < b))
  | .inr a, .inr b => some (ltS a b)
  | _, _ => none
/-- the first tuple is the less; none: at their first difference they have no order -/
def ltK : List L2.Key → List L2.Key → Option Bool
  | [], [] => some false
  | [], _ :: _ => some true
  | _ :: _, [] => some false
  | x :: xs, y :: ys => if x = y then ltK xs ys else keyLt x y
def ltT (xs ys : List D) : Option Bool :=
  match keysD xs, keysD ys with
  | some ks, some ls => ltK ks ls
  | _, _ => none
def cmpD (c : Cm) (h : Mm) (a b : D) : Option Bool :=
  match c with
  | .eq => eqD h a b
  | .ne => (eqD h a b).map not
  | .lt => match a, b with | .int i, .int j => some (decide (i < j)) | .str x, .str y => some (ltS x y) | .tup xs, .tup ys => ltT xs ys | _, _ => none
  | .le => match a, b with | .int i, .int j => some (decide (i ≤ j)) | .str x, .str y => some (!ltS y x) | _, _ => none
  | .gt => match a, b with | .int i, .int j => some (decide (j < i)) | .str x, .str y => some (ltS y x) | .tup xs, .tup ys => ltT ys xs | _, _ => none
  | .ge => match a, b with | .int i, .int j => some (decide (j ≤ i)) | .str x, .str y => some (!ltS x y) | _, _ => none
def addD (obj : Bool) (h : Mm) : D → D → Res Mm D
  | .int i, .int j => .ok (.int (i + j)) h
  | .str x, .str y => if szOk (x.length + y.length) = true then .ok (.str (x ++ y)) h else .bad
  | .tup xs, .tup ys => if szOk (xs.length + ys.length) = true then .ok (.tup (xs ++ ys)) h else .bad
  | a, b => match lstW h a, lstW h b with
    | some xs, some ys => mkL obj (xs ++ ys) h
    | _, _ => .bad
/-- a text that is not made too long -/
def repOk (x : Str) (k : Int) : Bool := decide (0 ≤ k) && decide (k ≤ 1000000) && Nat.ble (x.length * k.toNat) 1000000 && Nat.ble x.length 1000000
def mulD (obj : Bool) (h : Mm) : D → D → Res Mm D
  | .int i, .int j => if mulOk i j = true then .ok (.int (i * j)) h else .bad
  | .str x, .int k => if repOk x k = true then .ok (.str (PySem.Txt.mul x k)) h else .bad
  | a, .int k => match lstW h a with
    | some xs => if small62 k = true then mkL obj (List.replicate k.toNat xs).flatten h else .bad
    | none => .bad
  | _, _ => .bad
def arD (c : Int → Int → Bool) (f : Int → Int → Int) (h : Mm) : D → D → Res Mm D
  | .int i, .int j => if c i j = true then .ok (.int (f i j)) h else .bad
  | _, _ => .bad
def binD (o : Op) (obj : Bool) (a b : D) (h : Mm) : Res Mm D :=
  match o with
  | .add => addD obj h a b
  | .sub => arD (fun _ _ => true) (· - ·) h a b
  | .mul => mulD obj h a b
  | .fdiv => arD (fun _ j => divOk j) (· / ·) h a b
  | .mod => arD (fun _ j => decide (0 < j)) (· % ·) h a b
  | .pow => arD powOk (fun i j => i ^ j.toNat) h a b
def truthD (h : Mm) : D → Option Bool
  | .non => some false
  | .bl b => some b
  | .int i => some (i != 0)
  | .tup xs => some (!xs.isEmpty)
  | d => (lstOf h d).map fun xs => !xs.isEmpty
def fldD (h : Mm) (f : Nat) : D → Option D
  | .ins _ fs => fs.lookup f
  | .ref n => match h[n]? with | some (.ins _ fs) => fs.lookup f | _ => none
  | _ => none
def clsD (h : Mm) : D → Option Nat
  | .ins C _ => some C
  | .ref n => match h[n]? with | some (.ins C _) => some C | _ => none
  | _ => none
def keyD : L2.Key → D
  | .inl i => .int i
  | .inr x => .str x
def dctOf (h : Mm) : D → Option (List (L2.Key × D))
  | .dct kvs => some kvs
  | .ref n => match h[n]? with | some (.dct kvs) => some kvs | some (.ldct kvs) => some kvs | _ => none
  | _ => none
def valD : List (L2.Key × D) → L2.Key → Option D
  | [], _ => none
  | p :: r, k => if p.1 = k then some p.2 else valD r k
def putD (kvs : List (L2.Key × D)) (k : L2.Key) (d : D) : List (L2.Key × D) :=
  if (kvs.any fun kv => decide (kv.1 = k)) = true then kvs.map (fun kv => if kv.1 = k then (kv.1, d) else kv) else kvs ++ [(k, d)]
def dropD (kvs : List (L2.Key × D)) (k : L2.Key) : List (L2.Key × D) := kvs.filter fun kv => decide (kv.1 ≠ k)
def mergeD (kvs more : List (L2.Key × D)) : List (L2.Key × D) := more.foldl (fun acc kv => putD acc kv.1 kv.2) kvs
def zipK : List Str → List D → List (L2.Key × D)
  | k :: ks, d :: ds => (.inr k, d) :: zipK ks ds
  | _, _ => []
/-- what stands at a key -/
def atD (h : Mm) (x y : D) : Option (Option D) :=
  match dctOf h x, isKey y with
  | some kvs, some k => some (valD kvs k)
  | _, _ => none
mutual
def nkD : D → Option PySem.NestedKey
  | .non => some .none
  | .bl b => some (.num (if b = true then 1 else 0))
  | .int i => some (.num i)
  | .str x => some (.text x)
  | .tup xs => (nkDs xs).map .tup
  | _ => none
def nkDs : List D → Option (List PySem.NestedKey)
  | [] => some []
  | d :: ds => (nkD d).bind fun k => (nkDs ds).map fun ks => k :: ks
end
/-- a tuple as a key -/
def nkT : D → Option PySem.NestedKey
  | .tup xs => (nkDs xs).bind fun ks => if Nat.ble (PySem.NestedKey.depth (.tup ks)) 8 = true then some (.tup ks) else none
  | _ => none
def tctOf (h : Mm) : D → Option (List (D × D))
  | .ref n => match h[n]? with | some (.tct kvs) => some kvs | some (.ltct kvs) => some kvs | _ => none
  | _ => none
def valT : List (D × D) → PySem.NestedKey → Option D
  | [], _ => none
  | p :: r, k => if nkT p.1 = some k then some p.2 else valT r k
def setT (k : PySem.NestedKey) (d : D) : List (D × D) → List (D × D)
  | [] => []
  | p :: r => (if nkT p.1 = some k then (p.1, d) else p) :: setT k d r
def putT (kvs : List (D × D)) (y : D) (k : PySem.NestedKey) (d : D) : List (D × D) :=
  if (valT kvs k).isSome = true then setT k d kvs else kvs ++ [(y, d)]
def atT (h : Mm) (x y : D) : Option (Option D) :=
  match tctOf h x, nkT y with
  | some kvs, some k => some (valT kvs k)
  | _, _ => none
/-- texts in their order -/
def insS (x : Str) : List Str → List Str
  | [] => [x]
  | y :: ys => if ltS y x = true then y :: insS x ys else x :: y :: ys
def srtS : List Str → List Str
  | [] => []
  | x :: xs => insS x (srtS xs)
def strKeys : List (L2.Key × D) → Option (List Str)
  | [] => some []
  | (.inr x, _) :: r => (strKeys r).map fun l => x :: l
  | _ :: _ => none
def idxD (h : Mm) : D → D → Option D
  | .str x, .int i => if szOk x.length = true then (L2.atI x.cps.toList i).map fun c => .str ⟨#[c]⟩ else none
  | o, .int i => match seqOf h o with | some xs => L2.atI xs i | none => match dctOf h o with | some kvs => valD kvs (.inl i) | none => none
  | o, .str z => match dctOf h o with | some kvs => valD kvs (.inr z) | none => none
  | o, .tup ks => (atT h o (.tup ks)).bind id
  | _, _ => none
/-- a slice -/
def cutD {α : Type} (xs : List α) (l u : Option Int) : List α := (xs.drop (HT.sIx xs.length 0 l)).take (HT.sIx xs.length xs.length u - HT.sIx xs.length 0 l)
def slcD (obj : Bool) (h : Mm) (x : D) (l u : Option Int) : Res Mm D :=
  match x with
  | .tup xs => .ok (.tup (cutD xs l u)) h
  | .str z => if szOk z.length = true then .ok (.str (L2.cutS z l u)) h else .bad
  | x => match lstOf h x with
    | some xs => mkL obj (cutD xs l u) h
    | none => .bad
/-- flat values -/
def flatD : D → Option L2.V
  | .non => some .non
  | .bl b => some (.bl b)
  | .int i => some (.int i)
  | .str x => some (.str x)
  | _ => none
def flatsD : List D → Option (List L2.V)
  | [] => some []
  | d :: ds => (flatD d).bind fun v => (flatsD ds).map fun vs => v :: vs
/-- x in xs -/
def memD (h : Mm) (x : D) (o : D) : Option Bool :=
  match seqOf h o with
  | some xs => match flatD x, flatsD xs with
    | some v, some vs => some (L2.inV v vs)
    | _, _ => match lstOf h o with
      | some xs => match toP h 9 x, xs.mapM (toP h 9) with
        | some p, some ps => if SeqAt.shaped p = true ∧ SeqAt.shaped (.list ps) = true then some (ps.any fun z => PyData.eqv z p) else none
        | _, _ => none
      | none => none
  | none => match atD h o x with
    | some r => some r.isSome
    | none => (atT h o x).map Option.isSome
/-- .. of an object -/
def idxM (h : Mm) : D → D → Option D
  | .ref n, .int i => match h[n]? with | some (.lst xs) => L2.atI xs i | _ => none
  | _, _ => none
/-- d[k] = v -/
def dputD (x y z : D) (h : Mm) : Option Mm :=
  match x, isKey y with
  | .ref n, some k => match h[n]? with
    | some (.dct kvs) => if szOk (kvs.length + 1) = true then some (h.set n (.dct (putD kvs k z))) else none
    | _ => none
  | .ref n, none => match h[n]?, nkT y with
    | some (.tct kvs), some k => if szOk (kvs.length + 1) = true then some (h.set n (.tct (putT kvs y k z))) else none
    | _, _ => none
  | _, _ => none
/-- d.setdefault(k, v) -/
def setdD (x y z : D) (h : Mm) : Res Mm D :=
  match x, isKey y with
  | .ref n, some k => match h[n]? with
    | some (.dct kvs) => if szOk (kvs.length + 1) = true then (match valD kvs k with
      | some v => .ok v h
      | none => .ok z (h.set n (.dct (putD kvs k z)))) else .bad
    | _ => .bad
  | _, _ => .bad
/-- d.pop(k, v) -/
def dpopD (x y z : D) (h : Mm) : Res Mm D :=
  match x, isKey y with
  | .ref n, some k => match h[n]? with
    | some (.dct kvs) => (match valD kvs k with
      | some v => .ok v (h.set n (.dct (dropD kvs k)))
      | none => .ok z h)
    | _ => .bad
  | _, _ => .bad
/-- n takes the value d -/
def putF (f : Nat) (d : D) : List (Nat × D) → List (Nat × D)
  | [] => [(f, d)]
  | (g, x) :: r => if g = f then (g, d) :: r else (g, x) :: putF f d r
def setFD (o : D) (f : Nat) (d : D) (h : Mm) : Option Mm :=
  match o with
  | .ref n => match h[n]? with
    | some (.ins C fs) => if fs.length < 900 then some (h.set n (.ins C (putF f d fs))) else none
    | _ => none
  | _ => none
def setID (o i d : D) (h : Mm) : Option Mm :=
  match o, i with
  | .ref n, .int i => match h[n]? with
    | some (.lst xs) => match L2.ixN xs.length i with
      | some j => some (h.set n (.lst (xs.set j d)))
      | none => none
    | _ => none
  | _, _ => none
def notRef (n : Nat) : D → Bool
  | .ref k => !(k == n)
  | _ => true
/-- d.update(e) -/
def dupdD (x y : D) (h : Mm) : Res Mm D :=
  match x with
  | .ref n => match h[n]?, dctOf h y with
    | some (.dct kvs), some more => if (szOk (kvs.length + more.length) && notRef n y) = true then .ok .non (h.set n (.dct (mergeD kvs more))) else .bad
    | _, _ => .bad
  | _ => .bad
def setSD (o : D) (lo hi : Int) (d : D) (h : Mm) : Option Mm :=
  match o with
  | .ref n => match h[n]?, lstW h d with
    | some (.lst xs), some ys => if (decide (0 ≤ lo) && decide (lo ≤ hi) && decide (hi ≤ (xs.length : Int)) && szOk (xs.length + ys.length) && notRef n d) = true then some (h.set n (.lst (xs.take lo.toNat ++ ys ++ xs.drop hi.toNat))) else none
    | _, _ => none
  | _ => none
def augI : Op → Int → Int → Option Int
  | .add, a, b => some (a + b)
  | .sub, a, b => some (a - b)
  | _, _, _ => none
def augD (o : Op) : D → D → Option D
  | .int a, .int b => (augI o a b).map .int
  | _, _ => none
def isStr : D → Option Str
  | .str i => some i
  | _ => none
def strsOf (xs : List D) : Option (List Str) := xs.mapM isStr
def isBl : D → Option Bool
  | .bl i => some i
  | _ => none
def blsOf (xs : List D) : Option (List Bool) := xs.mapM isBl
def isInt : D → Option Int
  | .int i => some i
  | _ => none
def minI : List Int → Int
  | [] => 0
  | [x] => x
  | x :: y :: r => min x (minI (y :: r))
def maxI : List Int → Int
  | [] => 0
  | [x] => x
  | x :: y :: r => max x (maxI (y :: r))
def intsOf (xs : List D) : Option (List Int) := xs.mapM isInt
def seqP : PyData → Bool
  | .list _ => true
  | .tuple _ => true
  | _ => false
def bltD (b : Bt) (obj : Bool) (as : List D) (h : Mm) : Res Mm D :=
  match b, as with
  | .len, [.str x] => if szOk x.length = true then .ok (.int x.length) h else .bad
  | .len, [d] => match seqOf h d with | some xs => .ok (.int xs.length) h | none => match dctOf h d with | some kvs => .ok (.int kvs.length) h | none => match tctOf h d with | some kvs => .ok (.int kvs.length) h | none => .bad
  | .int_, [.int i] => .ok (.int i) h
  | .int_, [.bl b] => .ok (.int (if b = true then 1 else 0)) h
  | .abs_, [.int i] => .ok (.int (if i < 0 then -i else i)) h
  | .min2, [.int i, .int j] => .ok (.int (if j < i then j else i)) h
  | .max2, [.int i, .int j] => .ok (.int (if j > i then j else i)) h
  | .min1, [d] => match lstOf h d with
    | some xs => match intsOf xs with
      | some ns => if ns.length = 0 then .bad else .ok (.int (minI ns)) h
      | none => .bad
    | none => .bad
  | .max1, [d] => match lstOf h d with
    | some xs => match intsOf xs with
      | some ns => if ns.length = 0 then .bad else .ok (.int (maxI ns)) h
      | none => .bad
    | none => .bad
  | .sum_, [d] => match lstOf h d with
    | some xs => match intsOf xs with
      | some ns => .ok (.int ns.sum) h
      | none => .bad
    | none => .bad
  | .str_, [.int i] => if Nat.ble (i.natAbs.log2 + 1) 1920 = true then .ok (.str (toString i)) h else .bad
  | .ord_, [.str x] => if Nat.beq x.length 1 = true then .ok (.int (x.cps.getD 0 0 : Nat)) h else .bad
  | .repr_, [d] => match toP h 9 d with
    | some p => if (seqP p && PyData.showable p && !PyData.hasDict p && Nat.ble p.depth 9 && Nat.ble p.shown.length 1000000) = true then .ok (.str p.shown) h else .bad
    | none => .bad
  | .any_, [d] => match lstOf h d with
    | some xs => match blsOf xs with
      | some ns => .ok (.bl (ns.any id)) h
      | none => .bad
    | none => .bad
  | .list_, [d] => match seqOf h d with | some xs => mkL obj xs h | none => match dctOf h d with | some kvs => mkL obj (kvs.map fun kv => keyD kv.1) h | none => .bad
  | .tuple_, [d] => match lstOf h d with | some xs => mkT xs h | none => .bad
  | .sorted_, [d] => match lstOf h d with
    | some xs => match strsOf xs with
      | some ks => if Nat.blt ks.length 64 = true then mkL obj ((srtS ks).map .str) h else .bad
      | none => .bad
    | none => match dctOf h d with
      | some kvs => match strKeys kvs with
        | some ks => if Nat.blt ks.length 64 = true then mkL obj ((srtS ks).map .str) h else .bad
        | none => .bad
      | none => .bad
  | _, _ => .bad
def bmD (b : Bm) (obj : Bool) (o : D) (as : List D) (h : Mm) : Res Mm D :=
  match b, o, as with
  | .append, .ref n, [d] => match h[n]? with
    | some (.lst xs) => if szOk (xs.length + 1) = true then .ok .non (h.set n (.lst (xs ++ [d]))) else .bad
    | _ => .bad
  | .extend, .ref n, [.tup ys] => match h[n]? with
    | some (.lst xs) => if szOk (xs.length + ys.length) = true then .ok .non (h.set n (.lst (xs ++ ys))) else .bad
    | _ => .bad
  | .extend, .ref n, [d] => match h[n]?, lstW h d with
    | some (.lst xs), some ys => if szOk (xs.length + ys.length) = true then .ok .non (h.set n (.lst (xs ++ ys))) else .bad
    | _, _ => .bad
  | .insert, .ref n, [.int i, d] => match h[n]? with
    | some (.lst xs) => if (szOk (xs.length + 1) && decide (0 ≤ i) && small62 i) = true then .ok .non (h.set n (.lst (xs.take i.toNat ++ [d] ++ xs.drop i.toNat))) else .bad
    | _ => .bad
  | .join, .str x, [d] => match seqOf h d with
    | some xs => match strsOf xs with
      | some ys => if szOk ((ys.map (·.length)).sum + ys.length * x.length) = true then .ok (.str (Txt.join x ys)) h else .bad
      | none => .bad
    | none => .bad
  | .index, o, [.str i] => match lstOf h o with
    | some xs => match strsOf xs with
      | some ns => match ns.idxOf? i with
        | some k => .ok (.int k) h
        | none => .bad
      | none => .bad
    | none => .bad
  | .index, o, [.int i] => match lstOf h o with
    | some xs => match intsOf xs with
      | some ns => match ns.idxOf? i with
        | some k => .ok (.int k) h
        | none => .bad
      | none => .bad
    | none => .bad
  | .tindex, .tup xs, [.str z] => match strsOf xs with
    | some ns => match ns.idxOf? z with
      | some k => .ok (.int k) h
      | none => .bad
    | none => .bad
  | .sindex, .str a, [.str b] => match PySem.Builtin.Str.occurrences a b 0 a.length 1 with
    | i :: _ => .ok (.int (i : Nat)) h
    | [] => .bad
  | _, _, _ => .bad
/-- whether it is of the method's type -/
def bmTy (b : Bm) (h : Mm) (d : D) : Bool :=
  match b with
  | .append | .index | .extend | .insert => (lstOf h d).isSome
  | .join | .sindex => match d with | .str _ => true | _ => false
  | .tindex => match d with | .tup _ => true | _ => false
/-- one after another, the memory handed on -/
def thr {α β : Type} (f : α → Mm → Option (β × Mm)) : List α → Mm → Option (List β × Mm)
  | [], h => some ([], h)
  | x :: xs, h => (f x h).bind fun q => (thr f xs q.2).bind fun r => some (q.1 :: r.1, r.2)
/-- the frozen form; its ids are dead from then on -/
def frzN : Nat → D → Mm → Option (D × Mm)
  | 0, _, _ => none
  | k + 1, d, h => if nr d = true then some (d, h) else match d with
    | .tup xs => (thr (frzN k) xs h).map fun q => (.tup q.1, q.2)
    | .lst xs => (thr (frzN k) xs h).map fun q => (.lst q.1, q.2)
    | .scr xs => (thr (frzN k) xs h).map fun q => (.scr q.1, q.2)
    | .ins C fs => (thr (fun p h => (frzN k p.2 h).map fun q => ((p.1, q.1), q.2)) fs h).map fun q => (.ins C q.1, q.2)
    | .dct kvs => (thr (fun p h => (frzN k p.2 h).map fun q => ((p.1, q.1), q.2)) kvs h).map fun q => (.dct q.1, q.2)
    | .ref n => match h[n]? with
      | some (.lst xs) => (thr (frzN k) xs (h.set n .dead)).map fun q => (.lst q.1, q.2)
      | some (.ins C fs) => (thr (fun p h => (frzN k p.2 h).map fun q => ((p.1, q.1), q.2)) fs (h.set n .dead)).map fun q => (.ins C q.1, q.2)
      | some (.dct kvs) => (thr (fun p h => (frzN k p.2 h).map fun q => ((p.1, q.1), q.2)) kvs (h.set n .dead)).map fun q => (.dct q.1, q.2)
      | _ => none
    | _ => none
def frzD (d : D) (h : Mm) : Res Mm D :=
  match frzN 9 d h with
  | some (d', h') => .ok d' h'
  | none => .bad
/-- the name of a value's type -/
def tyN (h : Mm) : D → Option String
  | .non => some "NoneType"
  | .bl _ => some "bool"
  | .int _ => some "int"
  | .str _ => some "str"
  | .tup _ => some "tuple"
  | .lst _ => some "list"
  | .scr _ => some "list"
  | .dct _ => some "dict"
  | .ref n => match h[n]? with | some (.lst _) => some "list" | some (.dct _) => some "dict" | _ => none
  | _ => none
def Ty.nm : Ty → String
  | .int_ => "int" | .bool_ => "bool" | .str_ => "str" | .tup_ => "tuple" | .lst_ => "list" | .dct_ => "dict"
def isiB (t : Ty) (a : String) : Bool := decide (a = t.nm) || (decide (a = "bool") && decide (t = .int_))
def frzL (h : Mm) : D → Option (List D)
  | .lst xs => some xs
  | .scr xs => some xs
  | .ref n => match h[n]? with | some (.llst xs) => some xs | _ => none
  | _ => none
def rngL (a : Int) (n : Nat) (c : Int) : List D := (List.range n).map fun (k : Nat) => .int (a + (k : Int) * c)
def rngOk (i j k : Int) : Bool := decide (k ≠ 0) && Nat.ble k.natAbs 1073741823 && Builtin.Range.small i j k && decide (0 ≤ Builtin.Range.rangeSize i j k)
mutual
def bindT : Tg → D → List (Option D) → Option (List (Option D))
  | .nm i, d, sl => some (sl.set i (some d))
  | .tp ts, .tup xs, sl => bindTs ts xs sl
  | .tp ts, .lst xs, sl => bindTs ts xs sl
  | .tp ts, .pr a b, sl => bindTs ts [a, b] sl
  | .tp _, _, _ => none
def bindTs : List Tg → List D → List (Option D) → Option (List (Option D))
  | [], [], sl => some sl
  | t :: ts, d :: ds, sl => (bindT t d sl).bind fun sl => bindTs ts ds sl
  | _, _, _ => none
end
def wipe (sl : List (Option D)) : List Nat → List (Option D)
  | [] => sl
  | v :: vs => (wipe sl vs).set v none
/-- what is read without a step: variables, fields, items -/
def isPath : ME → Bool
  | .var _ => true
  | .lit _ => true
  | .fld o _ => isPath o
  | .idx o i => isPath o && isPath i
  | _ => false
/-- a written dict of texts and numbers -/
def kdL : List Str → List Int → List (L2.Key × L2.V)
  | k :: ks, v :: vs => (.inr k, .int v) :: kdL ks vs
  | _, _ => []
def kdAt (ks : List Str) (vs : List Int) (z : Str) : Option Int :=
  match L2.valV (L2.mergeK [] (kdL ks vs)) (.inr z) with
  | some (.int i) => some i
  | _ => none
abbrev Calls := Nat → List D → Mm → Res Mm D
abbrev Tk := Int ⊕ List Nat
def toksK (ks : List L2.Key) : List Tk := ks.map fun k => match k with | .inl i => .inl i | .inr x => .inr x.cps.toList
/-- 0 and a number, 1 and a text, one after another -/
def rowK : List L2.Key → Bool
  | [] => true
  | .inl a :: .inl _ :: r => decide (a = 0) && rowK r
  | .inl a :: .inr _ :: r => decide (a = 1) && rowK r
  | _ => false
def srtK (ps : List (D × List Tk)) : List D := (ps.mergeSort (PySem.W.sortLe (PyProof.Rows.listOrd PyProof.Rows.itemOrd) false fun p => p.2)).map (·.1)
def keyOk (ks : List L2.Key) : Bool := rowK ks && !ks.isEmpty
def keyL (c : Calls) (f : Nat) : List D → Mm → Res Mm (List (D × List Tk))
  | [], h => .ok [] h
  | x :: xs, h => match c f [x] h with
    | .ok (.tup ds) h => match keysD ds with
      | some ks => if keyOk ks = true then (keyL c f xs h).bind fun r h => .ok ((x, toksK ks) :: r) h else .bad
      | none => .bad
    | _ => .bad
/-- over the items, each mapped; b: whether it is kept -/
def mapL (f : D → Mm → Res Mm (Option D)) : List D → Mm → Res Mm (List D)
  | [], h => .ok [] h
  | x :: xs, h => (f x h).bind fun y h => (mapL f xs h).bind fun ys h => match y with
    | some y => .ok (y :: ys) h
    | none => .ok ys h
def noExn {σ α : Type} : Res σ α → Res σ α
  | .exn _ _ _ => .bad
  | r => r
mutual
def evalE (p : Pg) (c : Calls) : ME → List (Option D) → Mm → Res Mm D
  | .var i, sl, h => match sl[i]? with | some (some d) => .ok d h | _ => .bad
  | .lit k, _, h => .ok k.d h
  | .bin o obj a b, sl, h => (evalE p c a sl h).bind fun x h => (evalE p c b sl h).bind fun y h => binD o obj x y h
  | .neg a, sl, h => (evalE p c a sl h).bind fun x h => match x with | .int i => .ok (.int (-i)) h | _ => .bad
  | .cmp k a b, sl, h => (evalE p c a sl h).bind fun x h => (evalE p c b sl h).bind fun y h => match cmpD k h x y with | some b => .ok (.bl b) h | none => .bad
  | .isn ng a, sl, h => (evalE p c a sl h).bind fun x h => match x with | .non => .ok (.bl (!ng)) h | _ => .ok (.bl ng) h
  | .isi t a, sl, h => (evalE p c a sl h).bind fun x h => match tyN h x with | some n => .ok (.bl (isiB t n)) h | none => (match tctOf h x with | some _ => .ok (.bl (isiB t "dict")) h | none => .bad)
  | .isit t u a, sl, h => (evalE p c a sl h).bind fun x h => match tyN h x with | some n => .ok (.bl (isiB t n || isiB u n)) h | none => .bad
  | .mem ng a b, sl, h => (evalE p c a sl h).bind fun x h => (evalE p c b sl h).bind fun y h => match memD h x y with | some b => .ok (.bl (if ng = true then !b else b)) h | none => .bad
  | .glb i, _, h => match p.cns[i]? with | some k => .ok k h | none => .bad
  | .kcat i obj a, sl, h => (evalE p c a sl h).bind fun x h => match p.cns[i]?, lstW h x with | some (.scr xs), some ys => mkL obj (xs ++ ys) h | _, _ => .bad
  | .kidx i a, sl, h => (evalE p c a sl h).bind fun x h => match p.cns[i]?, x with
    | some (.tup xs), .str z => match strsOf xs with
      | some ns => match ns.idxOf? z with
        | some k => .ok (.int k) h
        | none => .bad
      | none => .bad
    | _, _ => .bad
  | .kd ks vs a, sl, h => (evalE p c a sl h).bind fun x h => match x with
    | .str z => match kdAt ks vs z with
      | some i => .ok (.int i) h
      | none => .bad
    | _ => .bad
  | .dnew, _, h => .ok (.ref h.length) (h ++ [.dct []])
  | .tnew, _, h => .ok (.ref h.length) (h ++ [.tct []])
  | .dget2 o i e, sl, h => (evalE p c o sl h).bind fun x h => if (dctOf h x).isSome = true then (evalE p c i sl h).bind fun y h => (evalE p c e sl h).bind fun z h => match atD h x y with
    | some r => .ok (r.getD z) h
    | none => .bad
    else .bad
  | .dsetd o i e, sl, h => (evalE p c o sl h).bind fun x h => if (dctOf h x).isSome = true then (evalE p c i sl h).bind fun y h => (evalE p c e sl h).bind fun z h => setdD x y z h else .bad
  | .dget1 o i, sl, h => (evalE p c o sl h).bind fun x h => if (dctOf h x).isSome = true then (evalE p c i sl h).bind fun y h => match atD h x y with
    | some r => .ok (r.getD .non) h
    | none => .bad
    else .bad
  | .dpop2 o i e, sl, h => (evalE p c o sl h).bind fun x h => if (dctOf h x).isSome = true then (evalE p c i sl h).bind fun y h => (evalE p c e sl h).bind fun z h => dpopD x y z h else .bad
  | .ddis ks es, sl, h => (evalEs p c es sl (h ++ [.dct []])).bind fun ds h' => match h'[h.length]? with
    | some (.dct []) => .ok (.ref h.length) (h'.set h.length (.dct (mergeD [] (zipK ks ds))))
    | _ => .bad
  | .dupd o e, sl, h => (evalE p c o sl h).bind fun x h => if (dctOf h x).isSome = true then (evalE p c e sl h).bind fun y h => dupdD x y h else .bad
  | .dcop e, sl, h => (evalE p c e sl h).bind fun x h => match dctOf h x with
    | some kvs => .ok (.ref h.length) (h ++ [.dct kvs])
    | none => .bad
  | .srk obj o f, sl, h => (evalE p c o sl h).bind fun x h => match lstOf h x with
    | some xs => (keyL c f xs h).bind fun ps h => mkL obj (srtK ps) h
    | none => .bad
  | .dsrt obj o, sl, h => (evalE p c o sl h).bind fun x h => match dctOf h x with
    | some kvs => match strKeys kvs with
      | some ks => if Nat.blt ks.length 64 = true then mkL obj ((srtS ks).map .str) h else .bad
      | none => .bad
    | none => .bad
  | .cmp2 k l a b e, sl, h => (evalE p c a sl h).bind fun x h => (evalE p c b sl h).bind fun y h => match cmpD k h x y with
    | some true => (evalE p c e sl h).bind fun z h => match cmpD l h y z with | some b => .ok (.bl b) h | none => .bad
    | some false => .ok (.bl false) h
    | none => .bad
  | .bop k es, sl, h => evalB p c k es sl h
  | .not_ a, sl, h => (evalE p c a sl h).bind fun x h => match truthD h x with | some b => .ok (.bl (!b)) h | none => .bad
  | .ife k a b, sl, h => (evalE p c k sl h).bind fun x h => match truthD h x with | some true => evalE p c a sl h | some false => evalE p c b sl h | none => .bad
  | .call f as, sl, h => (evalEs p c as sl h).bind fun xs h => c f xs h
  | .make C as, sl, h => (evalEs p c as sl h).bind fun xs h => match p.cls[C]? with
    | some cd => (c cd.init (.ref h.length :: xs) (h ++ [.ins C []])).bind fun r h' => match r with | .non => .ok (.ref h.length) h' | _ => .bad
    | none => .bad
  | .no, _, _ => .bad
  | .lk o e, sl, h => match evalE p c o sl h with
    | .ok (.ref n) _ => match h[n]? with
      | some (.lst xs) => match evalE p c e sl (h.set n (.llst xs)) with
        | .ok d h' => match h'[n]? with
          | some (.llst xs) => .ok d (h'.set n (.lst xs))
          | _ => .bad
        | _ => .bad
      | some (.dct xs) => match evalE p c e sl (h.set n (.ldct xs)) with
        | .ok d h' => match h'[n]? with
          | some (.ldct xs) => .ok d (h'.set n (.dct xs))
          | _ => .bad
        | _ => .bad
      | some (.tct xs) => match evalE p c e sl (h.set n (.ltct xs)) with
        | .ok d h' => match h'[n]? with
          | some (.ltct xs) => .ok d (h'.set n (.tct xs))
          | _ => .bad
        | _ => .bad
      | _ => .bad
    | .ok _ _ => evalE p c e sl h
    | _ => .bad
  | .makeD C, _, h => match p.cls[C]? with
    | some cd => (c cd.init (.ref h.length :: cd.dflt) (h ++ [.ins C []])).bind fun r h' => match r with | .non => .ok (.ref h.length) h' | _ => .bad
    | none => .bad
  | .meth o m as, sl, h => (evalE p c o sl h).bind fun x h => match clsD h x with
    | some C => match p.cls[C]? with
      | some cd => match cd.meths.lookup m with
        | some f => (evalEs p c as sl h).bind fun xs h => c f (x :: xs) h
        | none => .bad
      | none => .bad
    | none => .bad
  | .blt b obj as, sl, h => (evalEs p c as sl h).bind fun xs h => bltD b obj xs h
  | .bm b obj o as, sl, h => (evalE p c o sl h).bind fun x h => if bmTy b h x = true then (evalEs p c as sl h).bind fun xs h => bmD b obj x xs h else .bad
  | .fld o f, sl, h => (evalE p c o sl h).bind fun x h => match fldD h f x with | some d => .ok d h | none => .bad
  | .idx o i, sl, h => (evalE p c o sl h).bind fun x h => (evalE p c i sl h).bind fun y h => match idxD h x y with | some d => .ok d h | none => .bad
  | .slc obj o lo hi, sl, h => (evalE p c o sl h).bind fun x h => (evalO p c lo sl h).bind fun l h => (evalO p c hi sl h).bind fun u h => slcD obj h x l u
  | .rev obj o, sl, h => (evalE p c o sl h).bind fun x h => match lstOf h x with
    | some xs => mkL obj xs.reverse h
    | none => .bad
  | .lst obj es, sl, h => (evalEs p c es sl h).bind fun xs h => mkL obj xs h
  | .tup es, sl, h => (evalEs p c es sl h).bind fun xs h => mkT xs h
  | .lc obj elt g it cond own, sl, h => (evalI p c it sl h).bind fun xs h =>
      (mapL (fun x h => match bindT g x (wipe sl own) with
        | some sl' => match cond with
          | some k => (noExn (evalE p c k sl' h)).bind fun b h => match truthD h b with
            | some true => (noExn (evalE p c elt sl' h)).bind fun y h => .ok (some y) h
            | some false => .ok none h
            | none => .bad
          | none => (noExn (evalE p c elt sl' h)).bind fun y h => .ok (some y) h
        | none => .bad) xs h).bind fun ys h => mkL obj ys h
  | .frz e, sl, h => (evalE p c e sl h).bind fun x h => frzD x h
def evalEs (p : Pg) (c : Calls) : List ME → List (Option D) → Mm → Res Mm (List D)
  | [], _, h => .ok [] h
  | e :: es, sl, h => (evalE p c e sl h).bind fun x h => (evalEs p c es sl h).bind fun xs h => .ok (x :: xs) h
def evalB (p : Pg) (c : Calls) (k : Bool) : List ME → List (Option D) → Mm → Res Mm D
  | [], _, _ => .bad
  | [e], sl, h => evalE p c e sl h
  | e :: es, sl, h => (evalE p c e sl h).bind fun x h => match truthD h x with
    | some b => if b = k then evalB p c k es sl h else .ok x h
    | none => .bad
def evalO (p : Pg) (c : Calls) : Option ME → List (Option D) → Mm → Res Mm (Option Int)
  | none, _, h => .ok none h
  | some e, sl, h => (evalE p c e sl h).bind fun x h => match x with | .int i => .ok (some i) h | _ => .bad
def evalI (p : Pg) (c : Calls) : It → List (Option D) → Mm → Res Mm (List D)
  | .seq e, sl, h => (evalE p c e sl h).bind fun x h => match x with
    | .tup xs => .ok xs h
    | .lst xs => .ok xs h
    | .scr xs => .ok xs h
    | .str x => .ok (x.cps.toList.map fun c => .str ⟨#[c]⟩) h
    | .ref n => match h[n]? with
      | some (.llst xs) => .ok xs h
      | some (.ldct kvs) => .ok (kvs.map fun kv => keyD kv.1) h
      | some (.ltct kvs) => .ok (kvs.map fun kv => kv.1) h
      | _ => .bad
    | _ => .bad
  | .rng1 a, sl, h => (evalE p c a sl h).bind fun x h => match x with
    | .int j => if small62 j = true then .ok ((List.range j.toNat).map fun (k : Nat) => .int k) h else .bad
    | _ => .bad
  | .rng2 a b, sl, h => (evalE p c a sl h).bind fun x h => (evalE p c b sl h).bind fun y h => match x, y with
    | .int i, .int j => if small62 i = true ∧ small62 j = true then .ok (rngL i (j - i).toNat 1) h else .bad
    | _, _ => .bad
  | .rng3 a b k, sl, h => (evalE p c a sl h).bind fun x h => (evalE p c b sl h).bind fun y h => (evalE p c k sl h).bind fun z h => match x, y, z with
    | .int i, .int j, .int k => if rngOk i j k = true then .ok (rngL i (Builtin.Range.rangeSize i j k).toNat k) h else .bad
    | _, _, _ => .bad
  | .zip a b, sl, h => (evalE p c a sl h).bind fun x h => (evalE p c b sl h).bind fun y h => match x, y with
    | .tup xs, .tup ys => .ok ((xs.zip ys).map fun q => .pr q.1 q.2) h
    | a, b => match frzL h a, frzL h b with
      | some xs, some ys => .ok ((xs.zip ys).map fun q => .pr q.1 q.2) h
      | _, _ => .bad
  | .enum a, sl, h => (evalE p c a sl h).bind fun x h => match x with
    | .lst xs => .ok ((List.range xs.length).zip xs |>.map fun q => .pr (.int q.1) q.2) h
    | _ => .bad
end
mutual
/-- what an error may bear: atoms, tuples -/
def pay : D → Bool
  | .non => true
  | .bl _ => true
  | .int _ => true
  | .str _ => true
  | .tup xs => pays xs
  | _ => false
def pays : List D → Bool
  | [] => true
  | d :: ds => pay d && pays ds
end
/-- the classes of errors: 0 is above all others -/
def exSub (C j : Nat) : Bool := decide (C = j) || decide (j = 0)
def unn (nm : Option Nat) (sl : List (Option D)) : List (Option D) := match nm with | some i => sl.set i none | none => sl
mutual
def evalH (p : Pg) (c : Calls) (C : Nat) (q : Option D) : HE → List (Option D) → Mm → Res Mm D
  | .q e, sl, h => noExn (evalE p c e sl h)
  | .isx j, _, h => .ok (.bl (exSub C j)) h
  | .isb, _, h => .ok (.bl true) h
  | .prob, _, h => match q with | some d => .ok d h | none => .bad
  | .tup es, sl, h => (evalHs p c C q es sl h).bind fun xs h => mkT xs h
  | .lst obj es, sl, h => (evalHs p c C q es sl h).bind fun xs h => mkL obj xs h
  | .bop k es, sl, h => evalHB p c C q k es sl h
  | .not_ e, sl, h => (evalH p c C q e sl h).bind fun x h => match truthD h x with | some b => .ok (.bl (!b)) h | none => .bad
def evalHs (p : Pg) (c : Calls) (C : Nat) (q : Option D) : List HE → List (Option D) → Mm → Res Mm (List D)
  | [], _, h => .ok [] h
  | e :: es, sl, h => (evalH p c C q e sl h).bind fun x h => (evalHs p c C q es sl h).bind fun xs h => .ok (x :: xs) h
def evalHB (p : Pg) (c : Calls) (C : Nat) (q : Option D) (k : Bool) : List HE → List (Option D) → Mm → Res Mm D
  | [], _, _ => .bad
  | [e], sl, h => evalH p c C q e sl h
  | e :: es, sl, h => (evalH p c C q e sl h).bind fun x h => match truthD h x with
    | some b => if b = k then evalHB p c C q k es sl h else .ok x h
    | none => .bad
end
structure Sx where
  sl : List (Option D)
  hp : Mm
inductive Fl where
  | nx | bk | ct | rt (d : D)
/-- an expression's end, taken up by a statement -/
def up {α β : Type} (sl : List (Option D)) (r : Res Mm α) (k : α → Mm → Res Sx β) : Res Sx β :=
  match r with
  | .ok a h => k a h
  | .exn C p h => .exn C p ⟨sl, h⟩
  | .bad => .bad
@[simp] theorem up_ok {α β : Type} (sl : List (Option D)) (a : α) (h : Mm) (k : α → Mm → Res Sx β) : up sl (.ok a h) k = k a h := rfl
@[simp] theorem up_exn {α β : Type} (sl : List (Option D)) (C : Nat) (p : Option D) (h : Mm) (k : α → Mm → Res Sx β) : up sl (.exn C p h : Res Mm α) k = .exn C p ⟨sl, h⟩ := rfl
@[simp] theorem up_bad {α β : Type} (sl : List (Option D)) (k : α → Mm → Res Sx β) : up sl (.bad : Res Mm α) k = .bad := rfl
/-- the items one after another -/
def forL (f : D → Sx → Res Sx Fl) : List D → Sx → Res Sx Fl
  | [], s => .ok .nx s
  | x :: xs, s => (f x s).bind fun r s => match r with
    | .nx => forL f xs s
    | .ct => forL f xs s
    | .bk => .ok .nx s
    | .rt d => .ok (.rt d) s
def whileL (f : Sx → Res Sx (Option Fl)) : Nat → Sx → Res Sx Fl
  | 0, _ => .bad
  | n + 1, s => (f s).bind fun r s => match r with
    | none => .ok .nx s
    | some .nx => whileL f n s
    | some .ct => whileL f n s
    | some .bk => .ok .nx s
    | some (.rt d) => .ok (.rt d) s
mutual
def execH (p : Pg) (c : Calls) (C : Nat) (q : Option D) : HS → Sx → Res Sx Fl
  | .ret e, s => up s.sl (evalH p c C q e s.sl s.hp) fun d h => .ok (.rt d) ⟨s.sl, h⟩
  | .retn, s => .ok (.rt .non) s
  | .pass, s => .ok .nx s
  | .ite k a b, s => up s.sl (evalH p c C q k s.sl s.hp) fun x h => match truthD h x with
    | some true => execHs p c C q a ⟨s.sl, h⟩
    | some false => execHs p c C q b ⟨s.sl, h⟩
    | none => .bad
def execHs (p : Pg) (c : Calls) (C : Nat) (q : Option D) : List HS → Sx → Res Sx Fl
  | [], s => .ok .nx s
  | m :: ms, s => (execH p c C q m s).bind fun r s => match r with
    | .nx => execHs p c C q ms s
    | r => .ok r s
end
mutual
def execS (p : Pg) (c : Calls) : MS → Sx → Res Sx Fl
  | .ex e, s => up s.sl (evalE p c e s.sl s.hp) fun _ h => .ok .nx ⟨s.sl, h⟩
  | .ret e, s => up s.sl (evalE p c e s.sl s.hp) fun d h => .ok (.rt d) ⟨s.sl, h⟩
  | .retn, s => .ok (.rt .non) s
  | .set i e, s => up s.sl (evalE p c e s.sl s.hp) fun d h => .ok .nx ⟨s.sl.set i (some d), h⟩
  | .unp g e, s => up s.sl (evalE p c e s.sl s.hp) fun d h => match bindT g d s.sl with
    | some sl => .ok .nx ⟨sl, h⟩
    | none => .bad
  | .setf o f e, s => up s.sl (evalE p c e s.sl s.hp) fun d h => up s.sl (evalE p c o s.sl h) fun x h => match setFD x f d h with
    | some h => .ok .nx ⟨s.sl, h⟩
    | none => .bad
  | .seti o i e, s => up s.sl (evalE p c e s.sl s.hp) fun d h => up s.sl (evalE p c o s.sl h) fun x h => up s.sl (evalE p c i s.sl h) fun y h => match setID x y d h with
    | some h => .ok .nx ⟨s.sl, h⟩
    | none => .bad
  | .setsl o i k e, s => up s.sl (evalE p c e s.sl s.hp) fun d h => up s.sl (evalE p c o s.sl h) fun x h => up s.sl (evalE p c i s.sl h) fun y h => match y with
    | .int y => up s.sl (evalE p c k s.sl h) fun z h => match z with
      | .int z => match setSD x y z d h with
        | some h => .ok .nx ⟨s.sl, h⟩
        | none => .bad
      | _ => .bad
    | _ => .bad
  | .aug i o e, s => match s.sl[i]? with
    | some (some x) => up s.sl (evalE p c e s.sl s.hp) fun y h => match augD o x y with
      | some z => .ok .nx ⟨s.sl.set i (some z), h⟩
      | none => .bad
    | _ => .bad
  | .augf o f op e, s => up s.sl (evalE p c o s.sl s.hp) fun x h => match fldD h f x with
    | some v => up s.sl (evalE p c e s.sl h) fun y h' => match augD op v y with
      | some z => if clsD h' x = clsD h x then match setFD x f z h' with
          | some h => .ok .nx ⟨s.sl, h⟩
          | none => .bad
        else .bad
      | none => .bad
    | none => .bad
  | .augi o i op e, s => up s.sl (evalE p c o s.sl s.hp) fun x h => up s.sl (evalE p c i s.sl h) fun y h => match idxM h x y with
    | some v => up s.sl (evalE p c e s.sl h) fun z h => match augD op v z with
      | some z => match setID x y z h with
        | some h => .ok .nx ⟨s.sl, h⟩
        | none => .bad
      | none => .bad
    | none => .bad
  | .ite k a b, s => up s.sl (evalE p c k s.sl s.hp) fun x h => match truthD h x with
    | some true => execSs p c a ⟨s.sl, h⟩
    | some false => execSs p c b ⟨s.sl, h⟩
    | none => .bad
  | .for_ g it body, s => up s.sl (evalI p c it s.sl s.hp) fun xs h =>
      forL (fun x s => match bindT g x s.sl with
        | some sl => execSs p c body ⟨sl, s.hp⟩
        | none => .bad) xs ⟨s.sl, h⟩
  | .while_ fuel k body, s => whileL (fun s => up s.sl (evalE p c k s.sl s.hp) fun x h => match truthD h x with
      | some true => (execSs p c body ⟨s.sl, h⟩).bind fun r s => .ok (some r) s
      | some false => .ok none ⟨s.sl, h⟩
      | none => .bad) fuel s
  | .brk, s => .ok .bk s
  | .cont, s => .ok .ct s
  | .pass, s => .ok .nx s
  | .dput o i e, s => up s.sl (evalE p c e s.sl s.hp) fun d h => up s.sl (evalE p c o s.sl h) fun x h => up s.sl (evalE p c i s.sl h) fun y h => match dputD x y d h with
    | some h => .ok .nx ⟨s.sl, h⟩
    | none => .bad
  | .forP g e body, s => match evalE p c e s.sl s.hp with
    | .ok (.ref n) _ => match s.hp[n]? with
      | some (.dct kvs) => match forL (fun x s => match bindT g x s.sl with
          | some sl => execSs p c body ⟨sl, s.hp⟩
          | none => .bad) (kvs.map fun kv => keyD kv.1) ⟨s.sl, s.hp.set n (.ldct kvs)⟩ with
        | .ok r s' => match s'.hp[n]? with
          | some (.ldct kvs) => .ok r ⟨s'.sl, s'.hp.set n (.dct kvs)⟩
          | _ => .bad
        | _ => .bad
      | some (.lst xs) => match forL (fun x s => match bindT g x s.sl with
          | some sl => execSs p c body ⟨sl, s.hp⟩
          | none => .bad) xs ⟨s.sl, s.hp.set n (.llst xs)⟩ with
        | .ok r s' => match s'.hp[n]? with
          | some (.llst xs) => .ok r ⟨s'.sl, s'.hp.set n (.lst xs)⟩
          | _ => .bad
        | _ => .bad
      | some (.tct kvs) => match forL (fun x s => match bindT g x s.sl with
          | some sl => execSs p c body ⟨sl, s.hp⟩
          | none => .bad) (kvs.map fun kv => kv.1) ⟨s.sl, s.hp.set n (.ltct kvs)⟩ with
        | .ok r s' => match s'.hp[n]? with
          | some (.ltct kvs) => .ok r ⟨s'.sl, s'.hp.set n (.tct kvs)⟩
          | _ => .bad
        | _ => .bad
      | _ => .bad
    | .ok (.tup xs) h => forL (fun x s => match bindT g x s.sl with
        | some sl => execSs p c body ⟨sl, s.hp⟩
        | none => .bad) xs ⟨s.sl, h⟩
    | .ok (.lst xs) h => forL (fun x s => match bindT g x s.sl with
        | some sl => execSs p c body ⟨sl, s.hp⟩
        | none => .bad) xs ⟨s.sl, h⟩
    | .ok (.scr xs) h => forL (fun x s => match bindT g x s.sl with
        | some sl => execSs p c body ⟨sl, s.hp⟩
        | none => .bad) xs ⟨s.sl, h⟩
    | _ => .bad
  | .no, _ => .bad
  | .rse j, s => .exn j none s
  | .lks o m, s => match evalE p c o s.sl s.hp with
    | .ok (.ref n) _ => match s.hp[n]? with
      | some (.lst xs) => match execS p c m ⟨s.sl, s.hp.set n (.llst xs)⟩ with
        | .ok r s' => match s'.hp[n]? with
          | some (.llst xs) => .ok r ⟨s'.sl, s'.hp.set n (.lst xs)⟩
          | _ => .bad
        | _ => .bad
      | _ => .bad
    | .ok _ _ => execS p c m s
    | _ => .bad
  | .augd o i op e, s => up s.sl (evalE p c o s.sl s.hp) fun x h => up s.sl (evalE p c i s.sl h) fun y h => match atD h x y, isKey y with
    | some (some v), some _ => up s.sl (evalE p c e s.sl h) fun z h => match augD op v z with
      | some z => match dputD x y z h with
        | some h => .ok .nx ⟨s.sl, h⟩
        | none => .bad
      | none => .bad
    | _, _ => .bad
  | .rsp j e, s => up s.sl (evalE p c e s.sl s.hp) fun d h => if pay d = true then .exn j (some d) ⟨s.sl, h⟩ else .bad
  | .try_ body j nm hd, s => match execSs p c body s with
    | .exn C q s' => if exSub C j = true then (match execHs p c C q hd ⟨unn nm s'.sl, s'.hp⟩ with
        | .ok f t => .ok f ⟨unn nm t.sl, t.hp⟩
        | _ => .bad) else .exn C q s'
    | r => r
  | .frzv i, s => match s.sl[i]? with
    | some (some x) => up s.sl (frzD x s.hp) fun d h => .ok .nx ⟨s.sl.set i (some d), h⟩
    | _ => .bad
  | .frzs i, s => match s.sl[i]? with
    | some (some (.ref n)) => match s.hp[n]? with
      | some (.lst xs) => .ok .nx ⟨s.sl.set i (some (.lst xs)), s.hp.set n .dead⟩
      | _ => .bad
    | some (some _) => .ok .nx s
    | _ => .bad
def execSs (p : Pg) (c : Calls) : List MS → Sx → Res Sx Fl
  | [], s => .ok .nx s
  | m :: ms, s => (execS p c m s).bind fun r s => match r with
    | .nx => execSs p c ms s
    | r => .ok r s
end
def rtD : Fl → Option D
  | .nx => some .non
  | .rt d => some d
  | _ => none
/-- a def's end -/
def fin (r : Res Sx Fl) : Res Mm D :=
  match r with
  | .ok f s => match rtD f with | some d => .ok d s.hp | none => .bad
  | .exn C p s => .exn C p s.hp
  | .bad => .bad
/-- .. of one that is run by itself: nothing of what it made is left but its value -/
def finP (fr : Bool) (h : Mm) (r : Res Sx Fl) : Res Mm D :=
  match r with
  | .ok f s => match (rtD f).bind fun d => if fr = true then rsv s.hp 9 d else own s.hp 9 d with | some d => .ok d h | none => .bad
  | .exn C p _ => .exn C p h
  | .bad => .bad
def callN (p : Pg) : Nat → Calls
  | 0 => fun _ _ _ => .bad
  | n + 1 => fun f as h => match p.fns[f]? with
    | some fd => if as.length = fd.np then
        (if fd.pure_ = true then (if nrs as = true then finP true h (execSs p (callN p n) fd.body ⟨as.map some ++ List.replicate (fd.nl - fd.np) none, []⟩)
          else match as.mapM (rsv h 9) with
            | some as => finP false h (execSs p (callN p n) fd.body ⟨as.map some ++ List.replicate (fd.nl - fd.np) none, []⟩)
            | none => .bad)
        else fin (execSs p (callN p n) fd.body ⟨as.map some ++ List.replicate (fd.nl - fd.np) none, h⟩))
      else .bad
    | none => .bad
end R
namespace R
open PySem PyProof.Rows PySem.SeqAt PySem.MeetsSeq PySem.MeetsSeq2 PySem.MeetsSeq3 PySem.SeqRoads2
open PySem.AutoSeq1 (wpAny_loadPart')
abbrev TupO (d : Option Addr) (us : Array Value) (m : Nat) (sl : Array (Option Value)) : Obj := { cls := .type "tuple", dict := d, data := .seq us m, slots := sl }
/-- the first place that differs decides -/
def fstLt (e r : Nat → Bool) (fin : Bool) : List Nat → Bool
  | [] => fin
  | j :: t => bif e j then fstLt e r fin t else r j
theorem fstLt_yes {e r : Nat → Bool} {fin : Bool} {j : Nat} {t : List Nat} (h : e j = true) : fstLt e r fin (j :: t) = fstLt e r fin t := by simp [fstLt, h]
theorem fstLt_no {e r : Nat → Bool} {fin : Bool} {j : Nat} {t : List Nat} (h : e j = false) : fstLt e r fin (j :: t) = r j := by simp [fstLt, h]
def RcX (op : CmpOp) (A : Around) (s : Shared) (y x : Value) (k : Bool) : Prop :=
  ∀ (P : Program) (w : World) (E : Value → Shared → Prop) (Q : Value → Shared → Prop), Q (.bool k) s → wpAny (model P w) A (richCompare op y x) Q E s
theorem tupX_lt (p q : Addr) (us vs : Array Value) (m n : Nat) (d1 d2 : Option Addr) (s1 s2 : Array (Option Value)) (e r : Nat → Bool) :
    Meets (Builtin.«tuple.__lt__» ⟨[.ref p, .ref q], []⟩) (fun A R s =>
      s.heap.get? p = some (TupO d1 us m s1) ∧ s.heap.get? q = some (TupO d2 vs n s2) ∧
      (∀ j (j1 : j < us.size) (j2 : j < vs.size), EqAt A.in1 s us[j] vs[j] (e j)) ∧
      (∀ j (j1 : j < us.size) (j2 : j < vs.size), (∀ i, i < j → e i = true) → e j = false → RcX .Lt A.in1 s us[j] vs[j] (r j)) ∧
      R (.ok (.ret (.bool (fstLt e r (decide (us.size < vs.size)) (List.range (min us.size vs.size)))))) s) :=
  .of_wp fun prog w A R s z => by
    obtain ⟨hp, g, d, tk, os⟩ := s
    obtain ⟨at1, at2, eqs, les, fin⟩ := z
    have cls := AutoSeq1.sub_tuple_tuple
    have len : (us.toList.zip vs.toList).length = min us.size vs.size := by simp
    wp_walk using wpAny_loadPart' at1, wpAny_loadPart' at2, wpAny_forIn_list _ (fun todo acc now => acc.1 = none ∧ now = ⟨hp, g, d, tk, os⟩ ∧ ∃ k, (∀ i, i < k → e i = true) ∧ todo = (us.toList.zip vs.toList).drop k ∧
      R (.ok (.ret (.bool (fstLt e r (decide (us.size < vs.size)) ((List.range (min us.size vs.size)).drop k))))) ⟨hp, g, d, tk, os⟩) _
    case turn =>
      rintro ⟨y, x⟩ todo acc now ⟨ac, rfl, k, same, tz, fin⟩
      have kl : k < (us.toList.zip vs.toList).length := Decidable.byContradiction fun no => by
        rw [List.drop_of_length_le (Nat.le_of_not_lt no)] at tz; cases tz
      have km : k < min us.size vs.size := by rw [← len]; exact kl
      have k1 : k < us.size := by omega
      have k2 : k < vs.size := by omega
      rw [List.drop_eq_getElem_cons kl] at tz
      injection tz with hd tl
      have ey : y = us[k] := by simpa using congrArg Prod.fst hd
      have ex : x = vs[k] := by simpa using congrArg Prod.snd hd
      rw [ey, ex]
      have dr : (List.range (min us.size vs.size)).drop k = k :: (List.range (min us.size vs.size)).drop (k + 1) := by simp [List.drop_eq_getElem_cons, km]
      rw [dr] at fin
      refine wpAny_bind (eqs k k1 k2 prog w _ _ ?_)
      cases ek : e k with
      | true =>
        rw [fstLt_yes ek] at fin
        wp_walk
        refine ⟨rfl, rfl, k + 1, fun i hi => ?_, tl, fin⟩
        by_cases z : i = k
        · rw [z]; exact ek
        · exact same i (by omega)
      | false =>
        rw [fstLt_no ek] at fin
        have step := les k k1 k2 same ek prog w
        wp_walk using step
        exact ⟨_, rfl, by simpa using fin⟩
    case fin =>
      rintro ⟨a1, a2⟩ now ⟨ac, rfl, k, same, tz, fin⟩
      have ac : a1 = none := ac
      rw [ac]
      have ge : min us.size vs.size ≤ k := Decidable.byContradiction fun no => by
        rw [List.drop_eq_getElem_cons (by rw [len]; omega)] at tz; cases tz
      rw [List.drop_of_length_le (by rw [List.length_range]; exact ge)] at fin
      wp_walk
      exact ⟨_, rfl, by simpa [Builtin.Tuple.tupleCompareSizes, fstLt] using fin⟩
    case h =>
      exact ⟨rfl, rfl, 0, fun i hi => absurd hi (Nat.not_lt_zero i), rfl, by simpa using fin⟩
theorem rcX_lt {A : Around} {s : Shared} {p q : Addr} {us vs : Array Value} {e r : Nat → Bool} (at1 : s.heap.IsTuple p us) (at2 : s.heap.IsTuple q vs) (room : A.units < cLine)
    (eqs : ∀ j (j1 : j < us.size) (j2 : j < vs.size), EqAt A.in1 s us[j] vs[j] (e j))
    (les : ∀ j (j1 : j < us.size) (j2 : j < vs.size), (∀ i, i < j → e i = true) → e j = false → RcX .Lt A.in1 s us[j] vs[j] (r j)) :
    RcX .Lt A s (.ref p) (.ref q) (fstLt e r (decide (us.size < vs.size)) (List.range (min us.size vs.size))) := fun P w E Q fin => by
  obtain ⟨⟨c1, d1, da1, s1⟩, o1, hc1, m, hd1⟩ := id at1
  obtain ⟨⟨c2, d2, da2, s2⟩, o2, hc2, n, hd2⟩ := id at2
  simp only at hc1 hd1 hc2 hd2
  subst hc1 hd1 hc2 hd2
  exact richCompare_meets_room (op := .Lt) ⟨_, o1, rfl⟩ ⟨_, o2, rfl⟩ F.slot_tuple_lt F.entry_tuple_lt (F.args_tuple_lt_2 _ _)
    (tupX_lt p q us vs m n d1 d2 s1 s2 e r) ⟨o1, o2, eqs, les, ⟨(fun x => nomatch x), fin⟩⟩ room
theorem tupX_gt (p q : Addr) (us vs : Array Value) (m n : Nat) (d1 d2 : Option Addr) (s1 s2 : Array (Option Value)) (e r : Nat → Bool) :
    Meets (Builtin.«tuple.__gt__» ⟨[.ref p, .ref q], []⟩) (fun A R s =>
      s.heap.get? p = some (TupO d1 us m s1) ∧ s.heap.get? q = some (TupO d2 vs n s2) ∧
      (∀ j (j1 : j < us.size) (j2 : j < vs.size), EqAt A.in1 s us[j] vs[j] (e j)) ∧
      (∀ j (j1 : j < us.size) (j2 : j < vs.size), (∀ i, i < j → e i = true) → e j = false → RcX .Gt A.in1 s us[j] vs[j] (r j)) ∧
      R (.ok (.ret (.bool (fstLt e r (decide (us.size > vs.size)) (List.range (min us.size vs.size)))))) s) :=
  .of_wp fun prog w A R s z => by
    obtain ⟨hp, g, d, tk, os⟩ := s
    obtain ⟨at1, at2, eqs, les, fin⟩ := z
    have cls := AutoSeq1.sub_tuple_tuple
    have len : (us.toList.zip vs.toList).length = min us.size vs.size := by simp
    wp_walk using wpAny_loadPart' at1, wpAny_loadPart' at2, wpAny_forIn_list _ (fun todo acc now => acc.1 = none ∧ now = ⟨hp, g, d, tk, os⟩ ∧ ∃ k, (∀ i, i < k → e i = true) ∧ todo = (us.toList.zip vs.toList).drop k ∧
      R (.ok (.ret (.bool (fstLt e r (decide (us.size > vs.size)) ((List.range (min us.size vs.size)).drop k))))) ⟨hp, g, d, tk, os⟩) _
    case turn =>
      rintro ⟨y, x⟩ todo acc now ⟨ac, rfl, k, same, tz, fin⟩
      have kl : k < (us.toList.zip vs.toList).length := Decidable.byContradiction fun no => by
        rw [List.drop_of_length_le (Nat.le_of_not_lt no)] at tz; cases tz
      have km : k < min us.size vs.size := by rw [← len]; exact kl
      have k1 : k < us.size := by omega
      have k2 : k < vs.size := by omega
      rw [List.drop_eq_getElem_cons kl] at tz
      injection tz with hd tl
      have ey : y = us[k] := by simpa using congrArg Prod.fst hd
      have ex : x = vs[k] := by simpa using congrArg Prod.snd hd
      rw [ey, ex]
      have dr : (List.range (min us.size vs.size)).drop k = k :: (List.range (min us.size vs.size)).drop (k + 1) := by simp [List.drop_eq_getElem_cons, km]
      rw [dr] at fin
      refine wpAny_bind (eqs k k1 k2 prog w _ _ ?_)
      cases ek : e k with
      | true =>
        rw [fstLt_yes ek] at fin
        wp_walk
        refine ⟨rfl, rfl, k + 1, fun i hi => ?_, tl, fin⟩
        by_cases z : i = k
        · rw [z]; exact ek
        · exact same i (by omega)
      | false =>
        rw [fstLt_no ek] at fin
        have step := les k k1 k2 same ek prog w
        wp_walk using step
        exact ⟨_, rfl, by simpa using fin⟩
    case fin =>
      rintro ⟨a1, a2⟩ now ⟨ac, rfl, k, same, tz, fin⟩
      have ac : a1 = none := ac
      rw [ac]
      have ge : min us.size vs.size ≤ k := Decidable.byContradiction fun no => by
        rw [List.drop_eq_getElem_cons (by rw [len]; omega)] at tz; cases tz
      rw [List.drop_of_length_le (by rw [List.length_range]; exact ge)] at fin
      wp_walk
      exact ⟨_, rfl, by simpa [Builtin.Tuple.tupleCompareSizes, fstLt] using fin⟩
    case h =>
      exact ⟨rfl, rfl, 0, fun i hi => absurd hi (Nat.not_lt_zero i), rfl, by simpa using fin⟩
theorem rcX_gt {A : Around} {s : Shared} {p q : Addr} {us vs : Array Value} {e r : Nat → Bool} (at1 : s.heap.IsTuple p us) (at2 : s.heap.IsTuple q vs) (room : A.units < cLine)
    (eqs : ∀ j (j1 : j < us.size) (j2 : j < vs.size), EqAt A.in1 s us[j] vs[j] (e j))
    (les : ∀ j (j1 : j < us.size) (j2 : j < vs.size), (∀ i, i < j → e i = true) → e j = false → RcX .Gt A.in1 s us[j] vs[j] (r j)) :
    RcX .Gt A s (.ref p) (.ref q) (fstLt e r (decide (us.size > vs.size)) (List.range (min us.size vs.size))) := fun P w E Q fin => by
  obtain ⟨⟨c1, d1, da1, s1⟩, o1, hc1, m, hd1⟩ := id at1
  obtain ⟨⟨c2, d2, da2, s2⟩, o2, hc2, n, hd2⟩ := id at2
  simp only at hc1 hd1 hc2 hd2
  subst hc1 hd1 hc2 hd2
  exact richCompare_meets_room (op := .Gt) ⟨_, o1, rfl⟩ ⟨_, o2, rfl⟩ F.slot_tuple_gt F.entry_tuple_gt (F.args_tuple_gt_2 _ _)
    (tupX_gt p q us vs m n d1 d2 s1 s2 e r) ⟨o1, o2, eqs, les, ⟨(fun x => nomatch x), fin⟩⟩ room
open L2
def kEq (xs ys : List Key) (j : Nat) : Bool := decide (xs[j]? = ys[j]?)
def kLt (xs ys : List Key) (j : Nat) : Bool := match xs[j]?, ys[j]? with | some x, some y => (keyLt x y).getD false | _, _ => false
theorem ltK_first : ∀ (xs ys : List Key) (k : Bool), ltK xs ys = some k → ∀ (e r : Nat → Bool) (i : Nat), (∀ j, e (i + j) = kEq xs ys j) → (∀ j, r (i + j) = kLt xs ys j) →
    fstLt e r (decide (xs.length < ys.length)) ((List.range' i (min xs.length ys.length))) = k ∧ True
  | [], [], k, h, e, r, i, he, hr => by
    simp [ltK] at h
    subst h
    simp [fstLt]
  | [], y :: ys, k, h, e, r, i, he, hr => by
    simp [ltK] at h
    subst h
    simp [fstLt]
  | x :: xs, [], k, h, e, r, i, he, hr => by
    simp [ltK] at h
    subst h
    simp [fstLt]
  | x :: xs, y :: ys, k, h, e, r, i, he, hr => by
    have h0 := he 0
    have r0 := hr 0
    simp only [Nat.add_zero, kEq, kLt, List.getElem?_cons_zero] at h0 r0
    have em : min (x :: xs).length (y :: ys).length = min xs.length ys.length + 1 := by simp only [List.length_cons]; omega
    rw [em, List.range'_succ]
    by_cases q : x = y
    · rw [ltK, if_pos q] at h
      rw [fstLt_yes (by rw [h0, q]; simp)]
      have ih := ltK_first xs ys k h e r (i + 1) (fun j => by rw [Nat.add_assoc, Nat.add_comm 1 j, he (j + 1)]; simp [kEq]) (fun j => by rw [Nat.add_assoc, Nat.add_comm 1 j, hr (j + 1)]; simp [kLt])
      have el : decide ((x :: xs).length < (y :: ys).length) = decide (xs.length < ys.length) := by simp
      rw [el]
      exact ih
    · rw [ltK, if_neg q] at h
      rw [fstLt_no (by rw [h0]; simp [q])]
      rw [r0, h]
      exact ⟨rfl, trivial⟩
/-- at the first difference the two have an order -/
theorem ltK_ord : ∀ {xs ys : List Key} {k : Bool}, ltK xs ys = some k → ∀ (j : Nat) {x y : Key}, xs[j]? = some x → ys[j]? = some y → (∀ i, i < j → kEq xs ys i = true) → x ≠ y → ∃ b, keyLt x y = some b
  | [], _, _, _, j, x, y, hx, _, _, _ => by simp at hx
  | _ :: _, [], _, _, j, x, y, _, hy, _, _ => by simp at hy
  | a :: xs, b :: ys, k, h, 0, x, y, hx, hy, _, ne => by
    simp at hx hy
    subst hx hy
    rw [ltK, if_neg ne] at h
    exact ⟨k, h⟩
  | a :: xs, b :: ys, k, h, j + 1, x, y, hx, hy, same, ne => by
    have q : a = b := by
      have z := same 0 (Nat.succ_pos j)
      simpa [kEq] using z
    rw [ltK, if_pos q] at h
    exact ltK_ord h j (by simpa using hx) (by simpa using hy) (fun i hi => by
      have z := same (i + 1) (Nat.succ_lt_succ hi)
      simpa [kEq] using z) ne
/-- items as keys in the machine's hands -/
inductive KVs : List Key → List Value → Prop where
  | nil : KVs [] []
  | int {i : Int} {t : Tok} {ks : List Key} {us : List Value} : KVs ks us → KVs (.inl i :: ks) (.int i t :: us)
  | str {x : Str} {t : Tok} {ks : List Key} {us : List Value} : KVs ks us → KVs (.inr x :: ks) (.str x t :: us)
theorem KVs.len : ∀ {ks : List Key} {us : List Value}, KVs ks us → ks.length = us.length
  | _, _, .nil => rfl
  | _, _, .int h => congrArg (· + 1) h.len
  | _, _, .str h => congrArg (· + 1) h.len
theorem KVs.at : ∀ {ks : List Key} {us : List Value}, KVs ks us → ∀ (j : Nat) (h : j < us.length), (∃ i t, ks[j]? = some (.inl i) ∧ us[j] = .int i t) ∨ ∃ x t, ks[j]? = some (.inr x) ∧ us[j] = .str x t
  | _, _, .nil, j, h => absurd h (Nat.not_lt_zero j)
  | _, _, .int (i := i) (t := t) r, 0, h => .inl ⟨i, t, rfl, rfl⟩
  | _, _, .str (x := x) (t := t) r, 0, h => .inr ⟨x, t, rfl, rfl⟩
  | _, _, .int r, j + 1, h => r.at j (Nat.lt_of_succ_lt_succ h)
  | _, _, .str r, j + 1, h => r.at j (Nat.lt_of_succ_lt_succ h)
theorem eqAt_keys {A : Around} {s : Shared} {ks ls : List Key} {us vs : List Value} (h1 : KVs ks us) (h2 : KVs ls vs) (j : Nat) (j1 : j < us.length) (j2 : j < vs.length) : SeqAt.EqAt A s us[j] vs[j] (kEq ks ls j) := by
  unfold kEq
  rcases h1.at j j1 with ⟨i, t, e1, e2⟩ | ⟨x, t, e1, e2⟩
  · rcases h2.at j j2 with ⟨i', t', e3, e4⟩ | ⟨x', t', e3, e4⟩
    · rw [e1, e2, e3, e4]
      have := SeqAt.EqAt.int_int (A := A) (s := s) i t i' t'
      have e : (decide (some (Sum.inl i : Key) = some (Sum.inl i'))) = (i == i') := by
        by_cases q : i = i'
        · subst q; simp
        · simp [q]
      rw [e]; exact this
    · rw [e1, e2, e3, e4]
      have e : (decide (some (Sum.inl i : Key) = some (Sum.inr x'))) = false := by simp
      rw [e]; exact SeqAt.EqAt.int_str i t x' t'
  · rcases h2.at j j2 with ⟨i', t', e3, e4⟩ | ⟨x', t', e3, e4⟩
    · rw [e1, e2, e3, e4]
      have e : (decide (some (Sum.inr x : Key) = some (Sum.inl i'))) = false := by simp
      rw [e]; exact SeqAt.EqAt.str_int x t i' t'
    · rw [e1, e2, e3, e4]
      have := SeqAt.EqAt.str_str (A := A) (s := s) x t x' t'
      have e : (decide (some (Sum.inr x : Key) = some (Sum.inr x'))) = (x == x') := by
        by_cases q : x = x'
        · subst q; simp
        · simp [q]
      rw [e]; exact this
theorem lt_key {A : Around} {s : Shared} {ks ls : List Key} {us vs : List Value} (h1 : KVs ks us) (h2 : KVs ls vs) (j : Nat) (j1 : j < us.length) (j2 : j < vs.length) {x y : Key} {b : Bool} (ex : ks[j]? = some x) (ey : ls[j]? = some y) (hk : keyLt x y = some b) :
    RcX .Lt A s us[j] vs[j] b ∧ RcX .Gt A s vs[j] us[j] b := by
  rcases h1.at j j1 with ⟨i, t, e1, e2⟩ | ⟨z, t, e1, e2⟩
  · rcases h2.at j j2 with ⟨i', t', e3, e4⟩ | ⟨z', t', e3, e4⟩
    · rw [e2, e4]
      rw [e1] at ex; rw [e3] at ey
      cases ex; cases ey; cases hk
      exact ⟨fun P w E Q q => show wpAny (model P w) A (compareOp .Lt _ _) Q E s from lt_int q, fun P w E Q q => show wpAny (model P w) A (compareOp .Gt _ _) Q E s from gt_int q⟩
    · rw [e1] at ex; rw [e3] at ey
      cases ex; cases ey; cases hk
  · rcases h2.at j j2 with ⟨i', t', e3, e4⟩ | ⟨z', t', e3, e4⟩
    · rw [e1] at ex; rw [e3] at ey
      cases ex; cases ey; cases hk
    · rw [e2, e4]
      rw [e1] at ex; rw [e3] at ey
      cases ex; cases ey; cases hk
      exact ⟨fun P w E Q q => show wpAny (model P w) A (compareOp .Lt _ _) Q E s from lt_str q, fun P w E Q q => show wpAny (model P w) A (compareOp .Gt _ _) Q E s from PySem.P.gt_str q⟩
theorem kvs_of : ∀ {ks : List Key} {us : List Value}, Vals (ks.map kV) us → KVs ks us
  | [], _, .nil => .nil
  | .inl i :: ks, _, .cons r h => by
    obtain ⟨t, rfl⟩ := r
    exact .int (kvs_of h)
  | .inr x :: ks, _, .cons r h => by
    obtain ⟨t, rfl⟩ := r
    exact .str (kvs_of h)
theorem kEq_swap (ks ls : List Key) (j : Nat) : kEq ls ks j = kEq ks ls j := by
  unfold kEq
  by_cases q : ks[j]? = ls[j]?
  · rw [q]
  · rw [decide_eq_false q, decide_eq_false fun z => q z.symm]
section
variable {X : Cx}
def rLtX (K : PySem.W.Frag) : R2 := fun x y H Q => ∃ a b ks ls k, x = .ref a ∧ y = .ref b ∧ SqT K H a (ks.map kV) ∧ SqT K H b (ls.map kV) ∧ ltK ks ls = some k ∧ Q (.bl k) H
def rGtX (K : PySem.W.Frag) : R2 := fun x y H Q => ∃ a b ks ls k, x = .ref a ∧ y = .ref b ∧ SqT K H a (ks.map kV) ∧ SqT K H b (ls.map kV) ∧ ltK ls ks = some k ∧ Q (.bl k) H
theorem op_ltX (room : X.A.units < cLine) : OpR X (compareOp .Lt) (rLtX X.K) := by
  intro pins s σ H x y v u Q I rx ry h
  obtain ⟨a, b, ks, ls, k, rfl, rfl, ha, hb, hk, q⟩ := h
  cases rx
  cases ry
  obtain ⟨us, r1, p1, _⟩ := I.tuple ha
  obtain ⟨vs, r2, p2, _⟩ := I.tuple hb
  have w1 := kvs_of r1
  have w2 := kvs_of r2
  have key := rcX_lt (e := kEq ks ls) (r := kLt ks ls) p1 p2 room (fun j j1 j2 => eqAt_keys w1 w2 j j1 j2) (fun j j1 j2 same ne => by
    have l1 : j < ks.length := by rw [w1.len]; simpa using j1
    have l2 : j < ls.length := by rw [w2.len]; simpa using j2
    have e1 : ks[j]? = some ks[j] := List.getElem?_eq_getElem l1
    have e2 : ls[j]? = some ls[j] := List.getElem?_eq_getElem l2
    have d : ks[j] ≠ ls[j] := fun z => by simp [kEq, e1, e2, z] at ne
    obtain ⟨bb, hb⟩ := ltK_ord hk j e1 e2 same d
    have eb : kLt ks ls j = bb := by simp [kLt, e1, e2, hb]
    rw [eb]
    exact (lt_key w1 w2 j (by simpa using j1) (by simpa using j2) e1 e2 hb).1)
  have e := (ltK_first ks ls k hk (kEq ks ls) (kLt ks ls) 0 (fun j => by rw [Nat.zero_add]) (fun j => by rw [Nat.zero_add])).1
  have e3 : fstLt (kEq ks ls) (kLt ks ls) (decide (us.toArray.size < vs.toArray.size)) (List.range (min us.toArray.size vs.toArray.size)) = k := by
    rw [List.size_toArray, List.size_toArray, ← w1.len, ← w2.len, List.range_eq_range']
    exact e
  rw [e3] at key
  exact key _ _ _ _ ⟨.bl k, H, I, rfl, q⟩
theorem op_gtX (room : X.A.units < cLine) : OpR X (compareOp .Gt) (rGtX X.K) := by
  intro pins s σ H x y v u Q I rx ry h
  obtain ⟨a, b, ks, ls, k, rfl, rfl, ha, hb, hk, q⟩ := h
  cases rx
  cases ry
  obtain ⟨us, r1, p1, _⟩ := I.tuple ha
  obtain ⟨vs, r2, p2, _⟩ := I.tuple hb
  have w1 := kvs_of r1
  have w2 := kvs_of r2
  have key := rcX_gt (e := kEq ls ks) (r := kLt ls ks) p1 p2 room (fun j j1 j2 => by rw [kEq_swap]; exact eqAt_keys w1 w2 j j1 j2) (fun j j1 j2 same ne => by
    have l1 : j < ks.length := by rw [w1.len]; simpa using j1
    have l2 : j < ls.length := by rw [w2.len]; simpa using j2
    have e1 : ks[j]? = some ks[j] := List.getElem?_eq_getElem l1
    have e2 : ls[j]? = some ls[j] := List.getElem?_eq_getElem l2
    have d : ls[j] ≠ ks[j] := fun z => by simp [kEq, e1, e2, z] at ne
    obtain ⟨bb, hb⟩ := ltK_ord hk j e2 e1 same d
    have eb : kLt ls ks j = bb := by simp [kLt, e1, e2, hb]
    rw [eb]
    exact (lt_key w2 w1 j (by simpa using j2) (by simpa using j1) e2 e1 hb).2)
  have e := (ltK_first ls ks k hk (kEq ls ks) (kLt ls ks) 0 (fun j => by rw [Nat.zero_add]) (fun j => by rw [Nat.zero_add])).1
  have e3 : fstLt (kEq ls ks) (kLt ls ks) (decide (us.toArray.size > vs.toArray.size)) (List.range (min us.toArray.size vs.toArray.size)) = k := by
    rw [List.size_toArray, List.size_toArray, ← w1.len, ← w2.len, List.range_eq_range', Nat.min_comm]
    exact e
  rw [e3] at key
  exact key _ _ _ _ ⟨.bl k, H, I, rfl, q⟩
theorem extT (p : Addr) (us : Array Value) (m : Nat) (q : Addr) (vs : Array Value) (n : Nat) (d : Option Addr) (sl : Array (Option Value)) (c0 : ¬(!us.isEmpty && Builtin.List.listTooLong (us.size + vs.size)) = true) (c1 : us.size ≤ sizeLine) (c2 : us.size + vs.size ≤ sizeLine + 1) :
    Meets (Builtin.«list.extend» ⟨[.ref p, .ref q], []⟩) (fun _ R s => s.heap.get? p = some { cls := .type "list", data := .seq us m } ∧ s.heap.get? q = some (TupO d vs n sl) ∧
      R (.ok (.ret Value.none)) { s with heap := s.heap.update p (Obj.mapSeq fun x => x ++ vs), toks := s.toks }) :=
  .of_wp fun prog w A R s z => by
    obtain ⟨hp, g, d, tk, os⟩ := s
    obtain ⟨at1, at2, z⟩ := z
    have k1 := AutoSeq1.idx_int
    have k2 := AutoSeq1.sub_tuple_tuple
    have k3 := AutoSeq1.sub_list_list
    have k4 := AutoSeq1.sub_tuple_list
    have k5 := AutoSeq1.sub_list_tuple
    have big : (us ++ vs).size ≤ sizeLine + 1 := by rw [Array.size_append]; exact c2
    wp_walk using (wpAny_updateSeq at1 rfl (hz := c1) (_hz' := big)), wpAny_loadPart' at1, wpAny_loadPart' at2
    exact ⟨_, rfl, z⟩
def rExtendT (K : PySem.W.Frag) : V → List V → Hp → VK → Prop := fun x vs H Q => ∃ l b xs zs, x = .ref l ∧ vs = [.ref b] ∧ H l = some (.lst xs) ∧ SqT K H b zs ∧ xs.length + zs.length ≤ sizeLine ∧ Q .non (upd H l (.lst (xs ++ zs)))
theorem mt_extendT : MtR X "list.extend" (rExtendT X.K) := by
  intro pins s σ H x vs v us Q I rx rv h
  obtain ⟨l, b, xs, zs, rfl, rfl, hl, hb, hz, q⟩ := h
  cases rx
  obtain ⟨u, rfl, ru⟩ := rv.one
  cases ru
  obtain ⟨_, is1, n1, r1, len1, e1⟩ := I.lstM hl
  obtain ⟨is2, r2, p2, _⟩ := I.tuple hb
  obtain ⟨⟨c2, d2, da2, s2⟩, o2, hc2, n2, hd2⟩ := id p2
  simp only at hc2 hd2
  subst hc2 hd2
  have len2 := r2.length
  have sum : is1.toArray.size + is2.toArray.size ≤ sizeLine := by rw [List.size_toArray, List.size_toArray]; omega
  have fits : ¬ (!is1.toArray.isEmpty && Builtin.List.listTooLong (is1.toArray.size + is2.toArray.size)) = true := by
    rw [notLongL sum, Bool.and_false]
    exact Bool.false_ne_true
  refine call_meets F.slot_list_extend ⟨_, e1, rfl⟩ F.entry_list_extend (F.args_list_extend_2 _ _) (extT l is1.toArray n1 b is2.toArray n2 d2 s2 fits (by rw [List.size_toArray]; omega) (by omega)) ⟨e1, o2, ?_⟩
  exact ⟨.non, _, I.lset (its' := is1 ++ is2) hl e1 (by simp) (r1.append r2) (by rw [List.length_append]; omega), rfl, q⟩
end
end R
namespace R
open PySem PySem.Spec PyProof.Rows L2
abbrev NK := PySem.NestedKey
def TcR (p : NK × Addr × V) (q : NK × Addr × Value) : Prop := p.1 = q.1 ∧ p.2.1 = q.2.1 ∧ RelV p.2.2 q.2.2
def tcE (W : World) (x : NK × Addr × Value) : DictEntry := ⟨x.1.hash W, .ref x.2.1, x.2.2⟩
def tcP (W : World) (a : Addr) (xs : List (NK × Addr × V)) (h : Heap) : Prop :=
  xs.length ≤ sizeLine ∧ (a == sysModules) = false ∧ ∃ vs, Paired TcR xs vs ∧ ∃ o es ep, h.get? a = some o ∧ o.ExactDict ∧ o.data = .dict es ep ∧ es.toList = vs.map (tcE W) ∧ (vs.map (·.1)).Nodup
def tcO (W : World) (a : Addr) (xs : List (NK × Addr × V)) : HO := .ext (tcP W a xs)
theorem tc_ok {P : Program} {w W : World} {H : Hp} {h : Heap} {a : Addr} {xs : List (NK × Addr × V)} (x : tcP W a xs h) : ObjOk P w H h a (tcO W a xs) := by
  have x0 := x
  obtain ⟨h1, h2, vs, r, o, es, ep, e, c, d, f, n⟩ := x
  exact ⟨x0, ⟨o, e⟩, fun g1 g2 ⟨h1, h2, vs, r, o, es, ep, e, c, d, f, n⟩ k => ⟨h1, h2, vs, r, o, es, ep, k _ e, c, d, f, n⟩⟩
def IsTc (φ : Heap → Prop) : Prop := ∃ W a xs, φ = tcP W a xs
theorem not_tc {a : Addr} {o : Obj} (hc : o.cls = .type "list") (hd : ∀ h : Heap, (∀ b, h.objs[b]? = if b < a + 1 then some o else none) → h.get? a = some o ∧ ∀ b o', h.get? b = some o' → o' = o) : ¬ IsTc (fun h => h.get? a = some o) := by
  rintro ⟨W, b, xs, e⟩
  obtain ⟨h1, h2⟩ := hd ⟨Array.replicate (a + 1) o, {}⟩ fun b => by
    show (Array.replicate (a + 1) o)[b]? = _
    rw [Array.getElem?_replicate]
  have t : tcP W b xs ⟨Array.replicate (a + 1) o, {}⟩ := by
    rw [← e]; exact h1
  obtain ⟨_, _, vs, _, o', es, ep, g, c, _⟩ := t
  have := h2 b o' g
  subst this
  have c1 := c.1
  rw [hc] at c1
  revert c1
  decide
theorem not_tcL {a : Addr} {e : Array Value} {n : Nat} : ¬ IsTc (fun h => h.get? a = some { cls := .type "list", data := .seq e n }) := by
  refine not_tc rfl fun h hh => ⟨?_, fun b o' e => ?_⟩
  · unfold Heap.get?
    rw [hh, if_pos (Nat.lt_succ_self _)]
  · unfold Heap.get? at e
    rw [hh] at e
    by_cases z : b < a + 1
    · rw [if_pos z] at e
      exact (Option.some.inj e).symm
    · rw [if_neg z] at e; cases e
mutual
/-- in the abstract heap v is the key k -/
inductive NkH (K : PySem.W.Frag) (H : Hp) : NK → V → Prop where
  | non : NkH K H .none .non
  | bl (b : Bool) : NkH K H (.num (if b = true then 1 else 0)) (.bl b)
  | int (i : Int) : NkH K H (.num i) (.int i)
  | str (x : Str) : NkH K H (.text x) (.str x)
  | tup {a : Addr} {vs : List V} {ks : List NK} : SqT K H a vs → NkHs K H ks vs → NkH K H (.tup ks) (.ref a)
inductive NkHs (K : PySem.W.Frag) (H : Hp) : List NK → List V → Prop where
  | nil : NkHs K H [] []
  | cons {k : NK} {v : V} {ks : List NK} {vs : List V} : NkH K H k v → NkHs K H ks vs → NkHs K H (k :: ks) (v :: vs)
end
section
variable {P : Program} {w : World} {H : Hp} {h : Heap} {K : PySem.W.Frag}
theorem sqT_obj {a : Addr} {xs : List V} (ok : HOk P w H h) (KX : K.In h) (q : SqT K H a xs) : ∃ (its : List Value) (o : Obj) (n : Nat), Vals xs its ∧ h.get? a = some o ∧ o.cls = .type "tuple" ∧ o.data = .seq its.toArray n := by
  rcases q with q | ⟨o, its, n, e, hc, hd, _, hv⟩
  · obtain ⟨_, its, hv, o, e, hc, n, hd⟩ := (show ObjOk P w H h a (.tup xs) from q.ok ok)
    exact ⟨its, o, n, hv, e, hc, hd⟩
  · exact ⟨its.toList, o, n, hv, KX _ _ e, hc, by simp [hd]⟩
mutual
theorem nk_is (ok : HOk P w H h) (KX : K.In h) : ∀ {k : NK} {v : V}, NkH K H k v → ∀ {u : Value}, RelV v u → NestedIs h k u
  | _, _, .non, u, e => by
    cases (show u = Value.none from e)
    exact .none
  | _, _, .bl b, u, e => by
    cases (show u = Value.bool b from e)
    exact .bool rfl
  | _, _, .int i, u, e => by
    obtain ⟨t, e⟩ := (show ∃ t, u = Value.int i t from e)
    subst e
    exact .int i t
  | _, _, .str x, u, e => by
    obtain ⟨t, e⟩ := (show ∃ t, u = Value.str x t from e)
    subst e
    exact .text x t
  | _, _, .tup (a := a) s r, u, e => by
    cases (show u = Value.ref a from e)
    obtain ⟨its, o, n, vl, g, c, d⟩ := sqT_obj ok KX s
    exact .tup g c d (by simpa using nks_is ok KX r vl)
theorem nks_is (ok : HOk P w H h) (KX : K.In h) : ∀ {k : List NK} {v : List V}, NkHs K H k v → ∀ {u : List Value}, Vals v u → NestedAll h k u
  | _, _, .nil, _, .nil => .nil
  | _, _, .cons x r, _, .cons e es => .cons (nk_is ok KX x e) (nks_is ok KX r es)
end
/-- the tuple at b is the key k -/
def KyH (K : PySem.W.Frag) (H : Hp) (k : NK) (b : Addr) : Prop := NkH K H k (.ref b) ∧ k.depth ≤ 8
theorem ky_is (ok : HOk P w H h) (KX : K.In h) {k : NK} {b : Addr} (x : KyH K H k b) : (nestedKind P w).is h k b := ⟨nk_is ok KX x.1 rfl, x.2⟩
theorem tcr_keys {xs : List (NK × Addr × V)} {vs : List (NK × Addr × Value)} (r : Paired TcR xs vs) {p : NK → Addr → Prop} (hk : ∀ z ∈ xs, p z.1 z.2.1) : ∀ z ∈ vs, p z.1 z.2.1 := by
  induction r with
  | nil => exact fun z hz => nomatch hz
  | @cons a b l m f r ih =>
    intro z hz
    rcases List.mem_cons.mp hz with rfl | hz
    · rw [← f.1, ← f.2.1]; exact hk a List.mem_cons_self
    · exact ih (fun z hz => hk z (List.mem_cons_of_mem _ hz)) z hz
theorem tc_rd {a : Addr} {xs : List (NK × Addr × V)} (ok : HOk P w H h) (KX : K.In h) (e : Rd H a (tcO w a xs)) (hk : ∀ z ∈ xs, KyH K H z.1 z.2.1) :
    xs.length ≤ sizeLine ∧ (a == sysModules) = false ∧ ∃ vs, Paired TcR xs vs ∧ h.DictOfH (nestedKind P w) a vs := by
  obtain ⟨⟨h1, h2, vs, r, o, es, ep, e, c, d, f, n⟩, _⟩ := (show ObjOk P w H h a (tcO w a xs) from e.ok ok)
  exact ⟨h1, h2, vs, r, o, es, ep, e, c, d, f, fun z hz => ky_is ok KX (tcr_keys r (p := KyH K H) hk z hz), n⟩
end
def valX : List (NK × Addr × V) → NK → Option V
  | [], _ => none
  | p :: r, k => if p.1 = k then some p.2.2 else valX r k
def setX (k : NK) (v : V) : List (NK × Addr × V) → List (NK × Addr × V)
  | [] => []
  | p :: r => (if p.1 = k then (p.1, p.2.1, v) else p) :: setX k v r
def putX (xs : List (NK × Addr × V)) (b : Addr) (k : NK) (v : V) : List (NK × Addr × V) :=
  if (valX xs k).isSome = true then setX k v xs else xs ++ [(k, b, v)]
theorem setX_len (k : NK) (v : V) : ∀ xs, (setX k v xs).length = xs.length
  | [] => rfl
  | p :: r => by rw [setX, List.length_cons, List.length_cons, setX_len k v r]
theorem tcr_val {xs : List (NK × Addr × V)} {vs : List (NK × Addr × Value)} (r : Paired TcR xs vs) (k : NK) : RelO (valX xs k) ((atKey vs k).map (·.2)) := by
  induction r with
  | nil => exact True.intro
  | @cons p q ps qs h t ih =>
    obtain ⟨h1, _, h2⟩ := h
    rw [valX]
    by_cases e : p.1 = k
    · have e' : q.1 = k := h1.symm.trans e
      have b : atKey (q :: qs) k = some q.2 := by simp [atKey, List.find?_cons, e']
      rw [if_pos e, b]; exact h2
    · have e' : ¬ q.1 = k := fun z => e (h1.trans z)
      have b : atKey (q :: qs) k = atKey qs k := by simp [atKey, List.find?_cons, e']
      rw [if_neg e, b]; exact ih
theorem tcr_set {xs : List (NK × Addr × V)} {vs : List (NK × Addr × Value)} (r : Paired TcR xs vs) (k : NK) {y : V} {u : Value} (ry : RelV y u) : Paired TcR (setX k y xs) (vs.map (putAt k u)) := by
  induction r with
  | nil => exact .nil
  | @cons p q ps qs h t ih =>
    rw [setX, List.map_cons]
    refine .cons ?_ ih
    obtain ⟨h1, h2, h3⟩ := h
    unfold putAt
    by_cases e : p.1 = k
    · rw [if_pos e, if_pos (h1.symm.trans e)]; exact ⟨h1, h2, ry⟩
    · rw [if_neg e, if_neg (fun z => e (h1.trans z))]; exact ⟨h1, h2, h3⟩
theorem tcr_put {xs : List (NK × Addr × V)} {vs : List (NK × Addr × Value)} (r : Paired TcR xs vs) (k : NK) (b : Addr) {y : V} {u : Value} (ry : RelV y u) : Paired TcR (putX xs b k y) (storedH vs k b u) := by
  have e : (valX xs k).isSome = (atKey vs k).isSome := by rw [(tcr_val r k).isSome_eq, Option.isSome_map]
  unfold putX storedH
  rw [e]
  by_cases q : (atKey vs k).isSome = true
  · rw [if_pos q, if_pos q]; exact tcr_set r k ry
  · rw [if_neg q, if_neg q]; exact Paired.snoc r ⟨rfl, rfl, ry⟩
theorem putX_len (xs : List (NK × Addr × V)) (b : Addr) (k : NK) (v : V) : (putX xs b k v).length ≤ xs.length + 1 := by
  unfold putX
  split
  · rw [setX_len]; omega
  · rw [List.length_append]; exact Nat.le_refl _
section
variable {X : Cx} {pins : List (Addr × Obj)} {σ : L2.St} {H : Hp} {s : Shared} {a b : Addr} {k : NK} {xs : List (NK × Addr × V)} {v : V} {u : Value} {A : Around} {E : Value → Shared → Prop}
theorem nk_room {P : Program} {w : World} {A : Around} (hu : A.units + 9 < cLine) : (nestedKind P w).room A.in1 := by
  show A.units + 1 + 8 < cLine
  omega
/-- the dict at a, as it may be read -/
structure TcI (X : Cx) (H : Hp) (a : Addr) (xs : List (NK × Addr × V)) : Prop where
  rd : Rd H a (tcO X.w a xs)
  ky : ∀ z ∈ xs, KyH X.K H z.1 z.2.1
theorem ix_tct (hu : X.A.units + 9 < cLine) : IxR X (fun x y H Q => ∃ a b xs k v, x = .ref a ∧ y = .ref b ∧ TcI X H a xs ∧ KyH X.K H k b ∧ valX xs k = some v ∧ Q v H) := by
  intro value slice pins s σ H x y v u Q I rx ry h hs
  obtain ⟨a, b, xs, k, z, rfl, rfl, ti, hk, l, q⟩ := h
  cases rx
  cases ry
  obtain ⟨_, hd, vs, rel, dd⟩ := tc_rd I.hok I.kIn ti.rd ti.ky
  obtain ⟨w', hw, rw'⟩ := RelO.some_of (v := z) (o := (atKey vs k).map (·.2)) (by rw [← l]; exact tcr_val rel k)
  obtain ⟨p, hp, hp2⟩ := Option.map_eq_some_iff.mp hw
  refine subscriptTail_builtinR (x := w') dd.typeIs PySem.F.slot_dict_getitem.lookup (wpAny_getItem_heap (nk_room hu) (ky_is I.hok I.kIn hk) dd hp ?_) hs
  rw [hp2]
  exact ⟨rfl, ⟨z, H, I.tok _, rw', q⟩⟩
theorem op_tIn (hu : X.A.units + 9 < cLine) : OpR X (compareOp .In) (fun x y H Q => ∃ a b xs k, y = .ref a ∧ x = .ref b ∧ TcI X H a xs ∧ KyH X.K H k b ∧ Q (.bl (valX xs k).isSome) H) := by
  intro pins s σ H x y v u Q I rx ry h
  obtain ⟨a, b, xs, k, rfl, rfl, ti, hk, q⟩ := h
  cases rx
  cases ry
  obtain ⟨_, hd, vs, rel, dd⟩ := tc_rd I.hok I.kIn ti.rd ti.ky
  refine wpAny_in_heap (nk_room hu) (ky_is I.hok I.kIn hk) hd dd ?_
  have z := (tcr_val rel k).isSome_eq
  rw [Option.isSome_map] at z
  rw [← z]
  exact ⟨.bl _, H, I.tok _, rfl, q⟩
theorem op_tNotIn (hu : X.A.units + 9 < cLine) : OpR X (compareOp .NotIn) (fun x y H Q => ∃ a b xs k, y = .ref a ∧ x = .ref b ∧ TcI X H a xs ∧ KyH X.K H k b ∧ Q (.bl (!(valX xs k).isSome)) H) := by
  intro pins s σ H x y v u Q I rx ry h
  obtain ⟨a, b, xs, k, rfl, rfl, ti, hk, q⟩ := h
  cases rx
  cases ry
  obtain ⟨_, hd, vs, rel, dd⟩ := tc_rd I.hok I.kIn ti.rd ti.ky
  refine wpAny_notIn_heap (nk_room hu) (ky_is I.hok I.kIn hk) hd dd ?_
  have z := (tcr_val rel k).isSome_eq
  rw [Option.isSome_map] at z
  rw [← z]
  exact ⟨.bl _, H, I.tok _, rfl, q⟩
theorem call_lenT : CallR X (.builtin "len") (fun vs H Q => ∃ a xs, vs = [V.ref a] ∧ TcI X H a xs ∧ Q (.int xs.length) H) := by
  intro pins s σ H xs us Q I r h
  obtain ⟨a, ys, rfl, ti, q⟩ := h
  obtain ⟨u, rfl, ru⟩ := r.one
  cases ru
  obtain ⟨hl, hd, vs, rel, dd⟩ := tc_rd I.hok I.kIn ti.rd ti.ky
  have hl2 : ys.length = vs.length := Paired.length rel
  have dk : s.heap.DictKeyed (nestedKind X.prog X.w) a (pairsH vs) := ⟨vs, dd, rfl⟩
  refine PyProof.Rows.call_len_slot (n := (pairsH vs).length) dd.typeIs PySem.F.slot_dict_len (fun Q' hq => len_keyed hd dk hq) (by omega) (by rw [pairsH_length]; rw [sizeLine_eq] at hl; omega) ?_
  rw [pairsH_length, ← hl2]
  exact ⟨.int _, H, I.tok _, ⟨_, rfl⟩, q⟩
theorem t_setItem {r : Value} {Q : Unit → Shared → Prop} (hu : A.units + 9 < cLine) (I : Inv X pins σ H s) (e : H a = some (tcO X.w a xs)) (ky : ∀ z ∈ xs, KyH X.K H z.1 z.2.1) (hk : KyH X.K H k b) (hz : xs.length < sizeLine) (rv : RelV v r)
    (h : ∀ s', Inv X pins σ (upd H a (tcO X.w a (putX xs b k v))) s' → Q () s') : wpAny (model X.prog X.w) A (setItem (.ref a) (.ref b) r) Q E s := by
  obtain ⟨_, hd, vs, rel, dd⟩ := tc_rd I.hok I.kIn (.inl e) ky
  have hl2 : xs.length = vs.length := Paired.length rel
  refine wpAny_setItem_heap (hsz := by omega) (nk_room hu) (ky_is I.hok I.kIn hk) dd fun h' dd' hs => h _ ?_
  obtain ⟨q, es, ep, hq, h2, h3, h4, _, h5⟩ := dd'
  refine d_write I (by rw [e]; exact True.intro) hs ⟨q, hq⟩ (tc_ok ⟨?_, hd, _, tcr_put rel k b rv, q, es, ep, hq, h2, h3, h4, h5⟩)
  have := putX_len xs b k v
  omega
def sTPut (K : PySem.W.Frag) (W : World) (td ty tv : TE) : TS := fun D σ H => tv σ H fun v H1 => td σ H1 fun x H2 => ty σ H2 fun y H3 => ∃ a,  x = .ref a ∧ ((∃ H4, DPut H3 a y v H4 ∧ D.nx σ H4) ∨
  ∃ b xs k, y = .ref b ∧ H3 a = some (tcO W a xs) ∧ (∀ z ∈ xs, KyH K H3 z.1 z.2.1) ∧ KyH K H3 k b ∧ xs.length < sizeLine ∧ D.nx σ (upd H3 a (tcO W a (putX xs b k v))))
theorem ps_tput {o i value : Expr} {pos' pos : Pos} {td ty tv : TE} (hu : X.A.units + 9 < cLine) (ho : PE X o td) (hi : PE X i ty) (hv : PE X value tv) (hs : swapsWith value (some (.Subscript o i pos')) pos.line X.env = pure false) :
    PS X (.Assign [.Subscript o i pos'] value pos) (sTPut X.K X.w td ty tv) := by
  refine ⟨fun pins s σ H D I h => ?_⟩
  refine wpAny_Assign_Subscript (thn (hv.run pins s σ H _ I h) fun r s1 ⟨v, H1, I1, rv, q1⟩ => thn (ho.run pins s1 σ H1 _ I1 q1) fun u s2 ⟨x, H2, I2, rx, q2⟩ => thn (hi.run pins s2 σ H2 _ I2 q2) fun iv s3 ⟨y, H3, I3, ry, a, ex, q3⟩ => ?_) hs
  subst ex
  obtain rfl : u = Value.ref a := rx
  rcases q3 with ⟨H4, g, q3⟩ | ⟨b, xs, k, ey, e, ky, hk, hz, q3⟩
  · exact d_setItem (by omega) I3 g ry rv fun s4 I4 => ⟨σ, H4, I4, q3⟩
  · subst ey
    obtain rfl : iv = Value.ref b := ry
    exact t_setItem hu I3 e ky hk hz rv fun s4 I4 => ⟨σ, _, I4, q3⟩
theorem tc_empty {P : Program} {w : World} {H : Hp} (h : Heap) (hb : sysModules < h.objs.size) : ObjOk P w H (h.push { cls := .type "dict", data := .dict #[] }) h.objs.size (tcO w h.objs.size []) :=
  tc_ok ⟨Nat.zero_le _, beq_eq_false_iff_ne.mpr (Ne.symm (Nat.ne_of_lt hb)), [], .nil, _, #[], 0, Heap.get?_push_size _ rfl, ⟨rfl, rfl, rfl⟩, rfl, rfl, List.nodup_nil⟩
theorem pe_tnew {pos : Pos} : PE X (.Dict [] [] pos) (fun _ H Q => ∀ p, H p = none → Q (.ref p) (upd H p (tcO X.w p []))) := ⟨fun pins s σ H Q I h =>
  wpAny_Dict_empty ⟨.ref s.heap.objs.size, _, I.laid (a := s.heap.objs.size) (o := tcO X.w s.heap.objs.size []) (t' := s.toks) (fun _ _ q => Heap.get?_push_of_some _ q) (Nat.le_refl _) (tc_empty s.heap I.big), rfl, h _ (I.hok.fresh (Nat.le_refl _))⟩⟩
end
theorem call_isiX {X : Cx} : CallR X (.builtin "isinstance") (fun vs H Q => ∃ (a : Addr) (xs : List (NK × Addr × V)) (n : String) (b : Bool), vs = [.ref a, .ty n] ∧ TcI X H a xs ∧ PySem.W.kitOne X.K (.type "dict") (.type n) = some b ∧ Q (.bl b) H) := by
  intro pins s σ H xs us Q I r h
  obtain ⟨a, ys, n, b, rfl, ti, e, q⟩ := h
  obtain ⟨u1, u2, rfl, r1, r2⟩ := vals2 r
  cases (show u1 = Value.ref a from r1)
  cases (show u2 = Value.type n from r2)
  obtain ⟨_, hd, vs, rel, o, es, ep, h1, h2, _⟩ := tc_rd I.hok I.kIn ti.rd ti.ky
  exact PySem.W.kia_one PySem.W.kitx_dict I.kIn ⟨o, h1, h2.1⟩ e (fun z => nomatch z) fun tk => ⟨.bl b, H, I.tok tk, rfl, q⟩
theorem frzX {X : Cx} {pins : List (Addr × Obj)} {σ : L2.St} {H : Hp} {s : Shared} {d : Addr} {o : Obj} {xs : List (NK × Addr × V)} (I : Inv X pins σ H s) (h : H d = some (.frz o (tcO X.w d xs))) :
    (d == sysModules) = false ∧ s.heap.get? d = some o ∧ o.ExactDict ∧ ∃ (es : Array DictEntry) (ep : Nat), o.data = .dict es ep ∧ es.size = xs.length ∧
      ∀ (i : Nat) (k : NK) (b : Addr) (v : V), xs[i]? = some (k, b, v) → ∃ en : DictEntry, es[i]? = some en ∧ en.key = .ref b := by
  obtain ⟨hd, ⟨_, hs, vs, pr, o', es, ep, ho, hx, hdt, he, _⟩, _⟩ := (show ObjOk X.prog X.w H s.heap d (.frz o (tcO X.w d xs)) from I.hok d _ h)
  rw [hd] at ho
  cases ho
  refine ⟨hs, hd, hx, es, ep, hdt, ?_, fun i k b v e => ?_⟩
  · have l1 : es.size = vs.length := by rw [← Array.length_toList, he, List.length_map]
    have l2 : xs.length = vs.length := Paired.length pr
    omega
  · obtain ⟨q, hq, e1, e2, _⟩ := paired_get pr e
    refine ⟨tcE X.w q, ?_, ?_⟩
    · rw [← Array.getElem?_toList, he, List.getElem?_map, hq]; rfl
    · show Value.ref q.2.1 = _
      rw [← e2]
/-- the keys of the locked dict at d: the tuples that stand there -/
def Itkx (W : World) (d : Addr) (o : Obj) (xs : List (NK × Addr × V)) : L2.It :=
  ⟨fun i H => H d = some (.frz o (tcO W d xs)) ∧ i < xs.length, fun i H x H' => H' = H ∧ ∃ (k : NK) (b : Addr) (v : V), xs[i]? = some (k, b, v) ∧ x = .ref b, fun i H => H d = some (.frz o (tcO W d xs)) ∧ xs.length ≤ i⟩
theorem turn_keysX {P : Program} {w : World} {K : PySem.W.Frag} {tg : Expr} {d : Addr} {o : Obj} {es : Array DictEntry} {ep : Nat} {xs : List (NK × Addr × V)} (it : Addr) (hod : o.data = .dict es ep) : Turn P w K tg (Itkx w d o xs) [it] it (fun i h => h.IsKeyIter it d i xs.length ep) where
  mem := by simp
  obj := fun i h st b hb => by
    have e : b = it := by simpa using hb
    subst e
    obtain ⟨oi, e, c, dd⟩ := st
    exact ⟨oi, e, fun v z => by rw [dd] at z; cases z⟩
  keep := fun i h h' st k => st.at fun oi e => k it (by simp) oi e
  item := by
    intro X hP hw hK hc i pins s σ H E I hf st hg
    subst hP hw hK
    obtain ⟨hd, hi⟩ := hg
    obtain ⟨f0, f1, f2, f3, f4, f5⟩ := hf it (by simp)
    obtain ⟨hs, hgd, hx, es', ep', hdt, hsz, ent⟩ := frzX I hd
    obtain ⟨rfl, rfl⟩ := dict_ep hod hdt
    obtain ⟨⟨k, b, v⟩, hkv⟩ : ∃ p, xs[i]? = some p := ⟨xs[i], List.getElem?_eq_getElem hi⟩
    obtain ⟨en, hen, hkey⟩ := ent i k b v hkv
    refine next_key_item st hgd hdt hsz hen fun h' st' sb => ?_
    have I1 : Inv X pins σ H { s with heap := h' } := I.turned (t' := s.toks) (fun b ob hb e => (sb.2 b hb).trans e) f0 f1 f3 f4 f5
    obtain ⟨oi, e, c, dd⟩ := id st'
    exact ⟨en.key, rfl, go_of (s := { s with heap := h' }) e c dd (by decide) ⟨.ref b, H, I1, hkey, ⟨rfl, k, b, v, hkv, rfl⟩, st', fun b hb => (hf b hb).1⟩⟩
  done := by
    intro X hP hw hK hc i pins s σ H E I hf st hg
    subst hP hw hK
    obtain ⟨hd, hi⟩ := hg
    obtain ⟨f0, f1, f2, f3, f4, f5⟩ := hf it (by simp)
    obtain ⟨hs, hgd, hx, es', ep', hdt, hsz, ent⟩ := frzX I hd
    obtain ⟨rfl, rfl⟩ := dict_ep hod hdt
    exact next_key_end (I.ok.hd hc) st hgd hdt hsz hi fun h' eb => ⟨rfl, I.turned (t' := s.toks) (fun b ob hb e => eb b ob hb e) f0 f1 f3 f4 f5⟩
  self := fun A i s Q E st h => by
    refine wpAny_pyIter_slot st.typeIs F.slot_dict_keyiterator_iter (wpAny_call_entry F.slot_dict_keyiterator_iter st.typeIs F.entry_dict_keyiterator_iter ?_ (F.args_dict_keyiterator_iter_1 _))
    show wpAny _ _ (ret (.ref it)) _ _ s
    exact wpAny_pure ⟨_, rfl, "dict_keyiterator", _, st.typeIs, F.slot_dict_keyiterator_next.lookup, h⟩
def iKeysX (W : World) (td : TE) : TI := fun σ H R => td σ H fun x H1 => ∃ d o, x = .ref d ∧ ((∃ kvs, H1 d = some (.frz o (.dK kvs)) ∧ R (Itk d o kvs) H1) ∨ ∃ xs, H1 d = some (.frz o (tcO W d xs)) ∧ R (Itkx W d o xs) H1)
theorem pi_keysX {X : Cx} {tg e : Expr} {td : TE} (he : PE X e td) : PI X tg e (iKeysX X.w td) := by
  refine ⟨fun pins s σ H R I h => ?_⟩
  refine thn (he.run pins s σ H _ I h) fun u s1 ⟨x, H1, I1, rx, d, o, ex, q⟩ => ?_
  subst ex
  obtain rfl : u = Value.ref d := rx
  rcases q with ⟨kvs, hd, q⟩ | ⟨kvs, hd, q⟩
  · obtain ⟨hs, hgd, hx, es, ep, vs, hdt, hsz, kv, hm⟩ := I1.frzK hd
    refine iter_keys hs hgd hx hdt (pi_one (tk := s1.toks) I1 _ (turn_keys _ hdt) ⟨_, Heap.get?_push_size _ rfl, rfl, ?_⟩ q)
    rw [hsz] <;> rfl
  · obtain ⟨hs, hgd, hx, es, ep, hdt, hsz, ent⟩ := frzX I1 hd
    refine iter_keys hs hgd hx hdt (pi_one (tk := s1.toks) I1 _ (turn_keysX _ hdt) ⟨_, Heap.get?_push_size _ rfl, rfl, ?_⟩ q)
    rw [hsz] <;> rfl
end R
namespace R
open PySem PySem.Spec PyProof.Rows L2
structure Gm where
  K : PySem.W.Frag
  mg : Str → Option Value
  cad : Nat → Addr
  att : Nat → Str
  ncls : Nat
  W : World
  /- the errors' classes that a row has, where they stand -/
  xs : List Nat
  xad : Nat → Addr
/-- a world: what stands for good, where the ids stand, what stands beside (lists that are being made) -/
structure Wd where
  F : Hp
  ρ : Nat → Addr
  len : Nat
  G : Hp
structure Wd.lf (w w' : Wd) : Prop where
  fr : ∀ a o, w.F a = some o → w'.F a = some o
  len : w.len ≤ w'.len
  at_ : ∀ n, n < w.len → w'.ρ n = w.ρ n
structure Wd.le (w w' : Wd) : Prop extends Wd.lf w w' where
  gr : ∀ a o, w.G a = some o → w'.G a = some o
theorem Wd.le.refl (w : Wd) : w.le w := ⟨⟨fun _ _ h => h, Nat.le_refl _, fun _ _ => rfl⟩, fun _ _ h => h⟩
theorem Wd.le.trans {a b c : Wd} (x : a.le b) (y : b.le c) : a.le c :=
  ⟨⟨fun p o h => y.fr p o (x.fr p o h), Nat.le_trans x.len y.len, fun n h => (y.at_ n (Nat.lt_of_lt_of_le h x.len)).trans (x.at_ n h)⟩, fun p o h => y.gr p o (x.gr p o h)⟩
theorem rd_mono {F F' : Hp} (h : ∀ a o, F a = some o → F' a = some o) {a : Addr} {u : HO} (r : Rd F a u) : Rd F' a u := by
  rcases r with r | ⟨o, r⟩
  · exact .inl (h _ _ r)
  · exact .inr ⟨o, h _ _ r⟩
theorem sqT_mono {K : PySem.W.Frag} {F F' : Hp} (h : ∀ a o, F a = some o → F' a = some o) {a : Addr} {xs : List V} (r : SqT K F a xs) : SqT K F' a xs := by
  rcases r with r | r
  · exact .inl (rd_mono h r)
  · exact .inr r
theorem sqL_mono {K : PySem.W.Frag} {F F' : Hp} (h : ∀ a o, F a = some o → F' a = some o) {a : Addr} {xs : List V} (r : SqL K F a xs) : SqL K F' a xs := by
  rcases r with r | r
  · exact .inl (rd_mono h r)
  · exact .inr r
/-- a tuple whose object has no dict -/
def TupS (K : PySem.W.Frag) (F : Hp) (a : Addr) (xs : List V) : Prop :=
  (∃ o, F a = some (.frz o (.tup xs)) ∧ o.dict = none) ∨
    ∃ (o : Obj) (its : Array Value) (n : Nat), K.lookup a = some o ∧ o.cls = .type "tuple" ∧ o.data = .seq its n ∧ its.size ≤ sizeLine ∧ Vals xs its.toList ∧ o.dict = none
theorem TupS.sq {K : PySem.W.Frag} {F : Hp} {a : Addr} {xs : List V} (h : TupS K F a xs) : SqT K F a xs := by
  rcases h with ⟨o, h, _⟩ | ⟨o, its, n, h1, h2, h3, h4, h5, _⟩
  · exact .inl (.inr ⟨o, h⟩)
  · exact .inr ⟨o, its, n, h1, h2, h3, h4, h5⟩
theorem tupS_mono {K : PySem.W.Frag} {F F' : Hp} (h : ∀ a o, F a = some o → F' a = some o) {a : Addr} {xs : List V} (r : TupS K F a xs) : TupS K F' a xs := by
  rcases r with ⟨o, r, d⟩ | r
  · exact .inl ⟨o, h _ _ r, d⟩
  · exact .inr r
theorem TupS.of {K : PySem.W.Frag} {F : Hp} {a : Addr} {xs : List V} {o : Obj} (h : F a = some (.frz o (.tup xs))) (d : o.dict = none) : TupS K F a xs := .inl ⟨o, h, d⟩
mutual
inductive Rv (g : Gm) (w : Wd) : D → V → Prop where
  | non : Rv g w .non .non
  | bl (b : Bool) : Rv g w (.bl b) (.bl b)
  | int (i : Int) : Rv g w (.int i) (.int i)
  | str (x : Str) : Rv g w (.str x) (.str x)
  | tup {a : Addr} {vs : List V} {xs : List D} : TupS g.K w.F a vs → Rvs g w xs vs → Rv g w (.tup xs) (.ref a)
  | pr {a : Addr} {v u : V} {d e : D} : SqT g.K w.F a [v, u] → Rv g w d v → Rv g w e u → Rv g w (.pr d e) (.ref a)
  | lst {a : Addr} {vs : List V} {xs : List D} : w.F a = some (.lst vs) → Rvs g w xs vs → Rv g w (.lst xs) (.ref a)
  | scr {a : Addr} {vs : List V} {xs : List D} : SqL g.K w.F a vs → Rvs g w xs vs → Rv g w (.scr xs) (.ref a)
  | dct {a : Addr} {kvs' : List (Key × V)} {kvs : List (Key × D)} : w.F a = some (.dK kvs') → Rkv g w kvs kvs' → Rv g w (.dct kvs) (.ref a)
  | ins {a dx : Addr} {C : Nat} {fs : List (Nat × D)} {fvs : List (Str × V)} : C < g.ncls → w.F a = some (.ins (g.cad C) dx fvs) → Rfs g w fs fvs → Rv g w (.ins C fs) (.ref a)
  | ref (n : Nat) : n < w.len → Rv g w (.ref n) (.ref (w.ρ n))
inductive Rvs (g : Gm) (w : Wd) : List D → List V → Prop where
  | nil : Rvs g w [] []
  | cons {d : D} {v : V} {ds : List D} {vs : List V} : Rv g w d v → Rvs g w ds vs → Rvs g w (d :: ds) (v :: vs)
inductive Rkv (g : Gm) (w : Wd) : List (Key × D) → List (Key × V) → Prop where
  | nil : Rkv g w [] []
  | cons {k : Key} {d : D} {v : V} {ds : List (Key × D)} {vs : List (Key × V)} : Rv g w d v → Rkv g w ds vs → Rkv g w ((k, d) :: ds) ((k, v) :: vs)
inductive Rfs (g : Gm) (w : Wd) : List (Nat × D) → List (Str × V) → Prop where
  | nil : Rfs g w [] []
  | cons {f : Nat} {d : D} {v : V} {ds : List (Nat × D)} {vs : List (Str × V)} : Rv g w d v → Rfs g w ds vs → Rfs g w ((f, d) :: ds) ((g.att f, v) :: vs)
end
/-- a dict with tuple keys -/
inductive Rtk (g : Gm) (w : Wd) : List (D × D) → List (NK × Addr × V) → Prop where
  | nil : Rtk g w [] []
  | cons {y d : D} {k : NK} {b : Addr} {v : V} {ds : List (D × D)} {vs : List (NK × Addr × V)} : nkT y = some k → Rv g w y (.ref b) → Rv g w d v → Rtk g w ds vs → Rtk g w ((y, d) :: ds) ((k, b, v) :: vs)
variable {g : Gm} {w w' : Wd}
mutual
theorem Rv.mono' (le : w.lf w') : ∀ {d : D} {v : V}, Rv g w d v → Rv g w' d v
  | _, _, .non => .non
  | _, _, .bl b => .bl b
  | _, _, .int i => .int i
  | _, _, .str x => .str x
  | _, _, .tup h r => .tup (tupS_mono le.fr h) (Rvs.mono' le r)
  | _, _, .pr h r r2 => .pr (sqT_mono le.fr h) (Rv.mono' le r) (Rv.mono' le r2)
  | _, _, .lst h r => .lst (le.fr _ _ h) (Rvs.mono' le r)
  | _, _, .scr h r => .scr (sqL_mono le.fr h) (Rvs.mono' le r)
  | _, _, .dct h r => .dct (le.fr _ _ h) (Rkv.mono' le r)
  | _, _, .ins hc h r => .ins hc (le.fr _ _ h) (Rfs.mono' le r)
  | _, _, .ref n h => by
    have e := le.at_ n h
    rw [← e]
    exact .ref n (Nat.lt_of_lt_of_le h le.len)
theorem Rvs.mono' (le : w.lf w') : ∀ {d : List D} {v : List V}, Rvs g w d v → Rvs g w' d v
  | _, _, .nil => .nil
  | _, _, .cons h r => .cons (Rv.mono' le h) (Rvs.mono' le r)
theorem Rkv.mono' (le : w.lf w') : ∀ {d : List (Key × D)} {v : List (Key × V)}, Rkv g w d v → Rkv g w' d v
  | _, _, .nil => .nil
  | _, _, .cons h r => .cons (Rv.mono' le h) (Rkv.mono' le r)
theorem Rfs.mono' (le : w.lf w') : ∀ {d : List (Nat × D)} {v : List (Str × V)}, Rfs g w d v → Rfs g w' d v
  | _, _, .nil => .nil
  | _, _, .cons h r => .cons (Rv.mono' le h) (Rfs.mono' le r)
end
theorem Rtk.mono' (le : w.lf w') : ∀ {d : List (D × D)} {v : List (NK × Addr × V)}, Rtk g w d v → Rtk g w' d v
  | _, _, .nil => .nil
  | _, _, .cons e r h t => .cons e (Rv.mono' le r) (Rv.mono' le h) (Rtk.mono' le t)
theorem Rtk.mono (le : w.le w') {d : List (D × D)} {v : List (NK × Addr × V)} (r : Rtk g w d v) : Rtk g w' d v := r.mono' le.tolf
theorem Rv.mono (le : w.le w') {d : D} {v : V} (r : Rv g w d v) : Rv g w' d v := r.mono' le.tolf
theorem Rvs.mono (le : w.le w') {d : List D} {v : List V} (r : Rvs g w d v) : Rvs g w' d v := r.mono' le.tolf
theorem Rkv.mono (le : w.le w') {d : List (Key × D)} {v : List (Key × V)} (r : Rkv g w d v) : Rkv g w' d v := r.mono' le.tolf
theorem Rfs.mono (le : w.le w') {d : List (Nat × D)} {v : List (Str × V)} (r : Rfs g w d v) : Rfs g w' d v := r.mono' le.tolf
theorem lf_G (w : Wd) (G : Hp) : w.lf ⟨w.F, w.ρ, w.len, G⟩ := ⟨fun _ _ h => h, Nat.le_refl _, fun _ _ => rfl⟩
theorem Rvs.length : ∀ {ds : List D} {vs : List V}, Rvs g w ds vs → ds.length = vs.length
  | _, _, .nil => rfl
  | _, _, .cons _ r => congrArg (· + 1) (Rvs.length r)
theorem Rvs.append : ∀ {ds es : List D} {vs us : List V}, Rvs g w ds vs → Rvs g w es us → Rvs g w (ds ++ es) (vs ++ us)
  | _, _, _, _, .nil, s => s
  | _, _, _, _, .cons h r, s => .cons h (Rvs.append r s)
theorem Rvs.get : ∀ {ds : List D} {vs : List V} {i : Nat} {d : D}, Rvs g w ds vs → ds[i]? = some d → ∃ v, vs[i]? = some v ∧ Rv g w d v
  | _, _, i, d, .nil, e => by simp at e
  | _, _, 0, d, .cons h _, e => by
    simp at e
    subst e
    exact ⟨_, rfl, h⟩
  | _, _, i + 1, d, .cons _ r, e => Rvs.get (i := i) r (by simpa using e)
theorem Rvs.got : ∀ {ds : List D} {vs : List V} {i : Nat} {v : V}, Rvs g w ds vs → vs[i]? = some v → ∃ d, ds[i]? = some d ∧ Rv g w d v
  | _, _, i, d, .nil, e => by simp at e
  | _, _, 0, d, .cons h _, e => by
    simp at e
    subst e
    exact ⟨_, rfl, h⟩
  | _, _, i + 1, d, .cons _ r, e => Rvs.got (i := i) r (by simpa using e)
theorem Rvs.set : ∀ {ds : List D} {vs : List V} {i : Nat} {d : D} {v : V}, Rvs g w ds vs → Rv g w d v → Rvs g w (ds.set i d) (vs.set i v)
  | _, _, _, _, _, .nil, _ => .nil
  | _, _, 0, _, _, .cons _ r, h => .cons h r
  | _, _, i + 1, _, _, .cons q r, h => .cons q (Rvs.set (i := i) r h)
theorem Rvs.take : ∀ {ds : List D} {vs : List V} (n : Nat), Rvs g w ds vs → Rvs g w (ds.take n) (vs.take n)
  | _, _, 0, _ => .nil
  | _, _, _ + 1, .nil => .nil
  | _, _, n + 1, .cons q r => .cons q (Rvs.take n r)
theorem Rvs.drop : ∀ {ds : List D} {vs : List V} (n : Nat), Rvs g w ds vs → Rvs g w (ds.drop n) (vs.drop n)
  | _, _, 0, r => r
  | _, _, _ + 1, .nil => .nil
  | _, _, n + 1, .cons _ r => Rvs.drop n r
theorem Rvs.reverse : ∀ {ds : List D} {vs : List V}, Rvs g w ds vs → Rvs g w ds.reverse vs.reverse
  | _, _, .nil => .nil
  | _, _, .cons q r => by
    rw [List.reverse_cons, List.reverse_cons]
    exact (Rvs.reverse r).append (.cons q .nil)
theorem Rvs.one {d : D} {vs : List V} (r : Rvs g w [d] vs) : ∃ v, vs = [v] ∧ Rv g w d v := by
  cases r with
  | cons h r => cases r; exact ⟨_, rfl, h⟩
theorem Rvs.two {d e : D} {vs : List V} (r : Rvs g w [d, e] vs) : ∃ v u, vs = [v, u] ∧ Rv g w d v ∧ Rv g w e u := by
  cases r with
  | cons h r => cases r with | cons h2 r => cases r; exact ⟨_, _, rfl, h, h2⟩
theorem Rvs.atI {ds : List D} {vs : List V} {i : Int} {d : D} (r : Rvs g w ds vs) (e : L2.atI ds i = some d) : ∃ v, L2.atI vs i = some v ∧ Rv g w d v := by
  unfold L2.atI at e ⊢
  rw [← r.length]
  cases q : ixN ds.length i with
  | none => rw [q] at e; cases e
  | some j =>
    rw [q] at e
    exact r.get e
theorem Rvs.ints : ∀ {ds : List D} {ns : List Int} {vs : List V}, intsOf ds = some ns → Rvs g w ds vs → vs = ns.map V.int
  | [], ns, _, e, .nil => by
    simp [intsOf] at e
    subst e
    rfl
  | d :: ds, ns, _, e, .cons h r => by
    unfold intsOf at e
    rw [List.mapM_cons] at e
    cases d with
    | int i =>
      cases q : ds.mapM isInt with
      | none => rw [q] at e; simp [isInt] at e
      | some ms =>
        rw [q] at e
        simp [isInt] at e
        subst e
        cases h
        rw [List.map_cons, Rvs.ints (ds := ds) q r]
    | _ => simp [isInt] at e
theorem Rfs.len : ∀ {fs : List (Nat × D)} {fvs : List (Str × V)}, Rfs g w fs fvs → fs.length = fvs.length
  | _, _, .nil => rfl
  | _, _, .cons _ r => congrArg (· + 1) (Rfs.len r)
theorem Rfs.look (inj : ∀ a b, g.att a = g.att b → a = b) {f : Nat} {d : D} : ∀ {fs : List (Nat × D)} {fvs : List (Str × V)}, Rfs g w fs fvs → fs.lookup f = some d → ∃ v, fvs.lookup (g.att f) = some v ∧ Rv g w d v
  | _, _, .nil, e => by simp at e
  | _, _, .cons (f := f') h r, e => by
    rw [List.lookup_cons] at e ⊢
    by_cases q : f = f'
    · subst q
      simp at e
      subst e
      simp
      exact h
    · have q2 : (f == f') = false := beq_eq_false_iff_ne.mpr q
      have q3 : (g.att f == g.att f') = false := beq_eq_false_iff_ne.mpr fun z => q (inj _ _ z)
      rw [q2] at e
      rw [q3]
      exact Rfs.look inj r e
theorem Rfs.none (inj : ∀ a b, g.att a = g.att b → a = b) {m : Str} (hm : ∀ f, g.att f ≠ m) : ∀ {fs : List (Nat × D)} {fvs : List (Str × V)}, Rfs g w fs fvs → fvs.lookup m = none
  | _, _, .nil => rfl
  | _, _, .cons (f := f') h r => by
    rw [List.lookup_cons]
    have q3 : (m == g.att f') = false := beq_eq_false_iff_ne.mpr fun z => hm f' z.symm
    rw [q3]
    exact Rfs.none inj hm r
theorem Rfs.put (inj : ∀ a b, g.att a = g.att b → a = b) {f : Nat} {d : D} {v : V} (hv : Rv g w d v) : ∀ {fs : List (Nat × D)} {fvs : List (Str × V)}, Rfs g w fs fvs → Rfs g w (R.putF f d fs) (L2.putF (g.att f) v fvs)
  | _, _, .nil => .cons hv .nil
  | _, _, .cons (f := f') h r => by
    by_cases q : f' = f
    · subst q
      simp only [R.putF, L2.putF, if_true]
      exact .cons hv r
    · have q2 : ¬ g.att f' = g.att f := fun z => q (inj _ _ z)
      simp only [R.putF, L2.putF, if_neg q, if_neg q2]
      exact .cons h (Rfs.put inj hv r)
def ObR (g : Gm) (w : Wd) (H : Hp) (n : Nat) : O → Prop
  | .lst xs => ∃ vs, H (w.ρ n) = some (.lst vs) ∧ Rvs g w xs vs
  | .dct kvs => ∃ kvs', H (w.ρ n) = some (.dK kvs') ∧ Rkv g w kvs kvs'
  | .ins C fs => C < g.ncls ∧ ∃ dx fvs, H (w.ρ n) = some (.ins (g.cad C) dx fvs) ∧ Rfs g w fs fvs
  | .dead => True
  | .ldct kvs => ∃ od kvs', w.G (w.ρ n) = some (.frz od (.dK kvs')) ∧ Rkv g w kvs kvs'
  | .llst xs => ∃ od vs, w.G (w.ρ n) = some (.frz od (.lst vs)) ∧ Rvs g w xs vs
  | .tct kvs => ∃ xs, H (w.ρ n) = some (tcO g.W (w.ρ n) xs) ∧ Rtk g w kvs xs
  | .ltct kvs => ∃ od xs, w.G (w.ρ n) = some (.frz od (tcO g.W (w.ρ n) xs)) ∧ Rtk g w kvs xs
/-- how a thing stands that is gone over -/
def Lk : HO → Prop
  | .frz _ (.dK _) => True
  | .frz _ (.lst _) => True
  | .frz _ (.ext φ) => IsTc φ
  | _ => False
def O.live : O → Prop
  | .dead => False
  | .ldct _ => False
  | .llst _ => False
  | .ltct _ => False
  | _ => True
def O.held : O → Prop
  | .dead => False
  | _ => True
theorem O.held_of {o : O} (h : o.live) : o.held := by cases o <;> first | trivial | exact h.elim
structure Mem (g : Gm) (w : Wd) (H : Hp) (m : Mm) : Prop where
  fr : ∀ a o, w.F a = some o → H a = some o
  len : w.len = m.length
  ob : ∀ n o, m[n]? = some o → ObR g w H n o
  nf : ∀ n o, m[n]? = some o → o.live → w.F (w.ρ n) = none
  inj : ∀ n k o u, m[n]? = some o → o.held → m[k]? = some u → u.held → w.ρ n = w.ρ k → n = k
  gr : ∀ a o, w.G a = some o → H a = some o
  ng : ∀ n o, m[n]? = some o → o.live → w.G (w.ρ n) = none
  gf : ∀ a o, w.G a = some o → w.F a = none
variable {H : Hp} {m : Mm}
theorem Mem.at (M : Mem g w H m) {n : Nat} {o : O} (e : m[n]? = some o) (l : o.held) : ∃ u, H (w.ρ n) = some u := by
  have q := M.ob n o e
  cases o with
  | lst xs => obtain ⟨vs, q, _⟩ := q; exact ⟨_, q⟩
  | dct kvs => obtain ⟨vs, q, _⟩ := q; exact ⟨_, q⟩
  | ins C fs => obtain ⟨_, dx, fvs, q, _⟩ := q; exact ⟨_, q⟩
  | dead => exact l.elim
  | ldct kvs => obtain ⟨od, vs, q, _⟩ := q; exact ⟨_, M.gr _ _ q⟩
  | llst xs => obtain ⟨od, vs, q, _⟩ := q; exact ⟨_, M.gr _ _ q⟩
  | tct xs => obtain ⟨vs, q, _⟩ := q; exact ⟨_, q⟩
  | ltct xs => obtain ⟨od, vs, q, _⟩ := q; exact ⟨_, M.gr _ _ q⟩
theorem ObR.keep {H' : Hp} {n : Nat} {o : O} (le : w.lf w') (hn : n < w.len) (r : ObR g w H n o) (k : ∀ u, H (w.ρ n) = some u → H' (w.ρ n) = some u) (kg : ∀ x, Lk x → w.G (w.ρ n) = some x → w'.G (w.ρ n) = some x) : ObR g w' H' n o := by
  have e := le.at_ n hn
  cases o with
  | lst xs => obtain ⟨vs, q, r⟩ := r; exact ⟨vs, by rw [e]; exact k _ q, r.mono' le⟩
  | dct kvs => obtain ⟨vs, q, r⟩ := r; exact ⟨vs, by rw [e]; exact k _ q, r.mono' le⟩
  | ins C fs => obtain ⟨hc, dx, fvs, q, r⟩ := r; exact ⟨hc, dx, fvs, by rw [e]; exact k _ q, r.mono' le⟩
  | dead => trivial
  | ldct kvs => obtain ⟨od, vs, q, r⟩ := r; exact ⟨od, vs, by rw [e]; exact kg _ trivial q, r.mono' le⟩
  | llst xs => obtain ⟨od, vs, q, r⟩ := r; exact ⟨od, vs, by rw [e]; exact kg _ trivial q, r.mono' le⟩
  | tct kvs => obtain ⟨vs, q, r⟩ := r; exact ⟨vs, by rw [e]; exact k _ q, r.mono' le⟩
  | ltct xs => obtain ⟨od, vs, q, r⟩ := r; exact ⟨od, vs, by rw [e]; exact kg _ ⟨_, _, _, rfl⟩ q, r.mono' le⟩
theorem Mem.lt (M : Mem g w H m) {n : Nat} {o : O} (e : m[n]? = some o) : n < w.len := by
  rw [M.len]
  exact (List.getElem?_eq_some_iff.mp e).1
abbrev Wd.fz (w : Wd) (p : Addr) (o : HO) : Wd := ⟨upd w.F p o, w.ρ, w.len, w.G⟩
abbrev Wd.one (w : Wd) (p : Addr) : Wd := ⟨w.F, fun n => if n = w.len then p else w.ρ n, w.len + 1, w.G⟩
abbrev Wd.wg (w : Wd) (G : Hp) : Wd := ⟨w.F, w.ρ, w.len, G⟩
theorem Wd.one_le (w : Wd) (p : Addr) : w.le (w.one p) := ⟨⟨fun _ _ h => h, Nat.le_succ _, fun n h => if_neg (Nat.ne_of_lt h)⟩, fun _ _ h => h⟩
theorem upd_of {H F : Hp} (h : ∀ a o, F a = some o → H a = some o) (p : Addr) (o : HO) : ∀ a x, upd F p o a = some x → upd H p o a = some x := fun a x e => by
  by_cases q : a = p
  · subst q
    rw [upd_same] at e ⊢; exact e
  · rw [upd_ne q] at e ⊢; exact h a x e
/-- a thing that stands for good is laid -/
theorem Mem.laid (M : Mem g w H m) {p : Addr} {o : HO} (hp : H p = none) : w.le (w.fz p o) ∧ Mem g (w.fz p o) (upd H p o) m := by
  have ne : ∀ {a u}, H a = some u → a ≠ p := fun e => ne_of_none e hp
  have le : w.le (w.fz p o) := ⟨⟨fun a u h => by
    show upd w.F p o a = some u
    rw [upd_ne (ne (M.fr a u h))]; exact h, Nat.le_refl _, fun _ _ => rfl⟩, fun _ _ h => h⟩
  refine ⟨le, ⟨upd_of M.fr p o, M.len, fun n u e => ?_, fun n u e l => ?_, M.inj, fun a u h => by rw [upd_ne (ne (M.gr a u h))]; exact M.gr a u h, M.ng, fun a u h => by
    show upd w.F p o a = none
    rw [upd_ne (ne (M.gr a u h))]; exact M.gf a u h⟩⟩
  · exact (M.ob n u e).keep le.tolf (M.lt e) (fun x h => by rw [upd_ne (ne h)]; exact h) fun _ _ h => h
  · obtain ⟨x, hx⟩ := M.at e (O.held_of l)
    show upd w.F p o (w.ρ n) = none
    rw [upd_ne (ne hx)]
    exact M.nf n u e l
/-- .. beside -/
theorem Mem.beside (M : Mem g w H m) {p : Addr} {o : HO} (hp : H p = none) : w.le (w.wg (upd w.G p o)) ∧ Mem g (w.wg (upd w.G p o)) (upd H p o) m := by
  have ne : ∀ {a u}, H a = some u → a ≠ p := fun e => ne_of_none e hp
  have le : w.le (w.wg (upd w.G p o)) := ⟨lf_G w _, fun a u h => by
    show upd w.G p o a = some u
    rw [upd_ne (ne (M.gr a u h))]; exact h⟩
  refine ⟨le, ⟨fun a u h => by rw [upd_ne (ne (M.fr a u h))]; exact M.fr a u h, M.len, fun n u e => ?_, M.nf, M.inj, upd_of M.gr p o, fun n u e l => ?_, fun a u h => ?_⟩⟩
  · exact (M.ob n u e).keep le.tolf (M.lt e) (fun x h => by rw [upd_ne (ne h)]; exact h) fun od x h => by
      show upd w.G p o (w.ρ n) = _
      rw [upd_ne (ne (M.gr _ _ h))]; exact h
  · obtain ⟨x, hx⟩ := M.at e (O.held_of l)
    show upd w.G p o (w.ρ n) = none
    rw [upd_ne (ne hx)]
    exact M.ng n u e l
  · have h : upd w.G p o a = some u := h
    show w.F a = none
    by_cases q : a = p
    · subst q
      cases z : w.F a with
      | none => rfl
      | some y => rw [M.fr a y z] at hp; cases hp
    · rw [upd_ne q] at h; exact M.gf a u h
/-- a thing beside is changed; p doesn't stand for good -/
theorem Mem.turned (M : Mem g w H m) {p : Addr} {o u : HO} (hp : w.G p = some u) (hu : ¬ Lk u := by exact fun z => z) : Mem g (w.wg (upd w.G p o)) (upd H p o) m := by
  have hf := M.gf _ _ hp
  have nF : ∀ {a x}, w.F a = some x → a ≠ p := fun e z => by rw [z, hf] at e; cases e
  have nI : ∀ {n x}, m[n]? = some x → x.live → w.ρ n ≠ p := fun e l z => by
    have q := M.ng _ _ e l
    rw [z, hp] at q; cases q
  refine ⟨fun a u h => by rw [upd_ne (nF h)]; exact M.fr a u h, M.len, fun n u e => ?_, M.nf, M.inj, upd_of M.gr p o, fun n u e l => ?_, fun a x h => ?_⟩
  · cases u with
    | dead => trivial
    | ldct kvs =>
      obtain ⟨od, vs, q, r⟩ := M.ob n _ e
      refine ⟨od, vs, ?_, r.mono' (lf_G w _)⟩
      show upd w.G p o (w.ρ n) = _
      rw [upd_ne fun z => by rw [z, hp] at q; exact hu (by rw [Option.some.inj q]; trivial)]; exact q
    | llst xs =>
      obtain ⟨od, vs, q, r⟩ := M.ob n _ e
      refine ⟨od, vs, ?_, r.mono' (lf_G w _)⟩
      show upd w.G p o (w.ρ n) = _
      rw [upd_ne fun z => by rw [z, hp] at q; exact hu (by rw [Option.some.inj q]; trivial)]; exact q
    | ltct xs =>
      obtain ⟨od, vs, q, r⟩ := M.ob n _ e
      refine ⟨od, vs, ?_, r.mono' (lf_G w _)⟩
      show upd w.G p o (w.ρ n) = _
      rw [upd_ne fun z => by rw [z, hp] at q; exact hu (by rw [Option.some.inj q]; exact ⟨_, _, _, rfl⟩)]; exact q
    | _ =>
      exact (M.ob n _ e).keep (lf_G w _) (M.lt e) (fun x h => by rw [upd_ne (nI e trivial)]; exact h) fun od x h => by
        show upd w.G p o (w.ρ n) = _
        rw [upd_ne (nI e trivial)]; exact h
  · show upd w.G p o (w.ρ n) = none
    rw [upd_ne (nI e l)]
    exact M.ng n u e l
  · have h : upd w.G p o a = some x := h
    show w.F a = none
    by_cases q : a = p
    · rw [q]; exact hf
    · rw [upd_ne q] at h; exact M.gf a x h
/-- a thing beside comes to stand for good -/
theorem Mem.settle (M : Mem g w H m) {p : Addr} {o : HO} (hp : w.G p = some o) (hu : ¬ Lk o := by exact fun z => z) : Mem g ⟨upd w.F p o, w.ρ, w.len, fun a => if a = p then none else w.G a⟩ H m := by
  have hf := M.gf _ _ hp
  have nI : ∀ {n x}, m[n]? = some x → x.live → w.ρ n ≠ p := fun e l z => by
    have q := M.ng _ _ e l
    rw [z, hp] at q; cases q
  have lf : w.lf ⟨upd w.F p o, w.ρ, w.len, fun a => if a = p then none else w.G a⟩ := ⟨fun a x h => by
    show upd w.F p o a = some x
    rw [upd_ne fun z => by rw [z, hf] at h; cases h]; exact h, Nat.le_refl _, fun _ _ => rfl⟩
  refine ⟨fun a u h => ?_, M.len, fun n u e => (M.ob n u e).keep lf (M.lt e) (fun x h => h) fun od x h => by
    show (if w.ρ n = p then none else w.G (w.ρ n)) = _
    rw [if_neg fun z => by rw [z, hp] at h; exact hu (by rw [Option.some.inj h]; exact x)]; exact h, fun n u e l => ?_, M.inj, fun a u h => ?_, fun n u e l => ?_, fun a u h => ?_⟩
  · have h : upd w.F p o a = some u := h
    by_cases q : a = p
    · subst q
      rw [upd_same] at h
      rw [← h]; exact M.gr _ _ hp
    · rw [upd_ne q] at h; exact M.fr a u h
  · show upd w.F p o (w.ρ n) = none
    rw [upd_ne (nI e l)]; exact M.nf n u e l
  · have h : (if a = p then none else w.G a) = some u := h
    by_cases q : a = p
    · rw [if_pos q] at h; cases h
    · rw [if_neg q] at h; exact M.gr a u h
  · show (if w.ρ n = p then none else w.G (w.ρ n)) = none
    rw [if_neg (nI e l)]; exact M.ng n u e l
  · have h : (if a = p then none else w.G a) = some u := h
    show upd w.F p o a = none
    by_cases q : a = p
    · rw [if_pos q] at h; cases h
    · rw [if_neg q] at h
      rw [upd_ne q]; exact M.gf a u h
/-- a new object at a new id -/
theorem Mem.new (M : Mem g w H m) {p : Addr} {o : HO} {u : O} (hp : H p = none) (hu : ObR g (w.one p) (upd H p o) w.len u) :
    w.le (w.one p) ∧ Mem g (w.one p) (upd H p o) (m ++ [u]) := by
  have ne : ∀ {a x}, H a = some x → a ≠ p := fun e => ne_of_none e hp
  have le : w.le (w.one p) := w.one_le p
  have old : ∀ {n x}, (m ++ [u])[n]? = some x → (m[n]? = some x ∧ n < w.len) ∨ (n = w.len ∧ x = u) := fun {n x} e => by
    by_cases q : n < m.length
    · rw [List.getElem?_append_left q] at e
      exact .inl ⟨e, by rw [M.len]; exact q⟩
    · rw [List.getElem?_append_right (by omega)] at e
      have q2 : n - m.length = 0 := by
        by_cases z : n - m.length = 0
        · exact z
        · rw [List.getElem?_eq_none (by simp; omega)] at e; cases e
      rw [q2] at e
      exact .inr ⟨by rw [M.len]; omega, (Option.some.inj e).symm⟩
  have rn : ∀ {n}, n < w.len → (if n = w.len then p else w.ρ n) = w.ρ n := fun h => if_neg (Nat.ne_of_lt h)
  have free : ∀ {F : Hp}, (∀ a o, F a = some o → H a = some o) → F p = none := fun {F} h => by
    cases z : F p with
    | none => rfl
    | some y => rw [h p y z] at hp; cases hp
  refine ⟨le, ⟨fun a x h => by rw [upd_ne (ne (M.fr a x h))]; exact M.fr a x h, by
    show w.len + 1 = _
    rw [M.len, List.length_append]; rfl, fun n x e => ?_, fun n x e l => ?_, fun n k x y e l e' l' q => ?_, fun a x h => by rw [upd_ne (ne (M.gr a x h))]; exact M.gr a x h, fun n x e l => ?_, M.gf⟩⟩
  · rcases old e with ⟨e, hn⟩ | ⟨rfl, rfl⟩
    · exact (M.ob n x e).keep le.tolf hn (fun y h => by rw [upd_ne (ne h)]; exact h) fun _ _ h => h
    · exact hu
  · rcases old e with ⟨e, hn⟩ | ⟨rfl, rfl⟩
    · show w.F (if n = w.len then p else w.ρ n) = none
      rw [rn hn]; exact M.nf n x e l
    · show w.F (if w.len = w.len then p else w.ρ w.len) = none
      rw [if_pos rfl]
      exact free M.fr
  · have q : (if n = w.len then p else w.ρ n) = (if k = w.len then p else w.ρ k) := q
    have a1 : (n < w.len ∧ ∃ z, H (w.ρ n) = some z) ∨ n = w.len := by
      rcases old e with ⟨e1, hn⟩ | ⟨h1, _⟩
      · exact .inl ⟨hn, M.at e1 l⟩
      · exact .inr h1
    have a2 : (k < w.len ∧ ∃ z, H (w.ρ k) = some z) ∨ k = w.len := by
      rcases old e' with ⟨e1, hn⟩ | ⟨h1, _⟩
      · exact .inl ⟨hn, M.at e1 l'⟩
      · exact .inr h1
    rcases a1 with ⟨hn, z, hz⟩ | hn
    · rcases a2 with ⟨hk, z', hz'⟩ | hk
      · rw [rn hn, rn hk] at q
        rcases old e with ⟨e1, _⟩ | ⟨h1, _⟩
        · rcases old e' with ⟨e2, _⟩ | ⟨h2, _⟩
          · exact M.inj n k x y e1 l e2 l' q
          · omega
        · omega
      · rw [rn hn, if_pos hk] at q
        exact absurd q (ne hz)
    · rcases a2 with ⟨hk, z', hz'⟩ | hk
      · rw [if_pos hn, rn hk] at q
        exact absurd q.symm (ne hz')
      · omega
  · rcases old e with ⟨e, hn⟩ | ⟨rfl, rfl⟩
    · show w.G (if n = w.len then p else w.ρ n) = none
      rw [rn hn]; exact M.ng n x e l
    · show w.G (if w.len = w.len then p else w.ρ w.len) = none
      rw [if_pos rfl]
      exact free M.gr
/-- a thing beside comes to be an object -/
theorem Mem.adopt (M : Mem g w H m) {p : Addr} {o : HO} {u : O} (hp : w.G p = some o) (hf0 : ¬ Lk o := by exact fun z => z)
    (hu : ObR g ⟨w.F, fun n => if n = w.len then p else w.ρ n, w.len + 1, fun a => if a = p then none else w.G a⟩ H w.len u) :
    Mem g ⟨w.F, fun n => if n = w.len then p else w.ρ n, w.len + 1, fun a => if a = p then none else w.G a⟩ H (m ++ [u]) := by
  have hf := M.gf _ _ hp
  have nI : ∀ {n x}, m[n]? = some x → x.live → w.ρ n ≠ p := fun e l z => by
    have q := M.ng _ _ e l
    rw [z, hp] at q; cases q
  have nH : ∀ {n x}, m[n]? = some x → x.held → w.ρ n ≠ p := fun {n x} e l z => by
    cases x with
    | dead => exact l
    | ldct kvs =>
      obtain ⟨od, vs, q, _⟩ := M.ob n _ e
      rw [z, hp] at q
      exact hf0 (by rw [Option.some.inj q]; trivial)
    | llst xs =>
      obtain ⟨od, vs, q, _⟩ := M.ob n _ e
      rw [z, hp] at q
      exact hf0 (by rw [Option.some.inj q]; trivial)
    | ltct xs =>
      obtain ⟨od, vs, q, _⟩ := M.ob n _ e
      rw [z, hp] at q
      exact hf0 (by rw [Option.some.inj q]; exact ⟨_, _, _, rfl⟩)
    | _ => exact nI e trivial z
  have lf : w.lf ⟨w.F, fun n => if n = w.len then p else w.ρ n, w.len + 1, fun a => if a = p then none else w.G a⟩ := ⟨fun _ _ h => h, Nat.le_succ _, fun n h => if_neg (Nat.ne_of_lt h)⟩
  have old : ∀ {n x}, (m ++ [u])[n]? = some x → (m[n]? = some x ∧ n < w.len) ∨ (n = w.len ∧ x = u) := fun {n x} e => by
    by_cases q : n < m.length
    · rw [List.getElem?_append_left q] at e
      exact .inl ⟨e, by rw [M.len]; exact q⟩
    · rw [List.getElem?_append_right (by omega)] at e
      have q2 : n - m.length = 0 := by
        by_cases z : n - m.length = 0
        · exact z
        · rw [List.getElem?_eq_none (by simp; omega)] at e; cases e
      rw [q2] at e
      exact .inr ⟨by rw [M.len]; omega, (Option.some.inj e).symm⟩
  have rn : ∀ {n}, n < w.len → (if n = w.len then p else w.ρ n) = w.ρ n := fun h => if_neg (Nat.ne_of_lt h)
  refine ⟨M.fr, by
    show w.len + 1 = _
    rw [M.len, List.length_append]; rfl, fun n x e => ?_, fun n x e l => ?_, fun n k x y e l e' l' q => ?_, fun a x h => ?_, fun n x e l => ?_, fun a x h => ?_⟩
  · rcases old e with ⟨e, hn⟩ | ⟨rfl, rfl⟩
    · exact (M.ob n x e).keep lf hn (fun y h => h) fun od x h => by
        show (if w.ρ n = p then none else w.G (w.ρ n)) = _
        rw [if_neg fun z => by rw [z, hp] at h; exact hf0 (by rw [Option.some.inj h]; exact x)]; exact h
    · exact hu
  · rcases old e with ⟨e, hn⟩ | ⟨rfl, rfl⟩
    · show w.F (if n = w.len then p else w.ρ n) = none
      rw [rn hn]; exact M.nf n x e l
    · show w.F (if w.len = w.len then p else w.ρ w.len) = none
      rw [if_pos rfl]
      exact hf
  · have q : (if n = w.len then p else w.ρ n) = (if k = w.len then p else w.ρ k) := q
    have a1 : (n < w.len ∧ w.ρ n ≠ p) ∨ n = w.len := by
      rcases old e with ⟨e1, hn⟩ | ⟨h1, _⟩
      · exact .inl ⟨hn, nH e1 l⟩
      · exact .inr h1
    have a2 : (k < w.len ∧ w.ρ k ≠ p) ∨ k = w.len := by
      rcases old e' with ⟨e1, hn⟩ | ⟨h1, _⟩
      · exact .inl ⟨hn, nH e1 l'⟩
      · exact .inr h1
    rcases a1 with ⟨hn, hz⟩ | hn
    · rcases a2 with ⟨hk, hz'⟩ | hk
      · rw [rn hn, rn hk] at q
        rcases old e with ⟨e1, _⟩ | ⟨h1, _⟩
        · rcases old e' with ⟨e2, _⟩ | ⟨h2, _⟩
          · exact M.inj n k x y e1 l e2 l' q
          · omega
        · omega
      · rw [rn hn, if_pos hk] at q
        exact absurd q hz
    · rcases a2 with ⟨hk, hz'⟩ | hk
      · rw [if_pos hn, rn hk] at q
        exact absurd q.symm hz'
      · omega
  · have h : (if a = p then none else w.G a) = some x := h
    by_cases q : a = p
    · rw [if_pos q] at h; cases h
    · rw [if_neg q] at h; exact M.gr a x h
  · rcases old e with ⟨e, hn⟩ | ⟨rfl, rfl⟩
    · show (if (if n = w.len then p else w.ρ n) = p then none else w.G (if n = w.len then p else w.ρ n)) = none
      rw [rn hn, if_neg (nI e l)]; exact M.ng n x e l
    · show (if (if w.len = w.len then p else w.ρ w.len) = p then none else w.G (if w.len = w.len then p else w.ρ w.len)) = none
      rw [if_pos rfl, if_pos rfl]
  · have h : (if a = p then none else w.G a) = some x := h
    show w.F a = none
    by_cases q : a = p
    · rw [if_pos q] at h; cases h
    · rw [if_neg q] at h; exact M.gf a x h
/-- an object changed -/
theorem Mem.write (M : Mem g w H m) {n : Nat} {x u : O} {o : HO} (e : m[n]? = some x) (l : x.live) (lu : u.live) (hu : ObR g w (upd H (w.ρ n) o) n u) : Mem g w (upd H (w.ρ n) o) (m.set n u) := by
  have hn : n < m.length := (List.getElem?_eq_some_iff.mp e).1
  have old : ∀ {k y}, (m.set n u)[k]? = some y → (k ≠ n ∧ m[k]? = some y) ∨ (k = n ∧ y = u) := fun {k y} q => by
    by_cases z : n = k
    · subst z
      rw [List.getElem?_set_self hn] at q
      exact .inr ⟨rfl, (Option.some.inj q).symm⟩
    · rw [List.getElem?_set_ne z] at q
      exact .inl ⟨fun h => z h.symm, q⟩
  refine ⟨fun a y h => ?_, by rw [List.length_set]; exact M.len, fun k y q => ?_, fun k y q ly => ?_, fun k j y z q ly q' lz r => ?_, fun a y h => ?_, fun k y q ly => ?_, M.gf⟩
  · have ne : a ≠ w.ρ n := fun z => by
      have q := M.nf n x e l
      rw [← z, h] at q; cases q
    rw [upd_ne ne]; exact M.fr a y h
  · rcases old q with ⟨ne, q⟩ | ⟨rfl, rfl⟩
    · cases y with
      | dead => trivial
      | ldct kvs => exact M.ob k _ q
      | llst xs => exact M.ob k _ q
      | ltct xs => exact M.ob k _ q
      | _ =>
        refine (M.ob k _ q).keep (Wd.le.refl w).tolf (M.lt q) (fun v h => ?_) fun _ _ h => h
        rw [upd_ne fun z => ne (M.inj k n _ x q trivial e (O.held_of l) z)]; exact h
    · exact hu
  · rcases old q with ⟨ne, q⟩ | ⟨rfl, rfl⟩
    · exact M.nf k y q ly
    · exact M.nf k x e l
  · have a1 : ∃ y', m[k]? = some y' ∧ y'.held := by
      rcases old q with ⟨_, q⟩ | ⟨rfl, rfl⟩
      · exact ⟨y, q, ly⟩
      · exact ⟨x, e, O.held_of l⟩
    have a2 : ∃ y', m[j]? = some y' ∧ y'.held := by
      rcases old q' with ⟨_, q⟩ | ⟨rfl, rfl⟩
      · exact ⟨z, q, lz⟩
      · exact ⟨x, e, O.held_of l⟩
    obtain ⟨y', e1, l1⟩ := a1
    obtain ⟨z', e2, l2⟩ := a2
    exact M.inj k j y' z' e1 l1 e2 l2 r
  · have ne : a ≠ w.ρ n := fun z => by
      have q := M.ng n x e l
      rw [← z, h] at q; cases q
    rw [upd_ne ne]; exact M.gr a y h
  · rcases old q with ⟨ne, q⟩ | ⟨rfl, rfl⟩
    · exact M.ng k y q ly
    · exact M.ng k x e l
/-- an id gives its object to what stands for good -/
theorem Mem.give (M : Mem g w H m) {n : Nat} {x : O} {o : HO} (e : m[n]? = some x) (l : x.live) (ho : H (w.ρ n) = some o) : w.le (w.fz (w.ρ n) o) ∧ Mem g (w.fz (w.ρ n) o) H (m.set n .dead) := by
  have hn : n < m.length := (List.getElem?_eq_some_iff.mp e).1
  have hF := M.nf n x e l
  have le : w.le (w.fz (w.ρ n) o) := ⟨⟨fun a u h => by
    show upd w.F (w.ρ n) o a = some u
    rw [upd_ne (ne_of_none h hF)]; exact h, Nat.le_refl _, fun _ _ => rfl⟩, fun _ _ h => h⟩
  have old : ∀ {k y}, (m.set n .dead)[k]? = some y → (k ≠ n ∧ m[k]? = some y) ∨ (k = n ∧ y = .dead) := fun {k y} q => by
    by_cases z : n = k
    · subst z
      rw [List.getElem?_set_self hn] at q
      exact .inr ⟨rfl, (Option.some.inj q).symm⟩
    · rw [List.getElem?_set_ne z] at q
      exact .inl ⟨fun h => z h.symm, q⟩
  refine ⟨le, ⟨fun a u h => ?_, by rw [List.length_set]; exact M.len, fun k y q => ?_, fun k y q ly => ?_, fun k j y z q ly q' lz r => ?_, M.gr, fun k y q ly => ?_, fun a u h => ?_⟩⟩
  · have h : upd w.F (w.ρ n) o a = some u := h
    by_cases q : a = w.ρ n
    · subst q
      rw [upd_same] at h
      rw [← h]; exact ho
    · rw [upd_ne q] at h
      exact M.fr a u h
  · rcases old q with ⟨ne, q⟩ | ⟨rfl, rfl⟩
    · exact (M.ob k y q).keep le.tolf (M.lt q) (fun v h => h) fun _ _ h => h
    · trivial
  · rcases old q with ⟨ne, q⟩ | ⟨rfl, rfl⟩
    · show upd w.F (w.ρ n) o (w.ρ k) = none
      rw [upd_ne fun z => ne (M.inj k n y x q (O.held_of ly) e (O.held_of l) z)]
      exact M.nf k y q ly
    · exact ly.elim
  · rcases old q with ⟨_, q⟩ | ⟨rfl, rfl⟩
    · rcases old q' with ⟨_, q'⟩ | ⟨rfl, rfl⟩
      · exact M.inj k j y z q ly q' lz r
      · exact lz.elim
    · exact ly.elim
  · rcases old q with ⟨_, q⟩ | ⟨rfl, rfl⟩
    · exact M.ng k y q ly
    · exact ly.elim
  · show upd w.F (w.ρ n) o a = none
    have ne : a ≠ w.ρ n := fun z => by
      have q := M.ng n x e l
      have h : w.G a = some u := h
      rw [← z, h] at q; cases q
    rw [upd_ne ne]; exact M.gf a u h
theorem old_set {m : Mm} {n : Nat} {u : O} (hn : n < m.length) {k : Nat} {y : O} (q : (m.set n u)[k]? = some y) : (k ≠ n ∧ m[k]? = some y) ∨ (k = n ∧ y = u) := by
  by_cases z : n = k
  · subst z
    rw [List.getElem?_set_self hn] at q
    exact .inr ⟨rfl, (Option.some.inj q).symm⟩
  · rw [List.getElem?_set_ne z] at q
    exact .inl ⟨fun h => z h.symm, q⟩
theorem Mem.lock (M : Mem g w H m) {n : Nat} {kvs : List (Key × D)} {kvs' : List (Key × V)} (e : m[n]? = some (.dct kvs)) (r : Rkv g w kvs kvs') (od : Obj) :
    w.le (w.wg (upd w.G (w.ρ n) (.frz od (.dK kvs')))) ∧ Mem g (w.wg (upd w.G (w.ρ n) (.frz od (.dK kvs')))) (upd H (w.ρ n) (.frz od (.dK kvs'))) (m.set n (.ldct kvs)) := by
  have hn : n < m.length := (List.getElem?_eq_some_iff.mp e).1
  have hF := M.nf n _ e trivial
  have hG := M.ng n _ e trivial
  have ne : ∀ {k y}, k ≠ n → m[k]? = some y → y.held → w.ρ k ≠ w.ρ n := fun h q l z => h (M.inj _ _ _ _ q l e trivial z)
  refine ⟨⟨lf_G w _, fun a o h => ?_⟩, ⟨fun a o h => ?_, by rw [List.length_set]; exact M.len, fun k y q => ?_, fun k y q l => ?_, fun k j y z q l q' l' h => ?_, upd_of M.gr _ _, fun k y q l => ?_, fun a o h => ?_⟩⟩
  · show upd w.G (w.ρ n) _ a = some o
    rw [upd_ne fun z => by rw [z, hG] at h; cases h]; exact h
  · rw [upd_ne fun z => by rw [z, hF] at h; cases h]; exact M.fr a o h
  · rcases old_set hn q with ⟨h, q⟩ | ⟨rfl, rfl⟩
    · cases y with
      | dead => trivial
      | _ =>
        refine (M.ob k _ q).keep (lf_G w _) (M.lt q) (fun v hv => ?_) fun od x hv => ?_
        · rw [upd_ne (ne h q trivial)]; exact hv
        · show upd w.G (w.ρ n) _ (w.ρ k) = _
          rw [upd_ne (ne h q trivial)]; exact hv
    · exact ⟨od, kvs', upd_same, r.mono' (lf_G w _)⟩
  · rcases old_set hn q with ⟨h, q⟩ | ⟨rfl, rfl⟩
    · exact M.nf k y q l
    · exact l.elim
  · have a1 : ∃ y', m[k]? = some y' ∧ y'.held := by
      rcases old_set hn q with ⟨_, q⟩ | ⟨rfl, rfl⟩
      · exact ⟨y, q, l⟩
      · exact ⟨_, e, trivial⟩
    have a2 : ∃ y', m[j]? = some y' ∧ y'.held := by
      rcases old_set hn q' with ⟨_, q⟩ | ⟨rfl, rfl⟩
      · exact ⟨z, q, l'⟩
      · exact ⟨_, e, trivial⟩
    obtain ⟨y', e1, l1⟩ := a1
    obtain ⟨z', e2, l2⟩ := a2
    exact M.inj k j y' z' e1 l1 e2 l2 h
  · rcases old_set hn q with ⟨h, q⟩ | ⟨rfl, rfl⟩
    · show upd w.G (w.ρ n) _ (w.ρ k) = none
      rw [upd_ne (ne h q (O.held_of l))]; exact M.ng k y q l
    · exact l.elim
  · have h : upd w.G (w.ρ n) _ a = some o := h
    by_cases z : a = w.ρ n
    · rw [z]; exact hF
    · rw [upd_ne z] at h; exact M.gf a o h
theorem Mem.unlock (M : Mem g w H m) {n : Nat} {kvs : List (Key × D)} (e : m[n]? = some (.ldct kvs)) {od : Obj} {kvs' : List (Key × V)} (hG : w.G (w.ρ n) = some (.frz od (.dK kvs'))) :
    Mem g ⟨w.F, w.ρ, w.len, fun a => if a = w.ρ n then none else w.G a⟩ (upd H (w.ρ n) (.dK kvs')) (m.set n (.dct kvs)) := by
  have hn : n < m.length := (List.getElem?_eq_some_iff.mp e).1
  have hF := M.gf _ _ hG
  have r : Rkv g w kvs kvs' := by
    obtain ⟨od2, k2, q, r⟩ := M.ob n _ e
    rw [hG] at q
    cases q
    exact r
  have lf : w.lf ⟨w.F, w.ρ, w.len, fun a => if a = w.ρ n then none else w.G a⟩ := ⟨fun _ _ h => h, Nat.le_refl _, fun _ _ => rfl⟩
  have ne : ∀ {k y}, k ≠ n → m[k]? = some y → y.held → w.ρ k ≠ w.ρ n := fun h q l z => h (M.inj _ _ _ _ q l e trivial z)
  refine ⟨fun a o h => ?_, by rw [List.length_set]; exact M.len, fun k y q => ?_, fun k y q l => ?_, fun k j y z q l q' l' h => ?_, fun a o h => ?_, fun k y q l => ?_, fun a o h => ?_⟩
  · rw [upd_ne fun z => by
      have h : w.F a = some o := h
      rw [z, hF] at h; cases h]; exact M.fr a o h
  · rcases old_set hn q with ⟨h, q⟩ | ⟨rfl, rfl⟩
    · cases y with
      | dead => trivial
      | _ =>
        refine (M.ob k _ q).keep lf (M.lt q) (fun v hv => ?_) fun od x hv => ?_
        · rw [upd_ne (ne h q trivial)]; exact hv
        · show (if w.ρ k = w.ρ n then none else w.G (w.ρ k)) = _
          rw [if_neg (ne h q trivial)]; exact hv
    · exact ⟨kvs', upd_same, r.mono' lf⟩
  · rcases old_set hn q with ⟨h, q⟩ | ⟨rfl, rfl⟩
    · exact M.nf k y q l
    · exact hF
  · have a1 : ∃ y', m[k]? = some y' ∧ y'.held := by
      rcases old_set hn q with ⟨_, q⟩ | ⟨rfl, rfl⟩
      · exact ⟨y, q, l⟩
      · exact ⟨_, e, trivial⟩
    have a2 : ∃ y', m[j]? = some y' ∧ y'.held := by
      rcases old_set hn q' with ⟨_, q⟩ | ⟨rfl, rfl⟩
      · exact ⟨z, q, l'⟩
      · exact ⟨_, e, trivial⟩
    obtain ⟨y', e1, l1⟩ := a1
    obtain ⟨z', e2, l2⟩ := a2
    exact M.inj k j y' z' e1 l1 e2 l2 h
  · have h : (if a = w.ρ n then none else w.G a) = some o := h
    by_cases z : a = w.ρ n
    · rw [if_pos z] at h; cases h
    · rw [if_neg z] at h
      rw [upd_ne z]; exact M.gr a o h
  · rcases old_set hn q with ⟨h, q⟩ | ⟨rfl, rfl⟩
    · show (if w.ρ k = w.ρ n then none else w.G (w.ρ k)) = none
      rw [if_neg (ne h q (O.held_of l))]; exact M.ng k y q l
    · show (if w.ρ k = w.ρ k then none else w.G (w.ρ k)) = none
      rw [if_pos rfl]
  · have h : (if a = w.ρ n then none else w.G a) = some o := h
    by_cases z : a = w.ρ n
    · rw [if_pos z] at h; cases h
    · rw [if_neg z] at h; exact M.gf a o h
theorem Mem.lockT (M : Mem g w H m) {n : Nat} {kvs : List (D × D)} {kvs' : List (NK × Addr × V)} (e : m[n]? = some (.tct kvs)) (r : Rtk g w kvs kvs') (od : Obj) :
    w.le (w.wg (upd w.G (w.ρ n) (.frz od (tcO g.W (w.ρ n) kvs')))) ∧ Mem g (w.wg (upd w.G (w.ρ n) (.frz od (tcO g.W (w.ρ n) kvs')))) (upd H (w.ρ n) (.frz od (tcO g.W (w.ρ n) kvs'))) (m.set n (.ltct kvs)) := by
  have hn : n < m.length := (List.getElem?_eq_some_iff.mp e).1
  have hF := M.nf n _ e trivial
  have hG := M.ng n _ e trivial
  have ne : ∀ {k y}, k ≠ n → m[k]? = some y → y.held → w.ρ k ≠ w.ρ n := fun h q l z => h (M.inj _ _ _ _ q l e trivial z)
  refine ⟨⟨lf_G w _, fun a o h => ?_⟩, ⟨fun a o h => ?_, by rw [List.length_set]; exact M.len, fun k y q => ?_, fun k y q l => ?_, fun k j y z q l q' l' h => ?_, upd_of M.gr _ _, fun k y q l => ?_, fun a o h => ?_⟩⟩
  · show upd w.G (w.ρ n) _ a = some o
    rw [upd_ne fun z => by rw [z, hG] at h; cases h]; exact h
  · rw [upd_ne fun z => by rw [z, hF] at h; cases h]; exact M.fr a o h
  · rcases old_set hn q with ⟨h, q⟩ | ⟨rfl, rfl⟩
    · cases y with
      | dead => trivial
      | _ =>
        refine (M.ob k _ q).keep (lf_G w _) (M.lt q) (fun v hv => ?_) fun od x hv => ?_
        · rw [upd_ne (ne h q trivial)]; exact hv
        · show upd w.G (w.ρ n) _ (w.ρ k) = _
          rw [upd_ne (ne h q trivial)]; exact hv
    · exact ⟨od, kvs', upd_same, r.mono' (lf_G w _)⟩
  · rcases old_set hn q with ⟨h, q⟩ | ⟨rfl, rfl⟩
    · exact M.nf k y q l
    · exact l.elim
  · have a1 : ∃ y', m[k]? = some y' ∧ y'.held := by
      rcases old_set hn q with ⟨_, q⟩ | ⟨rfl, rfl⟩
      · exact ⟨y, q, l⟩
      · exact ⟨_, e, trivial⟩
    have a2 : ∃ y', m[j]? = some y' ∧ y'.held := by
      rcases old_set hn q' with ⟨_, q⟩ | ⟨rfl, rfl⟩
      · exact ⟨z, q, l'⟩
      · exact ⟨_, e, trivial⟩
    obtain ⟨y', e1, l1⟩ := a1
    obtain ⟨z', e2, l2⟩ := a2
    exact M.inj k j y' z' e1 l1 e2 l2 h
  · rcases old_set hn q with ⟨h, q⟩ | ⟨rfl, rfl⟩
    · show upd w.G (w.ρ n) _ (w.ρ k) = none
      rw [upd_ne (ne h q (O.held_of l))]; exact M.ng k y q l
    · exact l.elim
  · have h : upd w.G (w.ρ n) _ a = some o := h
    by_cases z : a = w.ρ n
    · rw [z]; exact hF
    · rw [upd_ne z] at h; exact M.gf a o h
theorem Mem.unlockT (M : Mem g w H m) {n : Nat} {kvs : List (D × D)} (e : m[n]? = some (.ltct kvs)) {od : Obj} {kvs' : List (NK × Addr × V)} (hG : w.G (w.ρ n) = some (.frz od (tcO g.W (w.ρ n) kvs'))) :
    Mem g ⟨w.F, w.ρ, w.len, fun a => if a = w.ρ n then none else w.G a⟩ (upd H (w.ρ n) (tcO g.W (w.ρ n) kvs')) (m.set n (.tct kvs)) := by
  have hn : n < m.length := (List.getElem?_eq_some_iff.mp e).1
  have hF := M.gf _ _ hG
  have r : ∃ k2, tcO g.W (w.ρ n) kvs' = tcO g.W (w.ρ n) k2 ∧ Rtk g w kvs k2 := by
    obtain ⟨od2, k2, q, r⟩ := M.ob n _ e
    rw [hG] at q
    exact ⟨k2, by injection q with q; injection q, r⟩
  obtain ⟨k2, ek, r⟩ := r
  have lf : w.lf ⟨w.F, w.ρ, w.len, fun a => if a = w.ρ n then none else w.G a⟩ := ⟨fun _ _ h => h, Nat.le_refl _, fun _ _ => rfl⟩
  have ne : ∀ {k y}, k ≠ n → m[k]? = some y → y.held → w.ρ k ≠ w.ρ n := fun h q l z => h (M.inj _ _ _ _ q l e trivial z)
  refine ⟨fun a o h => ?_, by rw [List.length_set]; exact M.len, fun k y q => ?_, fun k y q l => ?_, fun k j y z q l q' l' h => ?_, fun a o h => ?_, fun k y q l => ?_, fun a o h => ?_⟩
  · rw [upd_ne fun z => by
      have h : w.F a = some o := h
      rw [z, hF] at h; cases h]; exact M.fr a o h
  · rcases old_set hn q with ⟨h, q⟩ | ⟨rfl, rfl⟩
    · cases y with
      | dead => trivial
      | _ =>
        refine (M.ob k _ q).keep lf (M.lt q) (fun v hv => ?_) fun od x hv => ?_
        · rw [upd_ne (ne h q trivial)]; exact hv
        · show (if w.ρ k = w.ρ n then none else w.G (w.ρ k)) = _
          rw [if_neg (ne h q trivial)]; exact hv
    · exact ⟨k2, by rw [← ek]; exact upd_same, r.mono' lf⟩
  · rcases old_set hn q with ⟨h, q⟩ | ⟨rfl, rfl⟩
    · exact M.nf k y q l
    · exact hF
  · have a1 : ∃ y', m[k]? = some y' ∧ y'.held := by
      rcases old_set hn q with ⟨_, q⟩ | ⟨rfl, rfl⟩
      · exact ⟨y, q, l⟩
      · exact ⟨_, e, trivial⟩
    have a2 : ∃ y', m[j]? = some y' ∧ y'.held := by
      rcases old_set hn q' with ⟨_, q⟩ | ⟨rfl, rfl⟩
      · exact ⟨z, q, l'⟩
      · exact ⟨_, e, trivial⟩
    obtain ⟨y', e1, l1⟩ := a1
    obtain ⟨z', e2, l2⟩ := a2
    exact M.inj k j y' z' e1 l1 e2 l2 h
  · have h : (if a = w.ρ n then none else w.G a) = some o := h
    by_cases z : a = w.ρ n
    · rw [if_pos z] at h; cases h
    · rw [if_neg z] at h
      rw [upd_ne z]; exact M.gr a o h
  · rcases old_set hn q with ⟨h, q⟩ | ⟨rfl, rfl⟩
    · show (if w.ρ k = w.ρ n then none else w.G (w.ρ k)) = none
      rw [if_neg (ne h q (O.held_of l))]; exact M.ng k y q l
    · show (if w.ρ k = w.ρ k then none else w.G (w.ρ k)) = none
      rw [if_pos rfl]
  · have h : (if a = w.ρ n then none else w.G a) = some o := h
    by_cases z : a = w.ρ n
    · rw [if_pos z] at h; cases h
    · rw [if_neg z] at h; exact M.gf a o h
theorem Mem.lockL (M : Mem g w H m) {n : Nat} {kvs : List D} {vs0 : List V} (e : m[n]? = some (.lst kvs)) (r : Rvs g w kvs vs0) (od : Obj) :
    w.le (w.wg (upd w.G (w.ρ n) (.frz od (.lst vs0)))) ∧ Mem g (w.wg (upd w.G (w.ρ n) (.frz od (.lst vs0)))) (upd H (w.ρ n) (.frz od (.lst vs0))) (m.set n (.llst kvs)) := by
  have hn : n < m.length := (List.getElem?_eq_some_iff.mp e).1
  have hF := M.nf n _ e trivial
  have hG := M.ng n _ e trivial
  have ne : ∀ {k y}, k ≠ n → m[k]? = some y → y.held → w.ρ k ≠ w.ρ n := fun h q l z => h (M.inj _ _ _ _ q l e trivial z)
  refine ⟨⟨lf_G w _, fun a o h => ?_⟩, ⟨fun a o h => ?_, by rw [List.length_set]; exact M.len, fun k y q => ?_, fun k y q l => ?_, fun k j y z q l q' l' h => ?_, upd_of M.gr _ _, fun k y q l => ?_, fun a o h => ?_⟩⟩
  · show upd w.G (w.ρ n) _ a = some o
    rw [upd_ne fun z => by rw [z, hG] at h; cases h]; exact h
  · rw [upd_ne fun z => by rw [z, hF] at h; cases h]; exact M.fr a o h
  · rcases old_set hn q with ⟨h, q⟩ | ⟨rfl, rfl⟩
    · cases y with
      | dead => trivial
      | _ =>
        refine (M.ob k _ q).keep (lf_G w _) (M.lt q) (fun v hv => ?_) fun od x hv => ?_
        · rw [upd_ne (ne h q trivial)]; exact hv
        · show upd w.G (w.ρ n) _ (w.ρ k) = _
          rw [upd_ne (ne h q trivial)]; exact hv
    · exact ⟨od, vs0, upd_same, r.mono' (lf_G w _)⟩
  · rcases old_set hn q with ⟨h, q⟩ | ⟨rfl, rfl⟩
    · exact M.nf k y q l
    · exact l.elim
  · have a1 : ∃ y', m[k]? = some y' ∧ y'.held := by
      rcases old_set hn q with ⟨_, q⟩ | ⟨rfl, rfl⟩
      · exact ⟨y, q, l⟩
      · exact ⟨_, e, trivial⟩
    have a2 : ∃ y', m[j]? = some y' ∧ y'.held := by
      rcases old_set hn q' with ⟨_, q⟩ | ⟨rfl, rfl⟩
      · exact ⟨z, q, l'⟩
      · exact ⟨_, e, trivial⟩
    obtain ⟨y', e1, l1⟩ := a1
    obtain ⟨z', e2, l2⟩ := a2
    exact M.inj k j y' z' e1 l1 e2 l2 h
  · rcases old_set hn q with ⟨h, q⟩ | ⟨rfl, rfl⟩
    · show upd w.G (w.ρ n) _ (w.ρ k) = none
      rw [upd_ne (ne h q (O.held_of l))]; exact M.ng k y q l
    · exact l.elim
  · have h : upd w.G (w.ρ n) _ a = some o := h
    by_cases z : a = w.ρ n
    · rw [z]; exact hF
    · rw [upd_ne z] at h; exact M.gf a o h
theorem Mem.unlockL (M : Mem g w H m) {n : Nat} {kvs : List D} (e : m[n]? = some (.llst kvs)) {od : Obj} {vs0 : List V} (hG : w.G (w.ρ n) = some (.frz od (.lst vs0))) :
    Mem g ⟨w.F, w.ρ, w.len, fun a => if a = w.ρ n then none else w.G a⟩ (upd H (w.ρ n) (.lst vs0)) (m.set n (.lst kvs)) := by
  have hn : n < m.length := (List.getElem?_eq_some_iff.mp e).1
  have hF := M.gf _ _ hG
  have r : Rvs g w kvs vs0 := by
    obtain ⟨od2, k2, q, r⟩ := M.ob n _ e
    rw [hG] at q
    cases q
    exact r
  have lf : w.lf ⟨w.F, w.ρ, w.len, fun a => if a = w.ρ n then none else w.G a⟩ := ⟨fun _ _ h => h, Nat.le_refl _, fun _ _ => rfl⟩
  have ne : ∀ {k y}, k ≠ n → m[k]? = some y → y.held → w.ρ k ≠ w.ρ n := fun h q l z => h (M.inj _ _ _ _ q l e trivial z)
  refine ⟨fun a o h => ?_, by rw [List.length_set]; exact M.len, fun k y q => ?_, fun k y q l => ?_, fun k j y z q l q' l' h => ?_, fun a o h => ?_, fun k y q l => ?_, fun a o h => ?_⟩
  · rw [upd_ne fun z => by
      have h : w.F a = some o := h
      rw [z, hF] at h; cases h]; exact M.fr a o h
  · rcases old_set hn q with ⟨h, q⟩ | ⟨rfl, rfl⟩
    · cases y with
      | dead => trivial
      | _ =>
        refine (M.ob k _ q).keep lf (M.lt q) (fun v hv => ?_) fun od x hv => ?_
        · rw [upd_ne (ne h q trivial)]; exact hv
        · show (if w.ρ k = w.ρ n then none else w.G (w.ρ k)) = _
          rw [if_neg (ne h q trivial)]; exact hv
    · exact ⟨vs0, upd_same, r.mono' lf⟩
  · rcases old_set hn q with ⟨h, q⟩ | ⟨rfl, rfl⟩
    · exact M.nf k y q l
    · exact hF
  · have a1 : ∃ y', m[k]? = some y' ∧ y'.held := by
      rcases old_set hn q with ⟨_, q⟩ | ⟨rfl, rfl⟩
      · exact ⟨y, q, l⟩
      · exact ⟨_, e, trivial⟩
    have a2 : ∃ y', m[j]? = some y' ∧ y'.held := by
      rcases old_set hn q' with ⟨_, q⟩ | ⟨rfl, rfl⟩
      · exact ⟨z, q, l'⟩
      · exact ⟨_, e, trivial⟩
    obtain ⟨y', e1, l1⟩ := a1
    obtain ⟨z', e2, l2⟩ := a2
    exact M.inj k j y' z' e1 l1 e2 l2 h
  · have h : (if a = w.ρ n then none else w.G a) = some o := h
    by_cases z : a = w.ρ n
    · rw [if_pos z] at h; cases h
    · rw [if_neg z] at h
      rw [upd_ne z]; exact M.gr a o h
  · rcases old_set hn q with ⟨h, q⟩ | ⟨rfl, rfl⟩
    · show (if w.ρ k = w.ρ n then none else w.G (w.ρ k)) = none
      rw [if_neg (ne h q (O.held_of l))]; exact M.ng k y q l
    · show (if w.ρ k = w.ρ k then none else w.G (w.ρ k)) = none
      rw [if_pos rfl]
  · have h : (if a = w.ρ n then none else w.G a) = some o := h
    by_cases z : a = w.ρ n
    · rw [if_pos z] at h; cases h
    · rw [if_neg z] at h; exact M.gf a o h
end R
namespace R
open PySem PySem.Spec PyProof.Rows L2
section
variable {X : Cx}
theorem tup_made {P : Program} {wd : World} {H : Hp} {h : Heap} {us : List Value} {xs : List V} (hz : xs.length ≤ sizeLine) (r : Vals xs us) (h0 : Heap) : ObjOk P wd H (h0.push { cls := .type "tuple", data := .seq us.toArray }) h0.objs.size (.frz { cls := .type "tuple", data := .seq us.toArray } (.tup xs)) :=
  ⟨Heap.get?_push_size _ rfl, hz, us, r, IsTup.new _ _⟩
def tTupS (t : TA) : TE := fun σ H Q => t σ H fun xs H1 => xs.length ≤ sizeLine ∧ ∀ (p : Addr) (o : Obj), H1 p = none → o.dict = none → Q (.ref p) (upd H1 p (.frz o (.tup xs)))
theorem pe_tupS {es : List Expr} {t : TA} {x1 : Nat} {pos : Pos} (h : PA X es t) : PE X (.Tuple es x1 pos) (tTupS t) := by
  refine ⟨fun pins s σ H Q I hq => ?_⟩
  refine wpAny_Tuple_spliced (thn (h.run pos pins s σ H _ I hq) fun us s1 ⟨xs, H1, I1, r, z, q⟩ => ⟨by rw [← r.length]; exact z, ?_⟩)
  have hf : H1 s1.heap.objs.size = none := I1.hok.fresh (Nat.le_refl _)
  refine ⟨.ref s1.heap.objs.size, upd H1 s1.heap.objs.size _, I1.laid (t' := s1.toks) (fun b u e => Heap.get?_push_of_some _ e) (Nat.le_refl _) (tup_made (h := s1.heap) z r s1.heap), rfl, q _ _ hf rfl⟩
def rSlS (K : PySem.W.Frag) : V → Option Int → Option Int → Hp → VK → Prop := fun x lo hi H Q => ∃ a xs, x = .ref a ∧ SqT K H a xs ∧
  (HT.sIx xs.length 0 lo = 0 ∧ HT.sIx xs.length xs.length hi = xs.length → Q (.ref a) H) ∧ (¬ (HT.sIx xs.length 0 lo = 0 ∧ HT.sIx xs.length xs.length hi = xs.length) → ∀ (p : Addr) (o : Obj), H p = none → o.dict = none → Q (.ref p) (upd H p (.frz o (.tup (cutV xs lo hi)))))
theorem sl_tupS : SlR X (rSlS X.K) := by
  intro pins s σ H x v vl vu lo hi sl Q I rx hs pl pu h
  obtain ⟨a, xs, rfl, hx, q1, q2⟩ := h
  by_cases hw : HT.sIx xs.length 0 lo = 0 ∧ HT.sIx xs.length xs.length hi = xs.length
  · exact sl_tupA pins s σ H _ v vl vu lo hi sl Q I rx hs pl pu ⟨a, xs, rfl, hx, q1, fun z => absurd hw z⟩
  · cases rx
    obtain ⟨its, r, ht, hz⟩ := I.tuple hx
    have hlen : its.toArray.size = xs.length := by rw [List.size_toArray]; exact r.length.symm
    refine ⟨"tuple", _, PyProof.Rows.slot_tuple_getitem.lookup, ht.typeIs, ?_⟩
    refine HT.getItem_tuple_cut ht hs pl pu (by rw [hlen]; exact hw) ?_ (by rw [hlen]; exact hz)
    rw [hlen]
    refine ⟨.ref s.heap.objs.size, _, I.laid (t' := s.toks) (fun b ob q => Heap.get?_push_of_some _ q) (Nat.le_refl _) (tup_made (h := s.heap) (xs := cutV xs lo hi) (Nat.le_trans (cutV_length xs lo hi) hz) ((r.drop (HT.sIx xs.length 0 lo)).take (HT.sIx xs.length xs.length hi - HT.sIx xs.length 0 lo)) s.heap), rfl, q2 hw _ _ (I.hok.fresh (Nat.le_refl _)) rfl⟩
def rCatS (K : PySem.W.Frag) : R2 := fun x y H Q => ∃ a b xs ys, x = .ref a ∧ y = .ref b ∧ SqT K H a xs ∧ SqT K H b ys ∧ xs.length + ys.length ≤ sizeLine ∧
  (xs = [] → Q (.ref b) H) ∧ (xs ≠ [] → ys = [] → Q (.ref a) H) ∧ (xs ≠ [] → ys ≠ [] → ∀ (p : Addr) (o : Obj), H p = none → o.dict = none → Q (.ref p) (upd H p (.frz o (.tup (xs ++ ys)))))
theorem op_catS : OpR X (binaryOp .Add) (rCatS X.K) := by
  intro pins s σ H x y v u Q I rx ry h
  obtain ⟨a, b, xs, ys, rfl, rfl, ha, hb, hz, q0, q1, q2⟩ := h
  by_cases hx : xs = []
  · exact op_catA pins s σ H _ _ v u Q I rx ry ⟨a, b, xs, ys, rfl, rfl, ha, hb, hz, q0, fun z => absurd hx z, fun z => absurd hx z⟩
  · cases rx
    cases ry
    obtain ⟨its, r1, p1, _⟩ := I.tuple ha
    obtain ⟨its2, r2, p2, _⟩ := I.tuple hb
    refine HT.cat_tup p1 p2 (fun z => hx (r1.nil_iff.mp z)) (fun z => ⟨.ref a, H, I, rfl, q1 hx (r2.nil_iff.mp z)⟩) (fun z => ?_) (by rw [← r1.length, ← r2.length]; exact hz)
    exact ⟨.ref s.heap.objs.size, _, I.laid (t' := s.toks) (fun b ob q => Heap.get?_push_of_some _ q) (Nat.le_refl _) (tup_made (h := s.heap) (xs := xs ++ ys) (by rw [List.length_append]; exact hz) (r1.append r2) s.heap), rfl, q2 hx (fun w => z (r2.nil_iff.mpr w)) _ _ (I.hok.fresh (Nat.le_refl _)) rfl⟩
theorem call_tuple_ofS : CallR X (.type "tuple") (fun xs H Q => ∃ p ys, xs = [.ref p] ∧ ((SqL X.K H p ys ∧ ∀ (l : Addr) (o : Obj), H l = none → o.dict = none → Q (.ref l) (upd H l (.frz o (.tup ys)))) ∨ (SqT X.K H p ys ∧ Q (.ref p) H))) := by
  intro pins s σ H xs us Q I r h
  obtain ⟨p, ys, rfl, h⟩ := h
  obtain ⟨u, rfl, rx⟩ := vals1 r
  cases rx
  rcases h with ⟨hq, q⟩ | ⟨hq, q⟩
  · obtain ⟨its, r', pl, hz⟩ := I.list hq
    have hlen := r'.length
    refine call_tuple_list pl.isList (fun h' kp => ?_) (by simp only [List.size_toArray] <;> omega)
    have I1 : Inv X pins σ H { s with heap := h' } := I.kept (t' := s.toks) kp
    have I2 := I1.laid (t' := s.toks) (fun b o e => Heap.get?_push_of_some _ e) (Nat.le_refl _) (tup_made (h := h') hz r' h')
    exact ⟨.ref h'.objs.size, _, I2, rfl, q _ _ (I1.hok.fresh (Nat.le_refl _)) rfl⟩
  · obtain ⟨its, r', pl, hz⟩ := I.tuple hq
    exact call_tuple_same pl ⟨.ref p, H, I, rfl, q⟩
end
/-- how an exception lies: its dict -/
def XP (g : Gm) (w : Wd) : Option D → Option Addr → Prop
  | none, dx => dx = none
  | some d, dx => ∃ dd v, dx = some dd ∧ w.F dd = some (.xd [("problem", v)]) ∧ Rv g w d v ∧ pay d = true
def XR (g : Gm) (w : Wd) (C : Nat) (p : Option D) (cls : Value) (dx : Option Addr) : Prop := cls = .ref (g.xad C) ∧ C ∈ g.xs ∧ XP g w p dx
mutual
theorem pay_rv {g : Gm} {w1 w2 : Wd} (ft : ∀ a xs, TupS g.K w1.F a xs → TupS g.K w2.F a xs) : ∀ {d : D} {v : V}, pay d = true → Rv g w1 d v → Rv g w2 d v
  | _, _, _, .non => .non
  | _, _, _, .bl b => .bl b
  | _, _, _, .int i => .int i
  | _, _, _, .str x => .str x
  | _, _, h, .tup q r => .tup (ft _ _ q) (pays_rv ft (by simpa only [pay] using h) r)
  | _, _, h, .pr q r r2 => by simp [pay] at h
  | _, _, h, .lst q r => by simp [pay] at h
  | _, _, h, .scr q r => by simp [pay] at h
  | _, _, h, .dct q r => by simp [pay] at h
  | _, _, h, .ins hc q r => by simp [pay] at h
  | _, _, h, .ref _ _ => by simp [pay] at h
theorem pays_rv {g : Gm} {w1 w2 : Wd} (ft : ∀ a xs, TupS g.K w1.F a xs → TupS g.K w2.F a xs) : ∀ {d : List D} {v : List V}, pays d = true → Rvs g w1 d v → Rvs g w2 d v
  | _, _, _, .nil => .nil
  | _, _, h, .cons q r => by
    simp only [pays, Bool.and_eq_true] at h
    exact .cons (pay_rv ft h.1 q) (pays_rv ft h.2 r)
end
theorem XP.to {g : Gm} {w1 w2 : Wd} (ft : ∀ a xs, TupS g.K w1.F a xs → TupS g.K w2.F a xs) (fx : ∀ a fs, w1.F a = some (.xd fs) → w2.F a = some (.xd fs)) : ∀ {p : Option D} {dx : Option Addr}, XP g w1 p dx → XP g w2 p dx
  | none, _, h => h
  | some _, _, ⟨dd, v, h1, h2, h3, h4⟩ => ⟨dd, v, h1, fx _ _ h2, pay_rv ft h4 h3, h4⟩
theorem XR.to {g : Gm} {w1 w2 : Wd} (ft : ∀ a xs, TupS g.K w1.F a xs → TupS g.K w2.F a xs) (fx : ∀ a fs, w1.F a = some (.xd fs) → w2.F a = some (.xd fs)) {C : Nat} {p : Option D} {cls : Value} {dx : Option Addr} (h : XR g w1 C p cls dx) : XR g w2 C p cls dx := ⟨h.1, h.2.1, h.2.2.to ft fx⟩
abbrev XW := Value → Option Addr → Hp → Prop
def Post {α β : Type} (Rl : Wd → α → β → Prop) (g : Gm) (w : Wd) (xw : XW) (Q : β → Hp → Prop) : Res Mm α → Prop
  | .ok d m => ∀ w' v H', w.le w' → Mem g w' H' m → Rl w' d v → Q v H'
  | .exn C p m => ∀ w' cls dx H', w.le w' → Mem g w' H' m → XR g w' C p cls dx → xw cls dx H'
  | .bad => False
theorem Post.mono {α β : Type} {Rl : Wd → α → β → Prop} {g : Gm} {w w' : Wd} {xw : XW} {Q : β → Hp → Prop} (le : w.le w') : ∀ {r : Res Mm α}, Post Rl g w xw Q r → Post Rl g w' xw Q r
  | .ok _ _, h => fun u v H' l => h u v H' (le.trans l)
  | .exn _ _ _, h => fun u c d H' l => h u c d H' (le.trans l)
  | .bad, h => h
theorem Post.imp {α β : Type} {Rl : Wd → α → β → Prop} {g : Gm} {w : Wd} {xw : XW} {Q Q' : β → Hp → Prop} (k : ∀ v H, Q v H → Q' v H) : ∀ {r : Res Mm α}, Post Rl g w xw Q r → Post Rl g w xw Q' r
  | .ok _ _, h => fun u v H' l M r => k _ _ (h u v H' l M r)
  | .exn _ _ _, h => h
  | .bad, h => h
/-- one thing behind another -/
theorem Post.bind {α β γ δ : Type} {Rl : Wd → α → β → Prop} {Rl' : Wd → γ → δ → Prop} {g : Gm} {w : Wd} {xw : XW} {Q : β → Hp → Prop} {Q' : δ → Hp → Prop} {r : Res Mm γ} {f : γ → Mm → Res Mm α} (h : Post Rl g w xw Q (r.bind f))
    (k : ∀ d m, r = .ok d m → ∀ w' v H', w.le w' → Mem g w' H' m → Rl' w' d v → Post Rl g w' xw Q (f d m) → Q' v H') : Post Rl' g w xw Q' r := by
  cases r with
  | ok d m => exact fun w' v H' le M rv => k d m rfl w' v H' le M rv (Post.mono le h)
  | exn C p m => exact h
  | bad => exact h
abbrev PostE (g : Gm) := Post (Rv g) g
structure Slr (g : Gm) (w : Wd) (sl : List (Option D)) (σ : L2.St) : Prop where
  len : sl.length = σ.length
  at_ : ∀ (i : Nat) d, sl[i]? = some (some d) → ∃ v, σ[i]? = some (some v) ∧ Rv g w d v
theorem Slr.mono {g : Gm} {w w' : Wd} {sl : List (Option D)} {σ : L2.St} (le : w.le w') (s : Slr g w sl σ) : Slr g w' sl σ :=
  ⟨s.len, fun i d e => let ⟨v, h, r⟩ := s.at_ i d e; ⟨v, h, r.mono le⟩⟩
theorem Slr.set {g : Gm} {w : Wd} {sl : List (Option D)} {σ : L2.St} (s : Slr g w sl σ) {i : Nat} {d : D} {v : V} (r : Rv g w d v) : Slr g w (sl.set i (some d)) (σ.set i (some v)) := by
  refine ⟨by rw [List.length_set, List.length_set]; exact s.len, fun j e h => ?_⟩
  by_cases q : i = j
  · subst q
    by_cases hi : i < sl.length
    · rw [List.getElem?_set_self hi] at h
      cases h
      exact ⟨v, List.getElem?_set_self (by rw [← s.len]; exact hi), r⟩
    · rw [List.getElem?_eq_none (by simpa using hi)] at h; cases h
  · rw [List.getElem?_set_ne q] at h
    rw [List.getElem?_set_ne q]
    exact s.at_ j e h
theorem Slr.wipe {g : Gm} {w : Wd} {sl : List (Option D)} {σ : L2.St} (s : Slr g w sl σ) : ∀ vs : List Nat, Slr g w (R.wipe sl vs) (L2.wipe σ vs)
  | [] => s
  | v :: vs => by
    have t := Slr.wipe s vs
    unfold R.wipe L2.wipe
    refine ⟨by rw [List.length_set, List.length_set]; exact t.len, fun j e h => ?_⟩
    by_cases q : v = j
    · subst q
      by_cases hi : v < (R.wipe sl vs).length
      · rw [List.getElem?_set_self hi] at h; cases h
      · rw [List.getElem?_eq_none (by simpa using hi)] at h; cases h
    · rw [List.getElem?_set_ne q] at h
      rw [List.getElem?_set_ne q]
      exact t.at_ j e h
variable {g : Gm} {w : Wd} {H : Hp} {m : Mm}
theorem sl_szOk {n : Nat} (h : szOk n = true) : n ≤ sizeLine := by
  rw [sizeLine_eq]; exact Nat.le_of_ble_eq_true h
theorem lstW_rel (M : Mem g w H m) {d : D} {v : V} {xs : List D} (r : Rv g w d v) (e : lstW m d = some xs) : ∃ a vs, v = .ref a ∧ H a = some (.lst vs) ∧ Rvs g w xs vs := by
  cases r with
  | lst h r =>
    cases e
    exact ⟨_, _, rfl, M.fr _ _ h, r⟩
  | ref n hn =>
    simp only [lstW] at e
    split at e
    · rename_i ys q
      cases e
      obtain ⟨vs, h1, h2⟩ := M.ob n _ q
      exact ⟨_, vs, rfl, h1, h2⟩
    · cases e
  | _ => cases e
theorem lstOf_rel (M : Mem g w H m) {d : D} {v : V} {xs : List D} (r : Rv g w d v) (e : lstOf m d = some xs) : ∃ a vs, v = .ref a ∧ SqL g.K H a vs ∧ Rvs g w xs vs := by
  cases r with
  | lst h r =>
    cases e
    exact ⟨_, _, rfl, SqL.of (M.fr _ _ h), r⟩
  | scr h r =>
    cases e
    exact ⟨_, _, rfl, sqL_mono M.fr h, r⟩
  | ref n hn =>
    simp only [lstOf] at e
    split at e
    · rename_i ys q
      cases e
      obtain ⟨vs, h1, h2⟩ := M.ob n _ q
      exact ⟨_, vs, rfl, SqL.of h1, h2⟩
    · rename_i ys q
      cases e
      obtain ⟨od, vs, h1, h2⟩ := M.ob n _ q
      exact ⟨_, vs, rfl, .inl (.inr ⟨od, M.gr _ _ h1⟩), h2⟩
    · cases e
  | _ => cases e
theorem seqOf_rel (M : Mem g w H m) {d : D} {v : V} {xs : List D} (r : Rv g w d v) (e : seqOf m d = some xs) : ∃ a vs, v = .ref a ∧ (SqL g.K H a vs ∨ SqT g.K H a vs) ∧ Rvs g w xs vs := by
  cases d with
  | tup ys =>
    cases e
    cases r with
    | tup h r => exact ⟨_, _, rfl, .inr (sqT_mono M.fr h.sq), r⟩
  | _ =>
    obtain ⟨a, vs, h1, h2, h3⟩ := lstOf_rel M r e
    exact ⟨a, vs, h1, .inl h2, h3⟩
theorem mkL_post {obj : Bool} {ds : List D} {vs : List V} {xw : XW} {Q : V → Hp → Prop} (h : PostE g w xw Q (mkL obj ds m)) (M : Mem g w H m) (r : Rvs g w ds vs) :
    vs.length ≤ sizeLine ∧ ∀ p, H p = none → Q (.ref p) (upd H p (.lst vs)) := by
  unfold mkL at h
  by_cases hz : szOk ds.length = true
  · rw [if_pos hz] at h
    refine ⟨by rw [← r.length]; exact sl_szOk hz, fun p hp => ?_⟩
    cases obj with
    | true =>
      rw [if_pos rfl] at h
      obtain ⟨le, M'⟩ := M.new (p := p) (o := .lst vs) (u := .lst ds) hp ⟨vs, by
        show upd H p (.lst vs) (if w.len = w.len then p else w.ρ w.len) = _
        rw [if_pos rfl, upd_same], r.mono (w.one_le p)⟩
      have q : Rv g (w.one p) (.ref w.len) (.ref (if w.len = w.len then p else w.ρ w.len)) := Rv.ref (w := w.one p) w.len (Nat.lt_succ_self _)
      rw [if_pos rfl] at q
      rw [← M.len] at h
      exact h _ (.ref p) _ le M' q
    | false =>
      rw [if_neg Bool.false_ne_true] at h
      obtain ⟨le, M'⟩ := M.laid (p := p) (o := .lst vs) hp
      exact h _ _ _ le M' (.lst upd_same (r.mono le))
  · rw [if_neg hz] at h
    exact h.elim
theorem mkT_post {ds : List D} {vs : List V} {xw : XW} {Q : V → Hp → Prop} (h : PostE g w xw Q (mkT ds m)) (M : Mem g w H m) (r : Rvs g w ds vs) :
    vs.length ≤ sizeLine ∧ ∀ (p : Addr) (o : Obj), H p = none → o.dict = none → Q (.ref p) (upd H p (.frz o (.tup vs))) := by
  unfold mkT at h
  by_cases hz : szOk ds.length = true
  · rw [if_pos hz] at h
    refine ⟨by rw [← r.length]; exact sl_szOk hz, fun p o hp hd => ?_⟩
    obtain ⟨le, M'⟩ := M.laid (p := p) (o := .frz o (.tup vs)) hp
    exact h _ _ _ le M' (.tup (TupS.of upd_same hd) (r.mono le))
  · rw [if_neg hz] at h
    exact h.elim
theorem Rvs.rep {ds : List D} {vs : List V} (r : Rvs g w ds vs) : ∀ n : Nat, Rvs g w (List.replicate n ds).flatten (List.replicate n vs).flatten
  | 0 => .nil
  | n + 1 => by
    rw [List.replicate_succ, List.replicate_succ, List.flatten_cons, List.flatten_cons]
    exact r.append (Rvs.rep r n)
theorem OpR.imp {X : Cx} {f : Value → Value → Sem Value} {r r' : R2} (h : OpR X f r) (k : ∀ x y H Q, r' x y H Q → r x y H Q) : OpR X f r' :=
  fun pins s σ H x y v u Q I rx ry q => h pins s σ H x y v u Q I rx ry (k _ _ _ _ q)
mutual
theorem toP_rel (M : Mem g w H m) : ∀ (k : Nat) {d : D} {v : V} {q : PyData}, Rv g w d v → toP m k d = some q → Dp g.K H v q
  | 0, _, _, _, _, e => by simp [toP] at e
  | k + 1, _, _, q, .non, e => by
    simp [toP] at e; subst e; exact .non
  | k + 1, _, _, q, .bl b, e => by
    simp [toP] at e; subst e; exact .bl b
  | k + 1, _, _, q, .int i, e => by
    simp [toP] at e; subst e; exact .int i
  | k + 1, _, _, q, .str x, e => by
    simp [toP] at e; subst e; exact .str x
  | k + 1, _, _, q, .tup h r, e => by
    simp only [toP, Option.map_eq_some_iff] at e
    obtain ⟨qs, e, rfl⟩ := e
    exact .tup (sqT_mono M.fr h.sq) (toPs_rel M k r e)
  | k + 1, _, _, q, .lst h r, e => by
    simp only [toP, Option.map_eq_some_iff] at e
    obtain ⟨qs, e, rfl⟩ := e
    exact .lst (SqL.of (M.fr _ _ h)) (toPs_rel M k r e)
  | k + 1, _, _, q, .scr h r, e => by
    simp only [toP, Option.map_eq_some_iff] at e
    obtain ⟨qs, e, rfl⟩ := e
    exact .lst (sqL_mono M.fr h) (toPs_rel M k r e)
  | k + 1, _, _, q, .dct h r, e => by simp [toP] at e
  | k + 1, _, _, q, .pr h r r2, e => by simp [toP] at e
  | k + 1, _, _, q, .ins hc h r, e => by simp [toP] at e
  | k + 1, _, _, q, .ref n hn, e => by
    simp only [toP] at e
    split at e
    · rename_i ys z
      simp only [Option.map_eq_some_iff] at e
      obtain ⟨qs, e, rfl⟩ := e
      obtain ⟨vs, h1, h2⟩ := M.ob n _ z
      exact .lst (SqL.of h1) (toPs_rel M k h2 e)
    · cases e
theorem toPs_rel (M : Mem g w H m) : ∀ (k : Nat) {ds : List D} {vs : List V} {qs : List PyData}, Rvs g w ds vs → ds.mapM (toP m k) = some qs → DpAll g.K H vs qs
  | k, _, _, qs, .nil, e => by
    simp at e; subst e; exact .nil
  | k, _, _, qs, .cons h r, e => by
    rw [List.mapM_cons] at e
    simp only [Option.bind_eq_bind, Option.bind_eq_some_iff, Option.pure_def] at e
    obtain ⟨q, e1, qs', e2, e3⟩ := e
    cases e3
    exact .cons (toP_rel M k h e1) (toPs_rel M k r e2)
end
def Op.py : Op → Operator
  | .add => .Add | .sub => .Sub | .mul => .Mult | .fdiv => .FloorDiv | .mod => .Mod | .pow => .Pow
/-- what is known at an operator -/
def rBin (g : Gm) (o : Op) (obj : Bool) : R2 := fun x y H Q => ∃ w m a b xw, Mem g w H m ∧ Rv g w a x ∧ Rv g w b y ∧ PostE g w xw Q (binD o obj a b m)
theorem ok_same {xw : XW} {Q : V → Hp → Prop} {d : D} {v : V} (h : PostE g w xw Q (.ok d m)) (M : Mem g w H m) (r : Rv g w d v) : Q v H := h w v H (Wd.le.refl w) M r
theorem mulOk_ok {i j : Int} (h : mulOk i j = true) : IntMulOk i j := by
  unfold mulOk at h
  simp only [Bool.or_eq_true] at h
  rcases h with (h | h) | h
  · have h := Nat.le_of_ble_eq_true h
    exact CMul.ok (.inl ⟨by omega, by omega⟩)
  · have h := Nat.le_of_ble_eq_true h
    exact CMul.ok (.inr ⟨by omega, by omega⟩)
  · have h := Nat.le_of_ble_eq_true h
    exact CMulW.ok (by show _ < _; omega)
variable {X : Cx}
theorem op_mulR : OpR X (binaryOp .Mult) (rI (fun i j => mulOk i j = true) fun i j => .int (i * j)) := opI fun _ _ _ _ _ _ _ hc q => mul_int q (mulOk_ok hc)
theorem op_mulS : OpR X (binaryOp .Mult) (fun x y H Q => ∃ (a : Str) (n : Int), x = .str a ∧ y = .int n ∧ PySem.MulOk a n ∧ Q (.str (PySem.Txt.mul a n)) H) := by
  intro pins s σ H x y v u Q I rx ry h
  obtain ⟨a, n, rfl, rfl, ok, q⟩ := h
  obtain ⟨t, rfl⟩ := rx
  obtain ⟨t', rfl⟩ := ry
  exact PySem.SB.mul ok fun t' tk => ⟨.str _, H, I.tok _, ⟨_, rfl⟩, q⟩
theorem repOk_ok {x : Str} {k : Int} (h : repOk x k = true) : PySem.MulOk x k := by
  unfold repOk at h
  simp only [Bool.and_eq_true, decide_eq_true_eq] at h
  obtain ⟨⟨⟨h0, h1⟩, h2⟩, h3⟩ := h
  have h2 := Nat.le_of_ble_eq_true h2
  have h3 := Nat.le_of_ble_eq_true h3
  refine ⟨by rw [decide_eq_false (by omega), decide_eq_false (by omega)]; rfl, fun h4 _ h5 => ?_, fun _ _ => ?_⟩
  · have : (1000000 : Int) ≤ (2 ^ 63 - 1) / k := by
      rw [Int.le_ediv_iff_mul_le (by omega)]
      have : (1000000 : Int) * k ≤ 1000000 * 1000000 := Int.mul_le_mul_of_nonneg_left h1 (by decide)
      omega
    omega
  · unfold PySem.Builtin.Str.tooLong
    rw [sizeLine_eq]
    exact decide_eq_false (by omega)
theorem arD_rel {c : Int → Int → Bool} {f : Int → Int → Int} {a b : D} {x y : V} {xw : XW} {Q : VK} (h : PostE g w xw Q (arD c f m a b)) (M : Mem g w H m) (ra : Rv g w a x) (rb : Rv g w b y) :
    ∃ i j, x = .int i ∧ y = .int j ∧ c i j = true ∧ Q (.int (f i j)) H := by
  unfold arD at h
  split at h
  · split at h
    · rename_i hc
      cases ra; cases rb
      exact ⟨_, _, rfl, rfl, hc, ok_same h M (.int _)⟩
    · exact absurd h id
  · exact absurd h id
theorem szOk_le {n : Nat} (h : szOk n = true) : n ≤ sizeLine := sl_szOk h
theorem small62_of {j : Int} (h : small62 j = true) : -(2 ^ 62) ≤ j ∧ j < 2 ^ 62 := by
  have h := Nat.le_of_ble_eq_true h
  omega
theorem op_bin (hK : X.K = g.K) (o : Op) (obj : Bool) : OpR X (binaryOp o.py) (rBin g o obj) := by
  cases o with
  | add =>
    refine OpR.imp (OpR.or (OpR.or op_add op_cat) (OpR.or op_add_str op_catS)) fun x y H Q h => ?_
    obtain ⟨w, m, a, b, xw, M, ra, rb, h⟩ := h
    have h : PostE g w xw Q (addD obj m a b) := h
    unfold addD at h
    split at h
    · cases ra; cases rb
      exact .inl (.inl ⟨_, _, rfl, rfl, ok_same h M (.int _)⟩)
    · cases ra; cases rb
      split at h
      · rename_i hz
        exact .inr (.inl ⟨_, _, rfl, rfl, szOk_le hz, ok_same h M (.str _)⟩)
      · exact absurd h id
    · split at h
      · rename_i hz
        cases ra with
        | @tup a1 vs1 _ h1 r1 =>
          cases rb with
          | @tup a2 vs2 _ h2 r2 =>
            refine .inr (.inr ⟨a1, a2, vs1, vs2, rfl, rfl, ?_, ?_, by rw [← r1.length, ← r2.length]; exact szOk_le hz, fun e => ?_, fun _ e => ?_, fun _ _ p o hp hd => ?_⟩)
            · rw [hK]; exact sqT_mono M.fr h1.sq
            · rw [hK]; exact sqT_mono M.fr h2.sq
            · subst e
              cases r1
              exact ok_same h M (.tup h2 r2)
            · subst e
              cases r2
              exact ok_same h M (.tup h1 (by rw [List.append_nil]; exact r1))
            · obtain ⟨le, M'⟩ := M.laid (p := p) (o := .frz o (.tup (vs1 ++ vs2))) hp
              exact h _ _ _ le M' (.tup (TupS.of upd_same hd) ((r1.append r2).mono le))
      · exact absurd h id
    · split at h
      · rename_i xs ys e1 e2
        obtain ⟨p, vs, rfl, h1, r1⟩ := lstW_rel M ra e1
        obtain ⟨q, us, rfl, h2, r2⟩ := lstW_rel M rb e2
        obtain ⟨hz, k⟩ := mkL_post h M (r1.append r2)
        exact .inl (.inr ⟨_, _, _, _, rfl, rfl, h1, h2, by rw [List.length_append] at hz; exact hz, k⟩)
      · exact absurd h id
  | sub =>
    refine OpR.imp op_sub fun x y H Q h => ?_
    obtain ⟨w, m, a, b, xw, M, ra, rb, h⟩ := h
    obtain ⟨i, j, h1, h2, _, q⟩ := arD_rel h M ra rb
    exact ⟨i, j, h1, h2, q⟩
  | mul =>
    refine OpR.imp (OpR.or (OpR.or op_mulR op_rep) op_mulS) fun x y H Q h => ?_
    obtain ⟨w, m, a, b, xw, M, ra, rb, h⟩ := h
    have h : PostE g w xw Q (mulD obj m a b) := h
    unfold mulD at h
    split at h
    · split at h
      · cases ra; cases rb
        exact .inl (.inl ⟨_, _, rfl, rfl, by assumption, ok_same h M (.int _)⟩)
      · exact absurd h id
    · split at h
      · rename_i x k hk
        cases ra; cases rb
        exact .inr ⟨_, _, rfl, rfl, repOk_ok hk, ok_same h M (.str _)⟩
      · exact absurd h id
    · cases rb
      split at h
      · rename_i xs e1
        split at h
        · rename_i hs
          obtain ⟨p, vs, rfl, h1, r1⟩ := lstW_rel M ra e1
          obtain ⟨hz, k⟩ := mkL_post h M (r1.rep _)
          obtain ⟨l1, l2⟩ := small62_of hs
          refine .inl (.inr ⟨_, _, _, rfl, rfl, h1, by omega, by omega, ?_, k⟩)
          rw [List.length_flatten, List.map_replicate, List.sum_replicate_nat] at hz
          rw [Nat.mul_comm]; exact hz
        · exact absurd h id
      · exact absurd h id
    · exact absurd h id
  | fdiv =>
    refine OpR.imp op_fdivW fun x y H Q h => ?_
    obtain ⟨w, m, a, b, xw, M, ra, rb, h⟩ := h
    obtain ⟨i, j, h1, h2, hd, q⟩ := arD_rel h M ra rb
    unfold divOk at hd
    simp only [Bool.and_eq_true, decide_eq_true_eq] at hd
    have hd2 := Nat.le_of_ble_eq_true hd.2
    exact ⟨i, j, h1, h2, ⟨hd.1, by omega⟩, q⟩
  | mod =>
    refine OpR.imp op_mod fun x y H Q h => ?_
    obtain ⟨w, m, a, b, xw, M, ra, rb, h⟩ := h
    obtain ⟨i, j, h1, h2, hd, q⟩ := arD_rel h M ra rb
    exact ⟨i, j, h1, h2, of_decide_eq_true hd, q⟩
  | pow =>
    refine OpR.imp op_pow fun x y H Q h => ?_
    obtain ⟨w, m, a, b, xw, M, ra, rb, h⟩ := h
    obtain ⟨i, j, h1, h2, hd, q⟩ := arD_rel h M ra rb
    unfold powOk at hd
    simp only [Bool.and_eq_true, decide_eq_true_eq] at hd
    have hd2 := Nat.le_of_ble_eq_true hd.1.2
    have hd3 := Nat.le_of_ble_eq_true hd.2
    exact ⟨i, j, h1, h2, ⟨hd.1.1, by omega, by omega⟩, q⟩
def Cm.py : Cm → CmpOp
  | .eq => .Eq | .ne => .NotEq | .lt => .Lt | .le => .LtE | .gt => .Gt | .ge => .GtE
def rCmp (g : Gm) (c : Cm) : R2 := fun x y H Q => ∃ w m a b k, Mem g w H m ∧ Rv g w a x ∧ Rv g w b y ∧ cmpD c m a b = some k ∧ Q (.bl k) H
theorem eqD_rel {a b : D} {x y : V} {k : Bool} (M : Mem g w H m) (ra : Rv g w a x) (rb : Rv g w b y) (e : eqD m a b = some k) :
    (scal x y = true ∧ decide (x = y) = k) ∨ ∃ d e, Dp g.K H x d ∧ Dp g.K H y e ∧ SeqAt.shaped d = true ∧ SeqAt.shaped e = true ∧ PyData.eqv d e = k := by
  unfold eqD at e
  split at e
  · cases ra; cases rb
    cases e
    exact .inl ⟨rfl, dec_int⟩
  · cases ra; cases rb
    cases e
    refine .inl ⟨rfl, ?_⟩
    rename_i s t
    by_cases z : s = t
    · subst z; simp
    · rw [decide_eq_false z, decide_eq_false fun q => z (V.str.inj q)]
  · split at e
    · rename_i p q e1 e2
      split at e
      · rename_i hs
        cases e
        exact .inr ⟨p, q, toP_rel M 9 ra e1, toP_rel M 9 rb e2, hs.1, hs.2, rfl⟩
      · cases e
    · cases e
theorem ltT_some {xs ys : List D} {k : Bool} (e : ltT xs ys = some k) : ∃ ks ls, keysD xs = some ks ∧ keysD ys = some ls ∧ ltK ks ls = some k := by
  unfold ltT at e
  split at e
  · rename_i ks ls e1 e2
    exact ⟨ks, ls, e1, e2, e⟩
  · cases e
theorem keys_rel : ∀ {ds : List D} {ks : List Key} {vs : List V}, keysD ds = some ks → Rvs g w ds vs → vs = ks.map kV
  | [], ks, _, e, .nil => by
    simp [keysD] at e
    subst e
    rfl
  | d :: ds, ks, _, e, .cons h r => by
    cases q : keysD ds with
    | none => rw [keysD, q] at e; cases z : isKey d <;> rw [z] at e <;> cases e
    | some ls =>
      rw [keysD, q] at e
      cases h <;> simp [isKey] at e
      · subst e
        rw [keys_rel q r]; rfl
      · subst e
        rw [keys_rel q r]; rfl
theorem op_cmp (hu : X.A.units + 64 < cLine) (hK : X.K = g.K) (c : Cm) : OpR X (compareOp c.py) (rCmp g c) := by
  cases c with
  | eq =>
    refine OpR.imp (OpR.or op_eq (op_eqD hu)) fun x y H Q h => ?_
    obtain ⟨w, m, a, b, k, M, ra, rb, e, q⟩ := h
    rw [hK]
    rcases eqD_rel M ra rb e with ⟨h1, h2⟩ | ⟨d, e, h1, h2, h3, h4, h5⟩
    · exact .inl ⟨h1, by rw [h2]; exact q⟩
    · exact .inr ⟨d, e, h1, h2, h3, h4, by rw [h5]; exact q⟩
  | ne =>
    refine OpR.imp (OpR.or op_ne (op_neD hu)) fun x y H Q h => ?_
    obtain ⟨w, m, a, b, k, M, ra, rb, e, q⟩ := h
    rw [hK]
    have e1 : (eqD m a b).map not = some k := e
    rw [Option.map_eq_some_iff] at e1
    obtain ⟨k', e2, rfl⟩ := e1
    rcases eqD_rel M ra rb e2 with ⟨h1, h2⟩ | ⟨d, e, h1, h2, h3, h4, h5⟩
    · exact .inl ⟨h1, by rw [h2]; exact q⟩
    · exact .inr ⟨d, e, h1, h2, h3, h4, by rw [h5]; exact q⟩
  | lt =>
    refine OpR.imp (OpR.or (OpR.or op_lt op_lt_str) (op_ltX (by omega))) fun x y H Q h => ?_
    obtain ⟨w, m, a, b, k, M, ra, rb, e, q⟩ := h
    unfold cmpD at e
    dsimp only at e
    split at e
    · cases ra; cases rb; cases e
      exact .inl (.inl ⟨_, _, rfl, rfl, q⟩)
    · cases ra; cases rb; cases e
      exact .inl (.inr ⟨_, _, rfl, rfl, q⟩)
    · obtain ⟨ks, ls, e1, e2, e3⟩ := ltT_some e
      cases ra with
      | tup s1 r1 => cases rb with
        | tup s2 r2 =>
          rw [hK]
          exact .inr ⟨_, _, ks, ls, k, rfl, rfl, sqT_mono M.fr (TupS.sq (keys_rel e1 r1 ▸ s1)), sqT_mono M.fr (TupS.sq (keys_rel e2 r2 ▸ s2)), e3, q⟩
    · cases e
  | le =>
    refine OpR.imp (OpR.or op_le op_le_str) fun x y H Q h => ?_
    obtain ⟨w, m, a, b, k, M, ra, rb, e, q⟩ := h
    unfold cmpD at e
    dsimp only at e
    split at e
    · cases ra; cases rb; cases e
      exact .inl ⟨_, _, rfl, rfl, q⟩
    · cases ra; cases rb; cases e
      exact .inr ⟨_, _, rfl, rfl, q⟩
    · cases e
  | gt =>
    refine OpR.imp (OpR.or (OpR.or op_gt op_gt_str) (op_gtX (by omega))) fun x y H Q h => ?_
    obtain ⟨w, m, a, b, k, M, ra, rb, e, q⟩ := h
    unfold cmpD at e
    dsimp only at e
    split at e
    · cases ra; cases rb; cases e
      exact .inl (.inl ⟨_, _, rfl, rfl, q⟩)
    · cases ra; cases rb; cases e
      exact .inl (.inr ⟨_, _, rfl, rfl, q⟩)
    · obtain ⟨ks, ls, e1, e2, e3⟩ := ltT_some e
      cases ra with
      | tup s1 r1 => cases rb with
        | tup s2 r2 =>
          rw [hK]
          exact .inr ⟨_, _, ls, ks, k, rfl, rfl, sqT_mono M.fr (TupS.sq (keys_rel e2 r1 ▸ s1)), sqT_mono M.fr (TupS.sq (keys_rel e1 r2 ▸ s2)), e3, q⟩
    · cases e
  | ge =>
    refine OpR.imp (OpR.or op_ge op_ge_str) fun x y H Q h => ?_
    obtain ⟨w, m, a, b, k, M, ra, rb, e, q⟩ := h
    unfold cmpD at e
    dsimp only at e
    split at e
    · cases ra; cases rb; cases e
      exact .inl ⟨_, _, rfl, rfl, q⟩
    · cases ra; cases rb; cases e
      exact .inr ⟨_, _, rfl, rfl, q⟩
    · cases e
theorem truthD_rel {d : D} {v : V} {k : Bool} (M : Mem g w H m) (r : Rv g w d v) (e : truthD m d = some k) : TruV g.K v H k := by
  have sq : ∀ {d : D} {v : V}, Rv g w d v → (lstOf m d).map (fun xs => !xs.isEmpty) = some k → TruV g.K v H k := fun {d v} r e1 => by
    rw [Option.map_eq_some_iff] at e1
    obtain ⟨xs, e2, e3⟩ := e1
    obtain ⟨a, vs, rfl, h, rv⟩ := lstOf_rel M r e2
    refine .inl ⟨vs, h, ?_⟩
    rw [← e3]
    cases rv <;> rfl
  cases r with
  | non => cases e; rfl
  | bl b => cases e; rfl
  | int i => cases e; rfl
  | tup h r =>
    cases e
    refine .inr (.inl ⟨_, sqT_mono M.fr h.sq, ?_⟩)
    cases r <;> rfl
  | str x => exact sq (.str x) e
  | lst h r => exact sq (.lst h r) e
  | scr h r => exact sq (.scr h r) e
  | dct h r => exact sq (.dct h r) e
  | ins hc h r => exact sq (.ins hc h r) e
  | ref n h => exact sq (.ref n h) e
  | pr h r r2 => exact sq (.pr h r r2) e
theorem Rkv.length : ∀ {kvs : List (Key × D)} {kvs' : List (Key × V)}, Rkv g w kvs kvs' → kvs.length = kvs'.length
  | _, _, .nil => rfl
  | _, _, .cons _ r => congrArg (· + 1) (Rkv.length r)
theorem Rkv.keys : ∀ {kvs : List (Key × D)} {kvs' : List (Key × V)}, Rkv g w kvs kvs' → kvs'.map (·.1) = kvs.map (·.1)
  | _, _, .nil => rfl
  | _, _, .cons _ r => by rw [List.map_cons, List.map_cons, Rkv.keys r]
theorem Rkv.val (k : Key) : ∀ {kvs : List (Key × D)} {kvs' : List (Key × V)}, Rkv g w kvs kvs' → (∀ d, valD kvs k = some d → ∃ v, valV kvs' k = some v ∧ Rv g w d v) ∧ (valD kvs k = none → valV kvs' k = none)
  | _, _, .nil => ⟨fun d e => (by cases e), fun _ => rfl⟩
  | _, _, .cons (k := j) (v := v) h r => by
    have ih := Rkv.val k r
    by_cases q : j = k
    · rw [valV_pos (p := (j, v)) q]
      refine ⟨fun d e => ?_, fun e => ?_⟩
      · rw [valD, if_pos q] at e
        cases e
        exact ⟨v, rfl, h⟩
      · rw [valD, if_pos q] at e; cases e
    · rw [valV_neg (p := (j, v)) q, valD, if_neg q]
      exact ih
theorem Rkv.any (k : Key) : ∀ {kvs : List (Key × D)} {kvs' : List (Key × V)}, Rkv g w kvs kvs' → (kvs'.any fun kv => decide (kv.1 = k)) = kvs.any fun kv => decide (kv.1 = k)
  | _, _, .nil => rfl
  | _, _, .cons _ r => by rw [List.any_cons, List.any_cons, Rkv.any k r]
theorem Rkv.snoc {k : Key} {d : D} {v : V} (h : Rv g w d v) : ∀ {kvs : List (Key × D)} {kvs' : List (Key × V)}, Rkv g w kvs kvs' → Rkv g w (kvs ++ [(k, d)]) (kvs' ++ [(k, v)])
  | _, _, .nil => .cons h .nil
  | _, _, .cons q r => .cons q (Rkv.snoc h r)
theorem Rkv.over {k : Key} {d : D} {v : V} (h : Rv g w d v) : ∀ {kvs : List (Key × D)} {kvs' : List (Key × V)}, Rkv g w kvs kvs' → Rkv g w (kvs.map fun kv => if kv.1 = k then (kv.1, d) else kv) (kvs'.map fun kv => if kv.1 = k then (kv.1, v) else kv)
  | _, _, .nil => .nil
  | _, _, .cons (k := j) q r => by
    rw [List.map_cons, List.map_cons]
    by_cases z : j = k
    · rw [if_pos z, if_pos z]; exact .cons h (Rkv.over h r)
    · rw [if_neg z, if_neg z]; exact .cons q (Rkv.over h r)
theorem Rkv.put {k : Key} {d : D} {v : V} {kvs : List (Key × D)} {kvs' : List (Key × V)} (r : Rkv g w kvs kvs') (h : Rv g w d v) : Rkv g w (putD kvs k d) (putK kvs' k v) := by
  unfold putD putK
  rw [r.any k]
  split
  · exact r.over h
  · exact r.snoc h
theorem dctOf_rel (M : Mem g w H m) {d : D} {v : V} {kvs : List (Key × D)} (r : Rv g w d v) (e : dctOf m d = some kvs) : ∃ a kvs', v = .ref a ∧ Rd H a (.dK kvs') ∧ Rkv g w kvs kvs' := by
  cases r with
  | dct h r =>
    cases e
    exact ⟨_, _, rfl, .inl (M.fr _ _ h), r⟩
  | ref n hn =>
    unfold dctOf at e
    dsimp only at e
    split at e
    · rename_i q
      cases e
      obtain ⟨kvs', h1, r1⟩ := M.ob n _ q
      exact ⟨_, _, rfl, .inl h1, r1⟩
    · rename_i q
      cases e
      obtain ⟨od, kvs', h1, r1⟩ := M.ob n _ q
      exact ⟨_, _, rfl, .inr ⟨od, M.gr _ _ h1⟩, r1⟩
    · cases e
  | _ => cases e
theorem isKey_rel {d : D} {v : V} {k : Key} (r : Rv g w d v) (e : isKey d = some k) : v = kV k := by
  cases r <;> cases e <;> rfl
theorem atD_rel (M : Mem g w H m) {a b : D} {x y : V} {r : Option D} (ra : Rv g w a x) (rb : Rv g w b y) (e : atD m a b = some r) : ∃ p o, x = .ref p ∧ DGet H p y o ∧ (∀ d, r = some d → ∃ v, o = some v ∧ Rv g w d v) ∧ (r = none → o = none) := by
  unfold atD at e
  split at e
  · rename_i kvs k e1 e2
    cases e
    obtain ⟨p, kvs', rfl, h, rr⟩ := dctOf_rel M ra e1
    rw [isKey_rel rb e2]
    exact ⟨p, valV kvs' k, rfl, .inl ⟨kvs', k, h, rfl, rfl⟩, (rr.val k).1, (rr.val k).2⟩
  · cases e
mutual
theorem nk_rel (M : Mem g w H m) : ∀ {d : D} {v : V} {k : NK}, Rv g w d v → nkD d = some k → NkH g.K H k v
  | _, _, k, .non, e => by simp only [nkD, Option.some.injEq] at e; subst e; exact .non
  | _, _, k, .bl b, e => by simp only [nkD, Option.some.injEq] at e; subst e; exact .bl b
  | _, _, k, .int i, e => by simp only [nkD, Option.some.injEq] at e; subst e; exact .int i
  | _, _, k, .str x, e => by simp only [nkD, Option.some.injEq] at e; subst e; exact .str x
  | _, _, k, .tup h r, e => by
    simp only [nkD, Option.map_eq_some_iff] at e
    obtain ⟨ks, e, rfl⟩ := e
    exact .tup (sqT_mono M.fr h.sq) (nks_rel M r e)
  | _, _, k, .pr h r r2, e => by simp only [nkD] at e; cases e
  | _, _, k, .lst h r, e => by simp only [nkD] at e; cases e
  | _, _, k, .scr h r, e => by simp only [nkD] at e; cases e
  | _, _, k, .dct h r, e => by simp only [nkD] at e; cases e
  | _, _, k, .ins hc h r, e => by simp only [nkD] at e; cases e
  | _, _, k, .ref n h, e => by simp only [nkD] at e; cases e
theorem nks_rel (M : Mem g w H m) : ∀ {d : List D} {v : List V} {k : List NK}, Rvs g w d v → nkDs d = some k → NkHs g.K H k v
  | _, _, k, .nil, e => by simp only [nkDs, Option.some.injEq] at e; subst e; exact .nil
  | _, _, k, .cons h r, e => by
    simp only [nkDs, Option.bind_eq_some_iff, Option.map_eq_some_iff] at e
    obtain ⟨a, e1, ks, e2, rfl⟩ := e
    exact .cons (nk_rel M h e1) (nks_rel M r e2)
end
theorem nkT_rel (M : Mem g w H m) {d : D} {v : V} {k : NK} (r : Rv g w d v) (e : nkT d = some k) : ∃ b, v = .ref b ∧ KyH g.K H k b := by
  cases r with
  | tup h rr =>
    simp only [nkT, Option.bind_eq_some_iff] at e
    obtain ⟨ks, e1, e2⟩ := e
    split at e2
    · rename_i hd
      cases e2
      exact ⟨_, rfl, .tup (sqT_mono M.fr h.sq) (nks_rel M rr e1), Nat.le_of_ble_eq_true hd⟩
    · cases e2
  | _ => cases e
theorem Rtk.keys (M : Mem g w H m) : ∀ {kvs : List (D × D)} {xs : List (NK × Addr × V)}, Rtk g w kvs xs → ∀ z ∈ xs, KyH g.K H z.1 z.2.1
  | _, _, .nil, z, hz => nomatch hz
  | _, _, .cons e r h t, z, hz => by
    rcases List.mem_cons.mp hz with rfl | hz
    · obtain ⟨b, e1, e2⟩ := nkT_rel M r e
      cases e1
      exact e2
    · exact Rtk.keys M t z hz
theorem Rtk.length : ∀ {kvs : List (D × D)} {xs : List (NK × Addr × V)}, Rtk g w kvs xs → kvs.length = xs.length
  | _, _, .nil => rfl
  | _, _, .cons _ _ _ t => congrArg (· + 1) (Rtk.length t)
theorem Rtk.val (k : NK) : ∀ {kvs : List (D × D)} {xs : List (NK × Addr × V)}, Rtk g w kvs xs → (∀ d, valT kvs k = some d → ∃ v, valX xs k = some v ∧ Rv g w d v) ∧ (valT kvs k = none → valX xs k = none)
  | _, _, .nil => ⟨(fun d e => by cases e), fun _ => rfl⟩
  | _, _, .cons (k := k') e r h t => by
    obtain ⟨h1, h2⟩ := Rtk.val k t
    simp only [valT, valX, e, Option.some.injEq]
    by_cases q : k' = k
    · simp only [if_pos q, Option.some.injEq]
      exact ⟨(fun d e => by subst e; exact ⟨_, rfl, h⟩), (fun z => by cases z)⟩
    · simp only [if_neg q]
      exact ⟨h1, h2⟩
theorem Rtk.isSome (k : NK) {kvs : List (D × D)} {xs : List (NK × Addr × V)} (r : Rtk g w kvs xs) : (valT kvs k).isSome = (valX xs k).isSome := by
  obtain ⟨h1, h2⟩ := r.val k
  cases e : valT kvs k with
  | none => rw [h2 e]; rfl
  | some d =>
    obtain ⟨v, z, _⟩ := h1 d e
    rw [z]; rfl
theorem Rtk.set (k : NK) {d : D} {v : V} (hv : Rv g w d v) : ∀ {kvs : List (D × D)} {xs : List (NK × Addr × V)}, Rtk g w kvs xs → Rtk g w (setT k d kvs) (setX k v xs)
  | _, _, .nil => .nil
  | _, _, .cons (k := k') e r h t => by
    simp only [setT, setX, e, Option.some.injEq]
    by_cases q : k' = k
    · simp only [if_pos q]
      exact .cons e r hv (Rtk.set k hv t)
    · simp only [if_neg q]
      exact .cons e r h (Rtk.set k hv t)
theorem Rtk.snoc : ∀ {kvs : List (D × D)} {xs : List (NK × Addr × V)} {y d : D} {k : NK} {b : Addr} {v : V}, Rtk g w kvs xs → nkT y = some k → Rv g w y (.ref b) → Rv g w d v → Rtk g w (kvs ++ [(y, d)]) (xs ++ [(k, b, v)])
  | _, _, _, _, _, _, _, .nil, e, r, h => .cons e r h .nil
  | _, _, _, _, _, _, _, .cons e' r' h' t, e, r, h => .cons e' r' h' (Rtk.snoc t e r h)
theorem Rtk.put {kvs : List (D × D)} {xs : List (NK × Addr × V)} (r : Rtk g w kvs xs) {y d : D} {k : NK} {b : Addr} {v : V} (e : nkT y = some k) (ry : Rv g w y (.ref b)) (h : Rv g w d v) : Rtk g w (putT kvs y k d) (putX xs b k v) := by
  unfold putT putX
  rw [r.isSome k]
  split
  · exact r.set k h
  · exact r.snoc e ry h
theorem tctOf_rel (M : Mem g w H m) {d : D} {v : V} {kvs : List (D × D)} (r : Rv g w d v) (e : tctOf m d = some kvs) : ∃ a xs, v = .ref a ∧ Rd H a (tcO g.W a xs) ∧ Rtk g w kvs xs := by
  cases r with
  | ref n hn =>
    unfold tctOf at e
    dsimp only at e
    split at e
    · rename_i q
      cases e
      obtain ⟨xs, h1, r1⟩ := M.ob n _ q
      exact ⟨_, _, rfl, .inl h1, r1⟩
    · rename_i q
      cases e
      obtain ⟨od, xs, h1, r1⟩ := M.ob n _ q
      exact ⟨_, _, rfl, .inr ⟨od, M.gr _ _ h1⟩, r1⟩
    · cases e
  | _ => cases e
theorem tci {X : Cx} (hK : X.K = g.K) (hW : X.w = g.W) (M : Mem g w H m) {a : Addr} {kvs : List (D × D)} {xs : List (NK × Addr × V)} (h : Rd H a (tcO g.W a xs)) (r : Rtk g w kvs xs) : TcI X H a xs := ⟨by rw [hW]; exact h, fun z hz => by rw [hK]; exact r.keys M z hz⟩
theorem atT_rel {X : Cx} (hK : X.K = g.K) (hW : X.w = g.W) (M : Mem g w H m) {a b : D} {x y : V} {r : Option D} (ra : Rv g w a x) (rb : Rv g w b y) (e : atT m a b = some r) : ∃ p q xs k, x = .ref p ∧ y = .ref q ∧ TcI X H p xs ∧ KyH X.K H k q ∧ (∀ d, r = some d → ∃ v, valX xs k = some v ∧ Rv g w d v) ∧ r.isSome = (valX xs k).isSome := by
  unfold atT at e
  split at e
  · rename_i kvs k e1 e2
    cases e
    obtain ⟨p, xs, rfl, h, rr⟩ := tctOf_rel M ra e1
    obtain ⟨q, rfl, hq⟩ := nkT_rel M rb e2
    exact ⟨p, q, xs, k, rfl, rfl, tci hK hW M h rr, by rw [hK]; exact hq, (rr.val k).1, rr.isSome k⟩
  · cases e
theorem ix_dct (hu : X.A.units + 1 < cLine) : IxR X (fun x y H Q => ∃ a kvs k v, x = .ref a ∧ Rd H a (.dK kvs) ∧ y = kV k ∧ valV kvs k = some v ∧ Q v H) := by
  intro value slice pins s σ H x y v u Q I rx ry h hs
  obtain ⟨a, kvs, k, z, rfl, e, rfl, l, q⟩ := h
  cases rx
  obtain ⟨_, hd, vs, rel, dd⟩ := dk_rd I.hok e
  obtain ⟨w', hw, rw'⟩ := RelO.some_of (v := z) (o := PySem.valueAt vs k) (by rw [← l]; exact rel.val k)
  exact subscriptTail_builtinR (x := w') dd.typeIs PySem.F.slot_dict_getitem.lookup (wpAny_getItem_of (kV_is ry) dd.mapOf hw ⟨rfl, ⟨z, H, I.tok _, rw', q⟩⟩) hs
theorem op_dIn (hu : X.A.units + 1 < cLine) : OpR X (compareOp .In) (fun x y H Q => ∃ a o, y = .ref a ∧ DGet H a x o ∧ Q (.bl o.isSome) H) := by
  intro pins s σ H x y v u Q I rx ry h
  obtain ⟨a, o, rfl, g, q⟩ := h
  cases ry
  exact d_in hu I g rx fun s' I' => ⟨.bl _, H, I', rfl, q⟩
theorem op_dNotIn (hu : X.A.units + 1 < cLine) : OpR X (compareOp .NotIn) (fun x y H Q => ∃ a o, y = .ref a ∧ DGet H a x o ∧ Q (.bl (!o.isSome)) H) := by
  intro pins s σ H x y v u Q I rx ry h
  obtain ⟨a, o, rfl, g, q⟩ := h
  cases ry
  exact d_notIn hu I g rx fun s' I' => ⟨.bl _, H, I', rfl, q⟩
def rIdx (g : Gm) : R2 := fun x y H Q => ∃ w m a b d, Mem g w H m ∧ Rv g w a x ∧ Rv g w b y ∧ idxD m a b = some d ∧ ∀ v, Rv g w d v → Q v H
theorem IxR.imp {r r' : R2} (h : IxR X r) (k : ∀ x y H Q, r' x y H Q → r x y H Q) : IxR X r' :=
  fun a b pins s σ H x y v u Q I rx ry q => h a b pins s σ H x y v u Q I rx ry (k _ _ _ _ q)
theorem ix_idx (hu : X.A.units + 9 < cLine) (hK : X.K = g.K) (hW : X.w = g.W) : IxR X (rIdx g) := by
  refine IxR.imp (IxR.or (IxR.or (IxR.or (IxR.or ix_list ix_tup) ix_str) (ix_dct (by omega))) (ix_tct hu)) fun x y H Q h => ?_
  obtain ⟨w, m, a, b, d, M, ra, rb, e, q⟩ := h
  by_cases ht : (atT m a b).bind id = some d
  · obtain ⟨r, e1, e2⟩ := Option.bind_eq_some_iff.mp ht
    have e2 : r = some d := e2
    subst e2
    obtain ⟨p, q', xs, k, h1, h2, h3, h4, h5, _⟩ := atT_rel hK hW M ra rb e1
    obtain ⟨v, h6, h7⟩ := h5 d rfl
    exact .inr ⟨p, q', xs, k, v, h1, h2, h3, h4, h6, q v h7⟩
  refine .inl ?_
  rw [hK]
  unfold idxD at e
  split at e
  · cases ra; cases rb
    split at e
    · rename_i hz
      rw [Option.map_eq_some_iff] at e
      obtain ⟨c, e1, rfl⟩ := e
      exact .inl (.inr ⟨_, _, c, rfl, rfl, szOk_le hz, e1, q _ (.str _)⟩)
    · cases e
  · split at e
    · rename_i xs z
      cases rb
      obtain ⟨p, vs, rfl, h, r⟩ := seqOf_rel M ra z
      obtain ⟨v, e1, r1⟩ := r.atI e
      rcases h with h | h
      · exact .inl (.inl (.inl ⟨p, vs, _, v, rfl, rfl, h, e1, q v r1⟩))
      · exact .inl (.inl (.inr ⟨p, vs, _, v, rfl, rfl, h, e1, q v r1⟩))
    · split at e
      · rename_i kvs z
        cases rb
        obtain ⟨p, kvs', rfl, h, rr⟩ := dctOf_rel M ra z
        obtain ⟨v, e1, r1⟩ := (rr.val (.inl _)).1 _ e
        exact .inr ⟨p, kvs', .inl _, v, rfl, h, rfl, e1, q v r1⟩
      · cases e
  · split at e
    · rename_i kvs z
      cases rb
      obtain ⟨p, kvs', rfl, h, rr⟩ := dctOf_rel M ra z
      obtain ⟨v, e1, r1⟩ := (rr.val (.inr _)).1 _ e
      exact .inr ⟨p, kvs', .inr _, v, rfl, h, rfl, e1, q v r1⟩
    · cases e
  · exact absurd e ht
  · cases e
def rSlc (g : Gm) (obj : Bool) : V → Option Int → Option Int → Hp → VK → Prop := fun x lo hi H Q => ∃ w m a xw, Mem g w H m ∧ Rv g w a x ∧ PostE g w xw Q (slcD obj m a lo hi)
theorem SlR.imp {r r' : V → Option Int → Option Int → Hp → VK → Prop} (h : SlR X r) (k : ∀ x l u H Q, r' x l u H Q → r x l u H Q) : SlR X r' :=
  fun pins s σ H x v vl vu lo hi sl Q I rx hs pl pu q => h pins s σ H x v vl vu lo hi sl Q I rx hs pl pu (k _ _ _ _ _ q)
theorem Rvs.cut {ds : List D} {vs : List V} (r : Rvs g w ds vs) (l u : Option Int) : Rvs g w (cutD ds l u) (cutV vs l u) := by
  unfold cutD cutV
  rw [r.length]
  exact (r.drop _).take _
theorem cut_whole {vs : List V} {l u : Option Int} (h : HT.sIx vs.length 0 l = 0 ∧ HT.sIx vs.length vs.length u = vs.length) : cutV vs l u = vs := by
  unfold cutV
  rw [h.1, h.2, List.drop_zero, Nat.sub_zero, List.take_length]
theorem sl_slc (hK : X.K = g.K) (obj : Bool) : SlR X (rSlc g obj) := by
  refine SlR.imp (SlR.or (SlR.or sl_list sl_tupS) sl_str) fun x l u H Q h => ?_
  obtain ⟨w, m, a, xw, M, ra, h⟩ := h
  unfold slcD at h
  split at h
  · cases ra with
    | tup hq r =>
      refine .inl (.inr ⟨_, _, rfl, by rw [hK]; exact sqT_mono M.fr hq.sq, fun e => ?_, fun _ p o hp hd => ?_⟩)
      · have q := r.cut l u
        rw [cut_whole e] at q
        exact ok_same h M (.tup hq q)
      · obtain ⟨le, M'⟩ := M.laid (p := p) (o := .frz o (.tup (cutV _ l u))) hp
        exact h _ _ _ le M' (.tup (TupS.of upd_same hd) ((r.cut l u).mono le))
  · cases ra
    split at h
    · rename_i hz
      exact .inr ⟨_, rfl, szOk_le hz, ok_same h M (.str _)⟩
    · exact absurd h id
  · split at h
    · rename_i xs ex
      obtain ⟨p, vs, rfl, hq, rs⟩ := lstOf_rel M ra ex
      exact .inl (.inl ⟨p, vs, rfl, by rw [hK]; exact hq, (mkL_post h M (rs.cut l u)).2⟩)
    · exact absurd h id
theorem flatD_rel {d : D} {v u : V} (r : Rv g w d v) (e : flatD d = some u) : v = u ∧ flatV v = true := by
  cases r <;> simp only [flatD, Option.some.injEq] at e <;> first
    | (subst e; exact ⟨rfl, rfl⟩)
    | cases e
theorem flatsD_rel : ∀ {ds : List D} {vs us : List V}, Rvs g w ds vs → flatsD ds = some us → vs = us ∧ vs.all flatV = true
  | [], _, us, .nil, e => by
    simp only [flatsD, Option.some.injEq] at e
    subst e
    exact ⟨rfl, rfl⟩
  | d :: ds, _, us, .cons h r, e => by
    simp only [flatsD, Option.bind_eq_some_iff, Option.map_eq_some_iff] at e
    obtain ⟨v, e1, vs, e2, rfl⟩ := e
    obtain ⟨rfl, f1⟩ := flatD_rel h e1
    obtain ⟨rfl, f2⟩ := flatsD_rel r e2
    exact ⟨rfl, by rw [List.all_cons, f1, f2]; rfl⟩
def memOp : Bool → CmpOp
  | true => .NotIn | false => .In
def rMem (g : Gm) (ng : Bool) : R2 := fun x y H Q => ∃ w m a b k, Mem g w H m ∧ Rv g w a x ∧ Rv g w b y ∧ memD m a b = some k ∧ Q (.bl (if ng = true then !k else k)) H
theorem memD_rel {X : Cx} (hK : X.K = g.K) (hW : X.w = g.W) {a b : D} {x y : V} {k : Bool} (M : Mem g w H m) (ra : Rv g w a x) (rb : Rv g w b y) (e : memD m a b = some k) :
    (∃ p xs, y = .ref p ∧ (SqL g.K H p xs ∨ SqT g.K H p xs) ∧ flatV x = true ∧ xs.all flatV = true ∧ inV x xs = k) ∨
    (∃ d ds, Dp g.K H x d ∧ Dp g.K H y (.list ds) ∧ SeqAt.shaped d = true ∧ SeqAt.shaped (.list ds) = true ∧ (ds.any fun z => PyData.eqv z d) = k) ∨
    (∃ p o, y = .ref p ∧ DGet H p x o ∧ o.isSome = k) ∨
    ∃ p q xs j, y = .ref p ∧ x = .ref q ∧ TcI X H p xs ∧ KyH X.K H j q ∧ (valX xs j).isSome = k := by
  unfold memD at e
  split at e
  · rename_i xs e1
    split at e
    · rename_i v vs e2 e3
      cases e
      obtain ⟨p, us, rfl, hq, rs⟩ := seqOf_rel M rb e1
      obtain ⟨rfl, f1⟩ := flatD_rel ra e2
      obtain ⟨rfl, f2⟩ := flatsD_rel rs e3
      exact .inl ⟨p, us, rfl, hq, f1, f2, rfl⟩
    · split at e
      · rename_i ys e2
        split at e
        · rename_i p ps e3 e4
          split at e
          · rename_i hs
            cases e
            obtain ⟨q, us, rfl, hq, rs⟩ := lstOf_rel M rb e2
            exact .inr (.inl ⟨p, ps, toP_rel M 9 ra e3, .lst hq (toPs_rel M 9 rs e4), hs.1, hs.2, rfl⟩)
          · cases e
        · cases e
      · cases e
  · split at e
    · rename_i r e1
      cases e
      obtain ⟨p, o, rfl, g1, g2, g3⟩ := atD_rel M rb ra e1
      refine .inr (.inr (.inl ⟨p, o, rfl, g1, ?_⟩))
      cases r with
      | none => rw [g3 rfl]; rfl
      | some d =>
        obtain ⟨v, z, _⟩ := g2 d rfl
        rw [z]; rfl
    · rw [Option.map_eq_some_iff] at e
      obtain ⟨r, e1, e2⟩ := e
      obtain ⟨p, q, xs, j, h1, h2, h3, h4, _, h6⟩ := atT_rel hK hW M rb ra e1
      exact .inr (.inr (.inr ⟨p, q, xs, j, h1, h2, h3, h4, by rw [← h6]; exact e2⟩))
theorem op_mem (hu : X.A.units + 65 < cLine) (hK : X.K = g.K) (hW : X.w = g.W) (ng : Bool) : OpR X (compareOp (memOp ng)) (rMem g ng) := by
  cases ng with
  | true =>
    refine OpR.imp (OpR.or (OpR.or (OpR.or op_notIn_seq (op_notInD hu)) (op_dNotIn (by omega))) (op_tNotIn (by omega))) fun x y H Q h => ?_
    obtain ⟨w, m, a, b, k, M, ra, rb, e, q⟩ := h
    have z := memD_rel hK hW M ra rb e
    rw [hK]
    rcases z with ⟨p, xs, h1, h2, h3, h4, h5⟩ | ⟨d, ds, h1, h2, h3, h4, h5⟩ | ⟨p, o, h1, h2, h3⟩ | ⟨p, o, xs, j, h1, h2, h3, h4, h5⟩
    · exact .inl (.inl (.inl ⟨p, xs, h1, h2, h3, h4, by rw [if_pos rfl, h5]; exact q⟩))
    · exact .inl (.inl (.inr ⟨d, ds, h1, h2, h3, h4, by rw [h5]; exact q⟩))
    · exact .inl (.inr ⟨p, o, h1, h2, by rw [h3]; exact q⟩)
    · exact .inr ⟨p, o, xs, j, h1, h2, h3, by rw [← hK]; exact h4, by rw [h5]; exact q⟩
  | false =>
    refine OpR.imp (OpR.or (OpR.or (OpR.or op_in_seq (op_inD hu)) (op_dIn (by omega))) (op_tIn (by omega))) fun x y H Q h => ?_
    obtain ⟨w, m, a, b, k, M, ra, rb, e, q⟩ := h
    have z := memD_rel hK hW M ra rb e
    rw [hK]
    rcases z with ⟨p, xs, h1, h2, h3, h4, h5⟩ | ⟨d, ds, h1, h2, h3, h4, h5⟩ | ⟨p, o, h1, h2, h3⟩ | ⟨p, o, xs, j, h1, h2, h3, h4, h5⟩
    · exact .inl (.inl (.inl ⟨p, xs, h1, h2, h3, h4, by rw [if_neg Bool.false_ne_true, h5]; exact q⟩))
    · exact .inl (.inl (.inr ⟨d, ds, h1, h2, h3, h4, by rw [h5]; exact q⟩))
    · exact .inl (.inr ⟨p, o, h1, h2, by rw [h3]; exact q⟩)
    · exact .inr ⟨p, o, xs, j, h1, h2, h3, by rw [← hK]; exact h4, by rw [h5]; exact q⟩
end R
namespace R
open PySem PySem.Spec PyProof.Rows L2
variable {g : Gm} {w : Wd} {H : Hp} {m : Mm} {X : Cx}
theorem CallR.imp {f : Value} {r r' : List V → Hp → VK → Prop} (h : CallR X f r) (k : ∀ xs H Q, r' xs H Q → r xs H Q) : CallR X f r' :=
  fun pins s σ H xs us Q I rs q => h pins s σ H xs us Q I rs (k _ _ _ q)
def Bt.val : Bt → Value
  | .len => .builtin "len" | .int_ => .type "int" | .abs_ => .builtin "abs" | .min2 => .builtin "min" | .max2 => .builtin "max" | .min1 => .builtin "min" | .max1 => .builtin "max"
  | .sum_ => .builtin "sum" | .list_ => .type "list" | .tuple_ => .type "tuple" | .str_ => .type "str" | .ord_ => .builtin "ord" | .repr_ => .builtin "repr" | .any_ => .builtin "any" | .sorted_ => .builtin "sorted"
/-- what is known at a call -/
def rBlt (g : Gm) (b : Bt) (obj : Bool) : List V → Hp → VK → Prop := fun vs H Q => ∃ w m as xw, Mem g w H m ∧ Rvs g w as vs ∧ PostE g w xw Q (bltD b obj as m)
theorem Rvs.strs : ∀ {ds : List D} {ns : List Str} {vs : List V}, strsOf ds = some ns → Rvs g w ds vs → vs = ns.map V.str
  | [], ns, _, e, .nil => by
    simp [strsOf] at e
    subst e
    rfl
  | d :: ds, ns, _, e, .cons h r => by
    unfold strsOf at e
    rw [List.mapM_cons] at e
    cases d with
    | str i =>
      cases q : ds.mapM isStr with
      | none => rw [q] at e; simp [isStr] at e
      | some ms =>
        rw [q] at e
        simp [isStr] at e
        subst e
        cases h
        rw [List.map_cons, Rvs.strs (ds := ds) q r]
    | _ => simp [isStr] at e
theorem Rvs.bls : ∀ {ds : List D} {ns : List Bool} {vs : List V}, blsOf ds = some ns → Rvs g w ds vs → vs = ns.map V.bl
  | [], ns, _, e, .nil => by
    simp [blsOf] at e
    subst e
    rfl
  | d :: ds, ns, _, e, .cons h r => by
    unfold blsOf at e
    rw [List.mapM_cons] at e
    cases d with
    | bl i =>
      cases q : ds.mapM isBl with
      | none => rw [q] at e; simp [isBl] at e
      | some ms =>
        rw [q] at e
        simp [isBl] at e
        subst e
        cases h
        rw [List.map_cons, Rvs.bls (ds := ds) q r]
    | _ => simp [isBl] at e
theorem minI_mem : ∀ {ns : List Int}, ns.length ≠ 0 → minI ns ∈ ns
  | [], h => absurd rfl h
  | [x], _ => by simp [minI]
  | x :: y :: r, _ => by
    have ih := minI_mem (ns := y :: r) (by simp)
    show min x (minI (y :: r)) ∈ _
    rcases Int.le_total x (minI (y :: r)) with h | h
    · rw [Int.min_eq_left h]; exact List.mem_cons_self
    · rw [Int.min_eq_right h]; exact List.mem_cons_of_mem _ ih
theorem minI_le : ∀ {ns : List Int} {y : Int}, y ∈ ns → minI ns ≤ y
  | [], _, h => by cases h
  | [x], y, h => by
    have e := List.mem_singleton.mp h
    subst e
    exact Int.le_refl _
  | x :: z :: r, y, h => by
    show min x (minI (z :: r)) ≤ y
    rcases List.mem_cons.mp h with e | h
    · rw [e]; exact Int.min_le_left _ _
    · exact Int.le_trans (Int.min_le_right _ _) (minI_le h)
theorem maxI_mem : ∀ {ns : List Int}, ns.length ≠ 0 → maxI ns ∈ ns
  | [], h => absurd rfl h
  | [x], _ => by simp [maxI]
  | x :: y :: r, _ => by
    have ih := maxI_mem (ns := y :: r) (by simp)
    show max x (maxI (y :: r)) ∈ _
    rcases Int.le_total x (maxI (y :: r)) with h | h
    · rw [Int.max_eq_right h]; exact List.mem_cons_of_mem _ ih
    · rw [Int.max_eq_left h]; exact List.mem_cons_self
theorem maxI_le : ∀ {ns : List Int} {y : Int}, y ∈ ns → y ≤ maxI ns
  | [], _, h => by cases h
  | [x], y, h => by
    have e := List.mem_singleton.mp h
    subst e
    exact Int.le_refl _
  | x :: z :: r, y, h => by
    show y ≤ max x (maxI (z :: r))
    rcases List.mem_cons.mp h with e | h
    · rw [e]; exact Int.le_max_left _ _
    · exact Int.le_trans (maxI_le h) (Int.le_max_right _ _)
theorem sorted_uniq {α : Type} {le : α → α → Prop} (anti : ∀ a b, le a b → le b a → a = b) : ∀ (a b : List α), a.Perm b → a.Pairwise le → b.Pairwise le → a = b
  | [], b, h, _, _ => (List.nil_perm.mp h).symm
  | x :: xs, [], h, _, _ => absurd h.length_eq (by simp)
  | x :: xs, y :: ys, h, h1, h2 => by
    obtain ⟨a1, a2⟩ := List.pairwise_cons.mp h1
    obtain ⟨b1, b2⟩ := List.pairwise_cons.mp h2
    have e : x = y := by
      rcases List.mem_cons.mp (h.mem_iff.mp List.mem_cons_self) with e | hx
      · exact e
      · rcases List.mem_cons.mp (h.mem_iff.mpr List.mem_cons_self) with e | hy
        · exact e.symm
        · exact anti _ _ (a1 y hy) (b1 x hx)
    subst e
    rw [sorted_uniq anti xs ys (List.Perm.cons_inv h) a2 b2]
theorem strKeys_map : ∀ {kvs : List (Key × D)} {ks : List Str}, strKeys kvs = some ks → kvs.map (·.1) = ks.map Sum.inr
  | [], ks, e => by
    simp [strKeys] at e
    subst e; rfl
  | (.inl i, d) :: r, ks, e => by simp [strKeys] at e
  | (.inr x, d) :: r, ks, e => by
    simp only [strKeys, Option.map_eq_some_iff] at e
    obtain ⟨l, e1, rfl⟩ := e
    rw [List.map_cons, List.map_cons, strKeys_map e1]
theorem le_trS {x y z : Str} (h1 : ltS y x = false) (h2 : ltS z y = false) : ltS z x = false := by
  unfold ltS at *
  have a := List.not_lt.mp (of_decide_eq_false h1)
  have b := List.not_lt.mp (of_decide_eq_false h2)
  exact decide_eq_false (List.not_lt.mpr (List.le_trans a b))
theorem le_antiS {x y : Str} (h1 : ltS y x = false) (h2 : ltS x y = false) : x = y := by
  unfold ltS at *
  have e : x.cps.toList = y.cps.toList := List.le_antisymm (List.not_lt.mp (of_decide_eq_false h1)) (List.not_lt.mp (of_decide_eq_false h2))
  have e2 : x.cps = y.cps := Array.toList_inj.mp e
  cases x; cases y
  simp only [Str.mk.injEq]
  exact e2
theorem lt_leS {x y : Str} (h : ltS x y = true) : ltS y x = false := by
  unfold ltS at *
  exact decide_eq_false (List.lt_asymm (of_decide_eq_true h))
theorem rising_pw : ∀ (l : List Str) (p : Str), risingS p l = true → (p :: l).Pairwise fun a b => ltS b a = false
  | [], _, _ => by simp
  | x :: r, p, h => by
    simp only [risingS, Bool.and_eq_true, Bool.not_eq_true'] at h
    have ih := rising_pw r x h.2
    have h1 : ltS x p = false := by
      unfold ltS
      rw [← ltCps_eq]; exact h.1
    refine List.pairwise_cons.mpr ⟨fun y hy => ?_, ih⟩
    rcases List.mem_cons.mp hy with e | hy
    · subst e; exact h1
    · exact le_trS h1 ((List.pairwise_cons.mp ih).1 y hy)
theorem sorted_pw {l : List Str} (h : sortedS l = true) : l.Pairwise fun a b => ltS b a = false := by
  cases l with
  | nil => exact .nil
  | cons x r => exact rising_pw r x h
theorem insS_perm (x : Str) : ∀ l : List Str, (insS x l).Perm (x :: l)
  | [] => List.Perm.refl _
  | y :: ys => by
    unfold insS
    split
    · exact ((insS_perm x ys).cons y).trans (List.Perm.swap x y ys)
    · exact List.Perm.refl _
theorem srtS_perm : ∀ l : List Str, (srtS l).Perm l
  | [] => List.Perm.refl _
  | x :: l => (insS_perm x _).trans ((srtS_perm l).cons x)
theorem insS_pw (x : Str) : ∀ l : List Str, (l.Pairwise fun a b => ltS b a = false) → (insS x l).Pairwise fun a b => ltS b a = false
  | [], _ => by simp [insS]
  | y :: ys, h => by
    have hc := List.pairwise_cons.mp h
    unfold insS
    split
    · rename_i q
      refine List.pairwise_cons.mpr ⟨fun z hz => ?_, insS_pw x ys hc.2⟩
      rcases List.mem_cons.mp ((insS_perm x ys).mem_iff.mp hz) with e | hz
      · subst e; exact lt_leS q
      · exact hc.1 z hz
    · rename_i q
      have q : ltS y x = false := by simpa using q
      refine List.pairwise_cons.mpr ⟨fun z hz => ?_, h⟩
      rcases List.mem_cons.mp hz with e | hz
      · subst e; exact q
      · exact le_trS q (hc.1 z hz)
theorem srtS_pw : ∀ l : List Str, (srtS l).Pairwise fun a b => ltS b a = false
  | [] => .nil
  | x :: l => insS_pw x _ (srtS_pw l)
theorem srtS_uniq {l ks : List Str} (h1 : l.Perm ks) (h2 : sortedS l = true) : l = srtS ks :=
  sorted_uniq (le := fun a b => ltS b a = false) (fun _ _ h1 h2 => le_antiS h1 h2) l (srtS ks) (h1.trans (srtS_perm ks).symm) (sorted_pw h2) (srtS_pw ks)
theorem rvs_strs {g : Gm} {w : Wd} : ∀ ks : List Str, Rvs g w (ks.map D.str) (ks.map V.str)
  | [] => .nil
  | k :: ks => .cons (.str k) (rvs_strs ks)
theorem rvs_keys {g : Gm} {w : Wd} : ∀ {kvs : List (Key × D)} {kvs' : List (Key × V)}, Rkv g w kvs kvs' → Rvs g w (kvs.map fun kv => keyD kv.1) (kvs'.map fun kv => kV kv.1)
  | _, _, .nil => .nil
  | _, _, .cons (k := k) _ r => .cons (by cases k <;> constructor) (rvs_keys r)
/-- list(d), of a frozen dict, too -/
theorem call_list_dR (hc : X.calm = true) : CallR X (.type "list") (fun xs H Q => ∃ p kvs, xs = [V.ref p] ∧ Rd H p (.dK kvs) ∧ ∀ q, H q = none → Q (.ref q) (upd H q (.lst (kvs.map fun kv => kV kv.1)))) := by
  intro pins s σ H xs us Q I r h
  obtain ⟨p, kvs, e, hk, q⟩ := h
  subst e
  obtain ⟨u, rfl, rx⟩ := r.one
  cases rx
  obtain ⟨z, lo, vs, rk, hd⟩ := dk_rd I.hok hk
  obtain ⟨ep, hat⟩ := hd.dictAt
  have hl : kvs.length = vs.length := Paired.length rk
  refine PySem.W.kdl_call (PySem.W.kdl_dict (knd := mixKind X.prog X.w) (kvs := vs) (ep := ep) lo) (I.ok.hd hc) hat (by rw [← hl]; exact z) fun h' tk acc' c' hkeep hS hacc => ?_
  refine ⟨.ref s.heap.objs.size, upd H s.heap.objs.size (.lst (kvs.map fun kv => kV kv.1)), I.laid hkeep (Nat.le_refl _) (show ObjOk X.prog X.w _ _ _ (.lst (kvs.map fun kv => kV kv.1)) from ⟨?_, acc'.toList, c', ?_, ?_⟩), rfl, q _ (I.hok.fresh (Nat.le_refl _))⟩
  · rw [List.length_map]; exact z
  · have el : acc'.toList.length = acc'.size := by simp
    refine vals_of_at (by rw [List.length_map, el, hacc.1, hl]) fun j x w h1 h2 => ?_
    obtain ⟨k, y, hky, hi⟩ := hacc.2 j w (by rw [← Array.getElem?_toList]; exact h2)
    have e1 : (kvs.map (·.1))[j]? = some k := by
      rw [KV.keys rk, List.getElem?_map, hky] <;> rfl
    have e2 : (kvs.map fun kv => kV kv.1)[j]? = some (kV k) := by
      have e3 : (kvs.map fun kv => kV kv.1) = (kvs.map (·.1)).map kV := by rw [List.map_map] <;> rfl
      rw [e3, List.getElem?_map, e1] <;> rfl
    rw [e2] at h1
    cases h1
    exact keyIs_rel hi
  · rw [Array.toArray_toList]; exact hS
theorem call_lenR : CallR X (.builtin "len") (fun xs H Q => ∃ a kvs, xs = [V.ref a] ∧ Rd H a (.dK kvs) ∧ Q (.int kvs.length) H) := by
  intro pins s σ H xs us Q I r h
  obtain ⟨a, kvs, rfl, ha, q⟩ := h
  obtain ⟨u, rfl, ru⟩ := r.one
  cases ru
  exact d_len I ha fun t s' I' => ⟨.int kvs.length, H, I', ⟨t, rfl⟩, q⟩
theorem call_blt (hK : X.K = g.K) (hW : X.w = g.W) (b : Bt) (hc : X.calm = true ∨ b = .len) (hgu : b = .repr_ → X.A.guards = some [] ∧ X.A.units + 64 < cLine) (obj : Bool) : CallR X b.val (rBlt g b obj) := by
  cases b with
  | len =>
    refine CallR.imp (CallR.or (CallR.or (CallR.or call_len_seq call_len_str) call_lenR) call_lenT) fun vs H Q h => ?_
    rw [hK]
    obtain ⟨w, m, as, xw, M, r, h⟩ := h
    unfold bltD at h
    split at h
    all_goals first
      | (rename_i hh; cases hh; done)
      | skip
    · obtain ⟨v, rfl, rv⟩ := r.one
      cases rv
      split at h
      · rename_i hz
        exact .inl (.inl (.inr ⟨_, rfl, szOk_le hz, ok_same h M (.int _)⟩))
      · exact absurd h id
    · obtain ⟨v, rfl, rv⟩ := r.one
      split at h
      · rename_i xs e
        obtain ⟨a, us, rfl, h1, r1⟩ := seqOf_rel M rv e
        refine .inl (.inl (.inl ⟨a, us, rfl, h1, ?_⟩))
        rw [← r1.length]
        exact ok_same h M (.int _)
      · split at h
        · rename_i kvs e
          obtain ⟨a, kvs', rfl, h1, r1⟩ := dctOf_rel M rv e
          refine .inl (.inr ⟨a, kvs', rfl, h1, ?_⟩)
          rw [← r1.length]
          exact ok_same h M (.int _)
        · split at h
          · rename_i kvs e
            obtain ⟨a, xs, rfl, h1, r1⟩ := tctOf_rel M rv e
            refine .inr ⟨a, xs, rfl, tci hK hW M h1 r1, ?_⟩
            rw [← r1.length]
            exact ok_same h M (.int _)
          · exact absurd h id
    · exact absurd h id
  | int_ =>
    refine CallR.imp call_int1 fun vs H Q h => ?_
    obtain ⟨w, m, as, xw, M, r, h⟩ := h
    unfold bltD at h
    split at h
    all_goals first
      | (rename_i hh; cases hh; done)
      | skip
    · obtain ⟨v, rfl, rv⟩ := r.one
      cases rv
      exact .inl ⟨_, rfl, ok_same h M (.int _)⟩
    · obtain ⟨v, rfl, rv⟩ := r.one
      cases rv
      exact .inr ⟨_, rfl, ok_same h M (.int _)⟩
    · exact absurd h id
  | abs_ =>
    refine CallR.imp call_abs fun vs H Q h => ?_
    obtain ⟨w, m, as, xw, M, r, h⟩ := h
    unfold bltD at h
    split at h
    all_goals first
      | (rename_i hh; cases hh; done)
      | skip
    · obtain ⟨v, rfl, rv⟩ := r.one
      cases rv
      exact ⟨_, rfl, ok_same h M (.int _)⟩
    · exact absurd h id
  | min2 =>
    refine CallR.imp (call_min2 (hc.resolve_right (by intro z; cases z))) fun vs H Q h => ?_
    obtain ⟨w, m, as, xw, M, r, h⟩ := h
    unfold bltD at h
    split at h
    all_goals first
      | (rename_i hh; cases hh; done)
      | skip
    · obtain ⟨v, u, rfl, rv, ru⟩ := r.two
      cases rv; cases ru
      exact ⟨_, _, rfl, ok_same h M (.int _)⟩
    · exact absurd h id
  | max2 =>
    refine CallR.imp (call_max2 (hc.resolve_right (by intro z; cases z))) fun vs H Q h => ?_
    obtain ⟨w, m, as, xw, M, r, h⟩ := h
    unfold bltD at h
    split at h
    all_goals first
      | (rename_i hh; cases hh; done)
      | skip
    · obtain ⟨v, u, rfl, rv, ru⟩ := r.two
      cases rv; cases ru
      exact ⟨_, _, rfl, ok_same h M (.int _)⟩
    · exact absurd h id
  | min1 =>
    refine CallR.imp (cr_min (hc.resolve_right (by intro z; cases z))) fun vs H Q h => ?_
    rw [hK]
    obtain ⟨w, m, as, xw, M, r, h⟩ := h
    unfold bltD at h
    split at h
    all_goals first
      | (rename_i hh; cases hh; done)
      | skip
    · obtain ⟨v, rfl, rv⟩ := r.one
      split at h
      · rename_i xs e
        split at h
        · rename_i ns e2
          split at h
          · exact absurd h id
          · rename_i hn
            obtain ⟨a, us, rfl, h1, r1⟩ := lstOf_rel M rv e
            have e3 := Rvs.ints e2 r1
            subst e3
            refine ⟨a, ns, rfl, h1, by omega, fun k hk hl => ?_⟩
            have e4 : k = minI ns := Int.le_antisymm (hl _ (minI_mem hn)) (minI_le hk)
            rw [e4]
            exact ok_same h M (.int _)
        · exact absurd h id
      · exact absurd h id
    · exact absurd h id
  | max1 =>
    refine CallR.imp (cr_max (hc.resolve_right (by intro z; cases z))) fun vs H Q h => ?_
    rw [hK]
    obtain ⟨w, m, as, xw, M, r, h⟩ := h
    unfold bltD at h
    split at h
    all_goals first
      | (rename_i hh; cases hh; done)
      | skip
    · obtain ⟨v, rfl, rv⟩ := r.one
      split at h
      · rename_i xs e
        split at h
        · rename_i ns e2
          split at h
          · exact absurd h id
          · rename_i hn
            obtain ⟨a, us, rfl, h1, r1⟩ := lstOf_rel M rv e
            have e3 := Rvs.ints e2 r1
            subst e3
            refine ⟨a, ns, rfl, h1, by omega, fun k hk hl => ?_⟩
            have e4 : k = maxI ns := Int.le_antisymm (maxI_le hk) (hl _ (maxI_mem hn))
            rw [e4]
            exact ok_same h M (.int _)
        · exact absurd h id
      · exact absurd h id
    · exact absurd h id
  | sum_ =>
    refine CallR.imp (cr_sum (hc.resolve_right (by intro z; cases z))) fun vs H Q h => ?_
    rw [hK]
    obtain ⟨w, m, as, xw, M, r, h⟩ := h
    unfold bltD at h
    split at h
    all_goals first
      | (rename_i hh; cases hh; done)
      | skip
    · obtain ⟨v, rfl, rv⟩ := r.one
      split at h
      · rename_i xs e
        split at h
        · rename_i ns e2
          obtain ⟨a, us, rfl, h1, r1⟩ := lstOf_rel M rv e
          have e3 := Rvs.ints e2 r1
          subst e3
          exact ⟨a, ns, rfl, h1, ok_same h M (.int _)⟩
        · exact absurd h id
      · exact absurd h id
    · exact absurd h id
  | list_ =>
    refine CallR.imp (CallR.or call_list_of (call_list_dR (hc.resolve_right (by intro z; cases z)))) fun vs H Q h => ?_
    rw [hK]
    obtain ⟨w, m, as, xw, M, r, h⟩ := h
    unfold bltD at h
    split at h
    all_goals first
      | (rename_i hh; cases hh; done)
      | skip
    · obtain ⟨v, rfl, rv⟩ := r.one
      split at h
      · rename_i xs e
        obtain ⟨a, us, rfl, h1, r1⟩ := seqOf_rel M rv e
        exact .inl ⟨a, us, rfl, h1, (mkL_post h M r1).2⟩
      · split at h
        · rename_i kvs e
          obtain ⟨a, kvs', rfl, h1, r1⟩ := dctOf_rel M rv e
          exact .inr ⟨a, kvs', rfl, h1, (mkL_post h M (rvs_keys r1)).2⟩
        · exact absurd h id
    · exact absurd h id
  | tuple_ =>
    refine CallR.imp call_tuple_ofS fun vs H Q h => ?_
    rw [hK]
    obtain ⟨w, m, as, xw, M, r, h⟩ := h
    unfold bltD at h
    split at h
    all_goals first
      | (rename_i hh; cases hh; done)
      | skip
    · obtain ⟨v, rfl, rv⟩ := r.one
      split at h
      · rename_i xs e
        obtain ⟨a, us, rfl, h1, r1⟩ := lstOf_rel M rv e
        exact ⟨a, us, rfl, .inl ⟨h1, (mkT_post h M r1).2⟩⟩
      · exact absurd h id
    · exact absurd h id
  | str_ =>
    refine CallR.imp call_str_int fun vs H Q h => ?_
    obtain ⟨w, m, as, xw, M, r, h⟩ := h
    unfold bltD at h
    split at h
    all_goals first
      | (rename_i hh; cases hh; done)
      | skip
    · obtain ⟨v, rfl, rv⟩ := r.one
      cases rv
      split at h
      · rename_i hz
        exact ⟨_, rfl, Nat.le_of_ble_eq_true hz, ok_same h M (.str _)⟩
      · exact absurd h id
    · exact absurd h id
  | ord_ =>
    refine CallR.imp call_ord fun vs H Q h => ?_
    obtain ⟨w, m, as, xw, M, r, h⟩ := h
    unfold bltD at h
    split at h
    all_goals first
      | (rename_i hh; cases hh; done)
      | skip
    · obtain ⟨v, rfl, rv⟩ := r.one
      cases rv
      split at h
      · rename_i hz
        exact ⟨_, rfl, Nat.eq_of_beq_eq_true hz, ok_same h M (.int _)⟩
      · exact absurd h id
    · exact absurd h id
  | any_ =>
    refine CallR.imp (cr_any (hc.resolve_right (by intro z; cases z))) fun vs H Q h => ?_
    rw [hK]
    obtain ⟨w, m, as, xw, M, r, h⟩ := h
    unfold bltD at h
    split at h
    all_goals first
      | (rename_i hh; cases hh; done)
      | skip
    · obtain ⟨v, rfl, rv⟩ := r.one
      split at h
      · rename_i xs e
        split at h
        · rename_i ns e2
          obtain ⟨a, us, rfl, h1, r1⟩ := lstOf_rel M rv e
          have e3 := Rvs.bls e2 r1
          subst e3
          exact ⟨a, ns, rfl, h1, ok_same h M (.bl _)⟩
        · exact absurd h id
      · exact absurd h id
    · exact absurd h id
  | repr_ =>
    intro pins s σ H xs us Q I rs h
    obtain ⟨w, m, as, xw, M, r, h⟩ := h
    unfold bltD at h
    split at h
    all_goals first
      | (rename_i hh; cases hh; done)
      | skip
    · obtain ⟨v, rfl, rv⟩ := r.one
      split at h
      · rename_i q e
        split at h
        · rename_i cc
          simp only [Bool.and_eq_true, Bool.not_eq_true'] at cc
          obtain ⟨⟨⟨⟨c1, c2⟩, c3⟩, c4⟩, c5⟩ := cc
          have dp := toP_rel M 9 rv e
          rw [← hK] at dp
          obtain ⟨u, rfl, ru⟩ := vals1 rs
          obtain ⟨bs, rd⟩ := L2.Dp.reads I q v u dp ru
          obtain ⟨a, rfl⟩ : ∃ a, v = V.ref a := by cases dp <;> first | exact ⟨_, rfl⟩ | cases c1
          obtain ⟨g1, g2⟩ := hgu rfl
          have c4 := Nat.le_of_ble_eq_true c4
          have c5 := Nat.le_of_ble_eq_true c5
          cases ru
          exact repr_of_reads' (h₀ := s.heap) rd c2 (fun z => by rw [c3] at z; cases z) g1 (by omega) (fun _ _ z => z) (fun h' t tk k => ⟨V.str _, H, I.kept k, ⟨_, rfl⟩, ok_same h M (.str _)⟩) (by show _ ≤ 16777216; omega)
        · exact absurd h id
      · exact absurd h id
    · exact absurd h id
  | sorted_ =>
    refine CallR.imp (CallR.or cr_sortedS (call_sortedD (hc.resolve_right (by intro z; cases z)))) fun vs H Q h => ?_
    rw [hK]
    obtain ⟨w, m, as, xw, M, r, h⟩ := h
    unfold bltD at h
    split at h
    all_goals first
      | (rename_i hh; cases hh; done)
      | skip
    · obtain ⟨v, rfl, rv⟩ := r.one
      split at h
      · rename_i xs e
        split at h
        · rename_i ks e2
          split at h
          · rename_i hz
            obtain ⟨a, us, rfl, h1, r1⟩ := lstOf_rel M rv e
            have e3 := Rvs.strs e2 r1
            subst e3
            refine .inl ⟨a, ks, rfl, h1, by rw [Nat.blt_eq] at hz; exact hz, fun ys p h2 h3 hp => ?_⟩
            rw [srtS_uniq h2 h3]
            exact (mkL_post h M (rvs_strs _)).2 p hp
          · exact absurd h id
        · exact absurd h id
      · split at h
        · rename_i kvs e
          split at h
          · rename_i ks e2
            split at h
            · rename_i hz
              obtain ⟨a, kvs', rfl, h1, r1⟩ := dctOf_rel M rv e
              refine .inr ⟨a, kvs', ks, rfl, h1, r1.keys.trans (strKeys_map e2), by rw [Nat.blt_eq] at hz; exact hz, fun ys p h2 h3 hp => ?_⟩
              rw [srtS_uniq h2 h3]
              exact (mkL_post h M (rvs_strs _)).2 p hp
            · exact absurd h id
          · exact absurd h id
        · exact absurd h id
    · exact absurd h id
def Bm.ty : Bm → String
  | .append => "list" | .index => "list" | .extend => "list" | .insert => "list" | .join => "str" | .sindex => "str" | .tindex => "tuple"
def Bm.nm : Bm → Str
  | .append => "append" | .index => "index" | .extend => "extend" | .insert => "insert" | .join => "join" | .sindex => "index" | .tindex => "index"
def Bm.id : Bm → String
  | .append => "list.append" | .index => "list.index" | .extend => "list.extend" | .insert => "list.insert" | .join => "str.join" | .sindex => "str.index" | .tindex => "tuple.index"
def rBm (g : Gm) (b : Bm) (obj : Bool) : V → List V → Hp → VK → Prop := fun x vs H Q => ∃ w m o as xw, Mem g w H m ∧ Rv g w o x ∧ Rvs g w as vs ∧ PostE g w xw Q (bmD b obj o as m)
theorem MtR.imp {id : String} {r r' : V → List V → Hp → VK → Prop} (h : MtR X id r) (k : ∀ x xs H Q, r' x xs H Q → r x xs H Q) : MtR X id r' :=
  fun pins s σ H x xs v us Q I rx rs q => h pins s σ H x xs v us Q I rx rs (k _ _ _ _ q)
theorem szOk_lt {n : Nat} (h : szOk (n + 1) = true) : n < sizeLine := sl_szOk h
theorem flat_ints (ns : List Int) : (ns.map V.int).all flatV = true := by
  rw [List.all_eq_true]
  intro x hx
  obtain ⟨i, _, rfl⟩ := List.mem_map.mp hx
  rfl
theorem flat_strs' (ns : List Str) : (ns.map V.str).all flatV = true := by
  rw [List.all_eq_true]
  intro x hx
  obtain ⟨i, _, rfl⟩ := List.mem_map.mp hx
  rfl
theorem mt_bm (hK : X.K = g.K) (b : Bm) (obj : Bool) : MtR X b.id (rBm g b obj) := by
  cases b with
  | append =>
    refine MtR.imp (r := rAppend) mt_append fun x vs H Q h => ?_
    obtain ⟨w, m, o, as, xw, M, ro, r, h⟩ := h
    unfold bmD at h
    split at h
    all_goals first
      | (rename_i hh; cases hh; done)
      | skip
    · obtain ⟨v, rfl, rv⟩ := r.one
      cases ro with
      | ref n hn =>
        split at h
        · rename_i xs e
          split at h
          · rename_i hz
            obtain ⟨us, h1, r1⟩ := M.ob _ _ e
            refine ⟨_, us, v, rfl, rfl, h1, by rw [← r1.length]; exact szOk_lt hz, ?_⟩
            have M' := M.write (o := .lst (us ++ [v])) (u := .lst (xs ++ [_])) e trivial trivial ⟨us ++ [v], upd_same, r1.append (.cons rv .nil)⟩
            exact h w .non _ (Wd.le.refl w) M' .non
          · exact absurd h id
        · exact absurd h id
    · exact absurd h id
  | index =>
    refine MtR.imp mt_index fun x vs H Q h => ?_
    rw [hK]
    obtain ⟨w, m, o, as, xw, M, ro, r, h⟩ := h
    unfold bmD at h
    split at h
    all_goals first
      | (rename_i hh; cases hh; done)
      | skip
    · obtain ⟨v, rfl, rv⟩ := r.one
      cases rv
      rename_i i hh0
      split at h
      · rename_i xs e
        split at h
        · rename_i ns e2
          split at h
          · rename_i k e3
            obtain ⟨a, us, rfl, h1, r1⟩ := lstOf_rel M ro e
            have e4 := Rvs.strs e2 r1
            subst e4
            obtain ⟨hk, hb, hn⟩ := List.findIdx?_eq_some_iff_getElem.mp e3
            have hi : ns[k] = i := by simpa using hb
            refine ⟨a, _, .str i, k, .str i, rfl, rfl, h1, rfl, flat_strs' ns, ?_, by simp [eqV], ?_, ok_same h M (.int _)⟩
            · rw [List.getElem?_map, List.getElem?_eq_getElem hk, hi]; rfl
            · intro j z hj hz
              rw [List.getElem?_map] at hz
              have hjl : j < ns.length := Nat.lt_trans hj hk
              rw [List.getElem?_eq_getElem hjl] at hz
              cases hz
              have := hn j hj
              simpa [eqV] using this
          · exact absurd h id
        · exact absurd h id
      · exact absurd h id
    · obtain ⟨v, rfl, rv⟩ := r.one
      cases rv
      rename_i i hh0
      split at h
      · rename_i xs e
        split at h
        · rename_i ns e2
          split at h
          · rename_i k e3
            obtain ⟨a, us, rfl, h1, r1⟩ := lstOf_rel M ro e
            have e4 := Rvs.ints e2 r1
            subst e4
            obtain ⟨hk, hb, hn⟩ := List.findIdx?_eq_some_iff_getElem.mp e3
            have hi : ns[k] = i := by simpa using hb
            refine ⟨a, _, .int i, k, .int i, rfl, rfl, h1, rfl, flat_ints ns, ?_, by simp [eqV], ?_, ok_same h M (.int _)⟩
            · rw [List.getElem?_map, List.getElem?_eq_getElem hk, hi]; rfl
            · intro j z hj hz
              rw [List.getElem?_map] at hz
              have hjl : j < ns.length := Nat.lt_trans hj hk
              rw [List.getElem?_eq_getElem hjl] at hz
              cases hz
              have := hn j hj
              simpa [eqV] using this
          · exact absurd h id
        · exact absurd h id
      · exact absurd h id
    · exact absurd h id

  | extend =>
    refine MtR.imp (MtR.or (r := rExtend) (r' := rExtendT X.K) mt_extend mt_extendT) fun x vs H Q h => ?_
    obtain ⟨w, m, o, as, xw, M, ro, r, h⟩ := h
    unfold bmD at h
    split at h
    all_goals first
      | (rename_i hh; cases hh; done)
      | skip
    · obtain ⟨v, rfl, rv⟩ := r.one
      cases ro with
      | ref n hn =>
        split at h
        · rename_i xs e
          split at h
          · rename_i hz
            obtain ⟨us, h1, r1⟩ := M.ob _ _ e
            cases rv with
            | tup s2 r2 =>
              refine .inr ⟨_, _, us, _, rfl, rfl, h1, by rw [hK]; exact sqT_mono M.fr s2.sq, by rw [← r1.length, ← r2.length]; exact szOk_le hz, ?_⟩
              have M' := M.write (o := .lst (us ++ _)) (u := .lst (xs ++ _)) e trivial trivial ⟨us ++ _, upd_same, r1.append r2⟩
              exact h w .non _ (Wd.le.refl w) M' .non
          · exact absurd h id
        · exact absurd h id
    · obtain ⟨v, rfl, rv⟩ := r.one
      cases ro with
      | ref n hn =>
        split at h
        · rename_i xs ys e e2
          split at h
          · rename_i hz
            obtain ⟨us, h1, r1⟩ := M.ob _ _ e
            obtain ⟨p, zs, rfl, h2, r2⟩ := lstW_rel M rv e2
            refine .inl ⟨_, p, us, zs, rfl, rfl, h1, h2, by rw [← r1.length, ← r2.length]; exact szOk_le hz, ?_⟩
            have M' := M.write (o := .lst (us ++ zs)) (u := .lst (xs ++ ys)) e trivial trivial ⟨us ++ zs, upd_same, r1.append r2⟩
            exact h w .non _ (Wd.le.refl w) M' .non
          · exact absurd h id
        · exact absurd h id
    · exact absurd h id
  | insert =>
    refine MtR.imp mt_insert fun x vs H Q h => ?_
    obtain ⟨w, m, o, as, xw, M, ro, r, h⟩ := h
    unfold bmD at h
    split at h
    all_goals first
      | (rename_i hh; cases hh; done)
      | skip
    · obtain ⟨v, u, rfl, rv, ru⟩ := r.two
      rename_i i _ _
      cases rv
      cases ro with
      | ref n hn =>
        split at h
        · rename_i xs e
          split at h
          · rename_i hz
            simp only [Bool.and_eq_true, decide_eq_true_eq] at hz
            obtain ⟨us, h1, r1⟩ := M.ob _ _ e
            have sm := small62_of hz.2
            refine ⟨_, us, _, u, rfl, rfl, h1, by rw [← r1.length]; exact szOk_lt hz.1.1, hz.1.2, by omega, ?_⟩
            have r2 := ((r1.take i.toNat).append (.cons ru .nil)).append (r1.drop i.toNat)
            have M' := M.write (o := .lst (us.take i.toNat ++ [u] ++ us.drop i.toNat)) (u := .lst (xs.take i.toNat ++ [_] ++ xs.drop i.toNat)) e trivial trivial ⟨_, upd_same, r2⟩
            exact h w .non _ (Wd.le.refl w) M' .non
          · exact absurd h id
        · exact absurd h id
    · exact absurd h id
  | join =>
    refine MtR.imp mt_join fun x vs H Q h => ?_
    rw [hK]
    obtain ⟨w, m, o, as, xw, M, ro, r, h⟩ := h
    unfold bmD at h
    split at h
    all_goals first
      | (rename_i hh; cases hh; done)
      | skip
    · obtain ⟨v, rfl, rv⟩ := r.one
      cases ro
      split at h
      · rename_i xs e
        split at h
        · rename_i ys e2
          split at h
          · rename_i hz
            obtain ⟨a, us, rfl, h1, r1⟩ := seqOf_rel M rv e
            have e3 := Rvs.strs e2 r1
            subst e3
            have hz := Nat.le_of_ble_eq_true hz
            exact ⟨_, a, ys, rfl, rfl, h1, hz, ok_same h M (.str _)⟩
          · exact absurd h id
        · exact absurd h id
      · exact absurd h id
    · exact absurd h id
  | tindex =>
    refine MtR.imp mt_tup_index fun x vs H Q h => ?_
    obtain ⟨w, m, o, as, xw, M, ro, r, h⟩ := h
    unfold bmD at h
    split at h
    all_goals first
      | (rename_i hh; cases hh; done)
      | skip
    · obtain ⟨v, rfl, rv⟩ := r.one
      cases rv
      cases ro with
      | tup hq rs =>
        split at h
        · rename_i ns e4
          split at h
          · rename_i k e5
            have ev := Rvs.strs e4 rs
            subst ev
            obtain ⟨hkk, hb, hn⟩ := List.findIdx?_eq_some_iff_getElem.mp e5
            rename_i z _ _ _ _
            have hi : ns[k] = z := by simpa using hb
            refine ⟨_, ns, z, k, rfl, rfl, by rw [hK]; exact sqT_mono M.fr hq.sq, by rw [List.getElem?_eq_getElem hkk, hi], fun j hj hz => ?_, ok_same h M (.int _)⟩
            have hjl : j < ns.length := Nat.lt_trans hj hkk
            rw [List.getElem?_eq_getElem hjl] at hz
            have := hn j hj
            rw [Option.some.inj hz] at this
            simp at this
          · exact absurd h id
        · exact absurd h id
    · exact absurd h id
  | sindex =>
    refine MtR.imp mt_sindex fun x vs H Q h => ?_
    obtain ⟨w, m, o, as, xw, M, ro, r, h⟩ := h
    unfold bmD at h
    split at h
    all_goals first
      | (rename_i hh; cases hh; done)
      | skip
    · obtain ⟨v, rfl, rv⟩ := r.one
      cases ro
      cases rv
      split at h
      · rename_i i rest e
        exact ⟨_, _, i, rest, rfl, rfl, e, ok_same h M (.int _)⟩
      · exact absurd h id
    · exact absurd h id
end R
namespace R
open PySem PySem.Spec PyProof.Rows L2
structure RoomG (k : Nat) (A : Around) : Prop extends L2.Room k A where
  gd : A.guards = some []
theorem RoomG.mono {j k : Nat} {A : Around} (r : RoomG k A) (h : j ≤ k) : RoomG j A := ⟨r.toRoom.mono h, r.gd⟩
theorem RoomG.deeper {k : Nat} {A : Around} (r : RoomG (k + 1) A) (e : Env) : RoomG k (A.deeper e) := ⟨r.toRoom.deeper e, by first | exact r.gd | simpa [Around.deeper] using r.gd⟩
theorem RoomG.in1 {k : Nat} {A : Around} (r : RoomG (k + 1) A) : RoomG k A.in1 := ⟨r.toRoom.in1, by first | exact r.gd | simpa [Around.in1] using r.gd⟩
theorem RoomG.make {k : Nat} {A : Around} (r : RoomG (k + 1) A) (C : Addr) (us : List Value) (kw : List (Str × Value)) : RoomG k (A.under (.builtin "type.__call__" ⟨.ref C :: us, kw⟩)) :=
  ⟨r.toRoom.make C us kw, by
    have := r.gd
    simp [Around.under, Code.guards, Code.isGuard, guardIds, pushGuards, this]⟩
structure FnG (P : Program) (w : World) (K : PySem.W.Frag) (mg : Str → Option Value) (base : Heap) (CX : CXT) (k : Nat) (f : Addr) (fd : FuncData) (ps : List Str) (sp : Sp) : Prop where
  len : ∀ vs H Q E, sp vs H Q E → vs.length = ps.length
  run : ∀ (A : Around) (outer : List Env) (s : Shared) (H : Hp) (args : Args) (us : List Value) (vs : List V) (Q : VK) (E : XK), RoomG k A → Env0 P w K mg base A outer s H → BindsTo s fd args (ps.zip us) → Vals vs us → sp vs H Q E → codeAny (model P w) A (.call (.ref f) args) (CR CX outer P w H s Q E) s
theorem FnG.imp {P : Program} {w : World} {K : PySem.W.Frag} {mg : Str → Option Value} {base : Heap} {CX : CXT} {k : Nat} {f : Addr} {fd : FuncData} {ps : List Str} {sp sp' : Sp} (F : FnG P w K mg base CX k f fd ps sp) (h : ∀ vs H Q E, sp' vs H Q E → sp vs H Q E) : FnG P w K mg base CX k f fd ps sp' where
  len := fun vs H Q E q => F.len vs H Q E (h vs H Q E q)
  run := fun A o s H a us vs Q E r e b v q => F.run A o s H a us vs Q E r e b v (h vs H Q E q)
section
variable {X : Cx} {CX : CXT} {k : Nat} {f : Addr} {fd : FuncData} {ps : List Str} {sp : Sp} {E : L2.St → XK} {x : Str} {p pos : Pos} {e : Expr} {es : List Expr} {t : TA}
/-- f's promise, taken up where it is called -/
theorem run_fnG {pins : List (Addr × Obj)} {σ : L2.St} {H : Hp} {s : Shared} {Q : VK} {us : List Value} {vs : List V} (F : FnG X.prog X.w X.K X.mg X.base CX k f fd ps sp) (hr : RoomG k X.A) (hb : Binds X.K fd ps []) (hx : PassesAt CX X σ (E σ)) (I : Inv X pins σ H s) (r : Vals vs us) (h : sp vs H Q (E σ)) :
    wpAny (model X.prog X.w) X.A (call (.ref f) us) (EP X pins σ Q) X.xe s := by
  have l2 : us.length = ps.length := r.length ▸ F.len vs H Q (E σ) h
  have bd := hb s us I.kIn (by simpa using l2)
  simp only [List.append_nil] at bd
  have main := F.run X.A X.stack s H ⟨us, []⟩ us vs Q (E σ) hr I.env0 bd r h
  refine wpAny_call (codeAny_mono main ?_)
  intro rs s2 hq
  match rs, hq with
  | .error er, hq => exact hx pins H s er s2 I hq
  | .ok (.ret u), hq => exact I.after hq
  | .ok .next, hq => exact hq.elim
  | .ok .brk, hq => exact hq.elim
  | .ok .cont, hq => exact hq.elim
theorem pe_callG (F : FnG X.prog X.w X.K X.mg X.base CX k f fd ps sp) (hr : RoomG k X.A) (hg : Gl X x) (hm : X.mg x = some (.ref f)) (hk : PySem.W.keepIn X.K (.ref f) = true) (hb : Binds X.K fd ps []) (hx : ∀ σ, PassesAt CX X σ (E σ)) (ha : PA X (e :: es) t)
    (hdb : (x == ("__debug__" : Str)) = false) (he : starEach (e :: es) X.env = (false, eval e X.env) :: starEach es X.env) (hpl : (backTo pos (starEach es X.env)).any (·.1) = false) : PE X (.Call (.Name x p) (e :: es) [] pos) (tCallS sp E t) :=
  ⟨fun pins s σ H Q I h => wpAny_Call_Name_kw (ld_glob I hg hm
    (PySem.W.callWith_K (h₀ := X.base) I.ok.mod.kin hk (thn (ha.run pos pins s σ H _ I h) fun us s1 ⟨vs, H1, I1, r, q⟩ => ⟨I1.kIn, run_fnG F hr hb (hx σ) I1 r q⟩) he hpl) hdb)⟩
end
section
variable {CX : CXT} {P : Program} {w : World} {K : PySem.W.Frag} {mg : Str → Option Value} {base : Heap} {k : Nat} {f : Addr} {N ps : List Str} {sp : Sp}
/-- a def of the text, by its body -/
theorem fn_ofG {name qual : Str} {params : Arguments} {body : List Stmt} {scope : Scope} {dV kV doc pm cdv ct oc : Value} {an od : Option Addr} {osl : Array (Option Value)}
    (lk : K.lookup f = some ⟨oc, od, .func (PySem.W.fnOf name qual params body scope dV kV doc pm an cdv ct), osl⟩) (hcd : PySem.W.codeIn K cdv qual = true) (S : FnScope N ps scope) (len : ∀ vs H Q E, sp vs H Q E → vs.length = ps.length)
    (hbody : ∀ (A : Around) (outer : List Env) (s : Shared) (H : Hp) (vs : List V) (Q : VK) (E : XK), RoomG k (A.deeper (envOfC qual scope s.heap.objs.size f cdv)) → sp vs H Q E → ∃ t, PSs (cxOf CX P w K mg base N qual scope f cdv A outer s H E) body t ∧ t { nx := fun _ H' => Q .non H', rt := Q } (start N vs) H) :
    FnG P w K mg base CX (k + 1) f (PySem.W.fnOf name qual params body scope dV kV doc pm an cdv ct) ps sp := by
  constructor
  · exact len
  intro A outer s H args us vs Q E hr e0 hb r hsp
  have up : ∀ b o, base.get? b = some o → s.heap.get? b = some o := fun b o e => (e0.bs b o e).1
  have KX := e0.mod.kin.keeps up
  have lim := e0.mod.nolimit.keeps up
  have hkind : ∀ y ∈ ps.zip us, scope.names.lookup y.1 = some .local ∨ (scope.names.lookup y.1 = some .cell ∧ ((cellsFrom (s.heap.objs.size + 1) scope.names []).lookup y.1).isSome = true) := by
    intro y hy
    cases S.par y.1 (List.of_mem_zip (a := y.1) (b := y.2) hy).1 with
    | inl q => exact Or.inl q
    | inr q => exact Or.inr ⟨q, PySem.W.cellsFrom_some _ _ _ (Or.inl q)⟩
  refine codeAny_call_function hr.toRoom.depth (KX _ _ lk) rfl S.co S.gen rfl (PySem.W.codeRec_of KX hcd) (hb _ _ _ _ (wpAny_newFunctionEnv_cells S.kind hkind fun env he s1 x => ?_))
  subst he
  refine ⟨lim.keeps x.toInCall.keep, codeAny_func ?_⟩
  obtain ⟨t, ht, hq⟩ := hbody A outer s H vs Q E (hr.deeper _) hsp
  have I := inv_start (CX := CX) (f := f) (cd := cdv) (qual := qual) (E := E) S hr.hd e0 (len vs H Q E hsp) r x
  have last : ∀ {σ2 : L2.St} {H2 : Hp} {v : V} {u : Value} {s2 : Shared}, Inv (cxOf CX P w K mg base N qual scope f cdv A outer s H E) [] σ2 H2 s2 → RelV v u → Q v H2 → CE outer P w H s Q u s2 := fun J rv q => ⟨_, _, J.os, J.bare, J.base, J.hok, rv, q⟩
  refine wpAny_mono (ht.run [] s1 (start N vs) H _ I hq) ?_ (fun _ _ z => z)
  intro fl s2 hs
  match fl, hs with
  | .ret u, ⟨v, σ2, H2, J, rv, q⟩ => exact last J rv q
  | .next, ⟨σ2, H2, J, q⟩ => exact last (v := .non) (u := .none) J rfl q
  | .brk, ⟨_, _, _, q⟩ => exact q.elim
  | .cont, ⟨_, _, _, q⟩ => exact q.elim
theorem fun_okG {x qual : Str} {st : Stmt} {fd : FuncData} (F : Fun K x qual st f fd) (S : FnScope N ps (defScope st)) (len : ∀ vs H Q E, sp vs H Q E → vs.length = ps.length)
    (hbody : ∀ (cdv : Value) (A : Around) (outer : List Env) (s : Shared) (H : Hp) (vs : List V) (Q : VK) (E : XK), RoomG k (A.deeper (envOfC qual (defScope st) s.heap.objs.size f cdv)) → sp vs H Q E → ∃ t, PSs (cxOf CX P w K mg base N qual (defScope st) f cdv A outer s H E) (defBody st) t ∧ t { nx := fun _ H' => Q .non H', rt := Q } (start N vs) H) :
    FnG P w K mg base CX (k + 1) f fd ps sp := by
  obtain ⟨_, _, _, _, _, _, cdv, _, _, rfl, lk, hc⟩ := F.ex
  exact fn_ofG lk hc S len (hbody cdv)
theorem fund_okG {x qual : Str} {params : Arguments} {body : List Stmt} {scope : Scope} {dvs : List V} {kws : List (Str × V)} {fd : FuncData} (F : FunD K x qual params body scope dvs kws f fd) (S : FnScope N ps scope) (len : ∀ vs H Q E, sp vs H Q E → vs.length = ps.length)
    (hbody : ∀ (cdv : Value) (A : Around) (outer : List Env) (s : Shared) (H : Hp) (vs : List V) (Q : VK) (E : XK), RoomG k (A.deeper (envOfC qual scope s.heap.objs.size f cdv)) → sp vs H Q E → ∃ t, PSs (cxOf CX P w K mg base N qual scope f cdv A outer s H E) body t ∧ t { nx := fun _ H' => Q .non H', rt := Q } (start N vs) H) :
    FnG P w K mg base CX (k + 1) f fd ps sp := by
  obtain ⟨_, _, _, _, _, _, _, cdv, _, _, rfl, lk, hc, _⟩ := F.ex
  exact fn_ofG lk hc S len (hbody cdv)
end
/-- where the script lies: in what is tracked, or in the row's own part -/
theorem script_at {P : Program} {w : World} {K : PySem.W.Frag} {h : Heap} {a : Addr} {vs : List Value} {ns : List Int} (KX : K.In h) (ha : h.get? a = some { cls := .type "list", data := .seq vs.toArray }) (hi : IntsAre vs ns) (hl : ns.length ≤ sizeLine) :
    ∃ H : Hp, Only H ∧ SqL K H a (ns.map V.int) ∧ HOk P w H h ∧ (∀ b, H b ≠ none → b = a) ∧ (H a ≠ none → K.lookup a = none) := by
  cases hk : K.lookup a with
  | some o =>
    have eo : some o = some _ := (KX a o hk).symm.trans ha
    cases eo
    exact ⟨fun _ => none, fun _ => Or.inl rfl, Or.inr ⟨_, vs.toArray, _, hk, rfl, rfl, rfl, by simpa [hi.length] using hl, by simpa using vals_ints hi⟩, (fun _ _ z => nomatch z), (fun _ z => (z rfl).elim), (fun z => (z rfl).elim)⟩
  | none =>
    let u : HO := .frz { cls := .type "list", data := .seq vs.toArray } (.lst (ns.map V.int))
    have hit : ∀ b, b = a → (if b = a then some u else none) = some u := fun b e => if_pos e
    have off : ∀ b, b ≠ a → (if b = a then some u else none) = none := fun b e => if_neg e
    refine ⟨fun b => if b = a then some u else none, fun b => ?_, Or.inl (Or.inr ⟨_, hit a rfl⟩), fun b v z => ?_, fun b z => ?_, fun _ => rfl⟩
    · by_cases q : b = a
      · exact Or.inr ⟨_, _, hit b q⟩
      · exact Or.inl (off b q)
    · by_cases q : b = a
      · have z2 : some u = some v := (hit b q).symm.trans z
        cases z2
        rw [q]
        exact ⟨ha, by simpa using hl, vs, _, vals_ints hi, ha⟩
      · have z2 : none = some v := (off b q).symm.trans z
        cases z2
    · by_cases q : b = a
      · exact q
      · exact (z (off b q)).elim
theorem law_callG {P : Program} {w : World} {K : PySem.W.Frag} {mg mb : Str → Option Value} {CX : CXT} {k : Nat} {fa a : Addr} {fd : FuncData} {x : Str} {sp : Sp} {s : Shared} {vs : List Value} {ns : List Int}
    (KX : K.In s.heap) (hns : s.heap.Ns mainGlobals mg) (hb : s.heap.Ns builtinsNs mb) (hbb : ∀ x : Str, x ≠ "__name__" → mb x = bootBuiltins x) (hlim : s.heap.NoLimit) (hg : s.gens = #[]) (ha : s.heap.get? a = some { cls := .type "list", data := .seq vs.toArray }) (hi : IntsAre vs ns) (hl : ns.length ≤ sizeLine) (hr : RoomG k callerA)
    (F : ∀ base : Heap, K.In base → base.Ns mainGlobals mg → FnG P w K mg base CX k fa fd [x] sp) (hbind : ∀ (s : Shared) (u : Value), BindsTo s fd ⟨[u], []⟩ [(x, u)]) (hsp : ∀ H : Hp, Only H → SqL K H a (ns.map V.int) → sp [.ref a] H (fun v _ => v = .bl true) fun _ _ _ => False) (hCX : ∀ H e s', CX [] H s (fun _ _ _ => False) e s' → False) :
    codeAny (model P w) callerA (.call (.ref fa) ⟨[.ref a], []⟩) (fun r s' => r = .ok (.ret (.bool true)) ∧ OldK s.heap s'.heap ∧ s'.os = s.os ∧ AllBare s'.gens) s := by
  obtain ⟨H, hO, hS, hok, hA, hK⟩ := script_at (P := P) (w := w) KX ha hi hl
  -- what is hidden stands at the script alone
  have tr : ∀ {b : Addr}, b ≠ a → H b = none := fun {b} z => Classical.byContradiction fun q => z (hA b q)
  have baseN : ∀ {b : Addr} {m : Str → Option Value}, s.heap.Ns b m → (hidT s.heap H).Ns b m := by
    rintro b m ⟨o, es, ep, e, d, r⟩
    refine ⟨o, es, ep, hidT_get e (tr fun q => ?_), d, r⟩
    rw [q, ha] at e
    cases e
    cases d
  have baseK : K.In (hidT s.heap H) := by
    intro b o e
    refine hidT_get (KX b o e) (Classical.byContradiction fun q => ?_)
    have ea := hA b q
    subst ea
    rw [hK q] at e
    cases e
  obtain ⟨mc, hc1, hc2⟩ := hlim
  have hM : Mod K mg (hidT s.heap H) := ⟨baseK, baseN hns, ⟨mb, baseN hb, hbb⟩, mc, baseN hc1, hc2⟩
  have e0 : Env0 P w K mg (hidT s.heap H) callerA [] s H := ⟨rfl, hM, (fun b o e => of_hidT e), Nat.le_of_eq (hidT_size _ _), trivial, (fun b z => nomatch z), hok, .of_eq hg⟩
  have main := (F _ baseK (baseN hns)).run callerA [] s H ⟨[.ref a], []⟩ [.ref a] [.ref a] _ _ hr e0 (hbind s (.ref a)) (.cons rfl .nil) (hsp H hO hS)
  refine codeAny_mono main ?_
  intro rs s2 hq
  match rs, hq with
  | .error er, hq => exact (hCX H er s2 hq).elim
  | .ok .next, hq => exact hq.elim
  | .ok .brk, hq => exact hq.elim
  | .ok .cont, hq => exact hq.elim
  | .ok (.ret u), ⟨v, H2, os, bare, un, hok2, rv, q⟩ =>
    have q : v = .bl true := q
    subst q
    have eu : u = Value.bool true := rv
    subst eu
    refine ⟨rfl, OldK.of_keep fun b o e => ?_, os, bare⟩
    cases qb : H b with
    | none => exact un.keep b o e qb (fun z => nomatch z) (fun z => nomatch z)
    | some ob =>
      cases hO b with
      | inl z => rw [z] at qb; cases qb
      | inr z =>
        obtain ⟨o2, xs, z⟩ := z
        have g1 := (hok b _ z).1
        have g2 := (hok2 b _ (un.frzs b o2 _ z)).1
        rw [e] at g1
        cases g1
        exact g2
theorem walk_ofG {l : PySem.W.OpenLaw} {n k : Nat} {q : Program} {loose : List Str} {XP : (Str → Option Value) → Heap → Prop} {YP : World → Heap → Prop} {d : DefRec} {K : Params → PySem.W.Frag} {CX : World → CXT} {sp : World → Sp} {x : Str} (hn : l.most = some n) (hn2 : n ≤ sizeLine) (hdf : d.params.defaults = []) (hr : RoomG k callerA) (hY : ∀ (w : World) (h : Heap), YP w h → (K w.params).In h)
    (F : ∀ (w : World) (mg : Str → Option Value) (fa : Addr) (h : Heap), (K w.params).In h → h.Ns mainGlobals mg → mg d.name = some (.ref fa) → ∃ fd : FuncData, (∀ (s : Shared) (u : Value), BindsTo s fd ⟨[u], []⟩ [(x, u)]) ∧ ∀ base : Heap, (K w.params).In base → base.Ns mainGlobals mg → FnG l.prog w (K w.params) mg base (CX w) k fa fd [x] (sp w))
    (hsp : ∀ (w : World) (H : Hp) (a : Addr) (ns : List Int), ns.length ≤ n → Only H → SqL (K w.params) H a (ns.map V.int) → sp w [.ref a] H (fun v _ => v = .bl true) fun _ _ _ => False) (hCX : ∀ (w : World) (H : Hp) (s : Shared) (e : Value) (s' : Shared), CX w [] H s (fun _ _ _ => False) e s' → False) :
    PySem.W.WalkO q loose XP YP l.row.toRowW d [] (fun f vs => PySem.call f vs) :=
  Att.attach_call hn hdf fun w s₀ s₁ mg mb fa o pm cd doc a vs ns G Y ho hd hcd hmg hobj hints hlen hg => by
    obtain ⟨fd, b1, b2⟩ := F w mg fa _ (hY w _ Y) G.T.g hmg
    exact law_callG (hY w _ Y) G.T.g G.T.b G.T.builtins G.T.nolimit hg hobj hints (Nat.le_trans hlen hn2) hr b2 b1 (fun H h1 h2 => hsp w H a ns hlen h1 h2) (fun H e s' => hCX w H s₁ e s')
end R
namespace R
open PySem PySem.Spec PyProof.Rows L2
/-- the names of a program's functions, classes, attributes, methods -/
structure Cf where
  fnl : List (Option Str)
  cnl : List (Option Str)
  mnl : List Str
  atl : List Str
  ctl : List (Option Str) := []
  /- the errors' classes; the one that bears a problem -/
  xnl : List (Option Str) := []
  rfn : Option Nat := none
def Cf.xs (c : Cf) : List Nat := (List.range c.xnl.length).filter fun j => (c.xnl.getD j none).isSome
def Cf.fnm (c : Cf) (f : Nat) : Option Str := c.fnl.getD f none
def Cf.cnm (c : Cf) (f : Nat) : Option Str := c.cnl.getD f none
def Cf.mnm (c : Cf) (f : Nat) : Str := c.mnl.getD f ""
def Cf.natt (c : Cf) : Nat := c.atl.length
/-- the attributes' names; beyond them such as no text of a program has -/
def attOf (l : List Str) (n : Nat) : Str := l.getD n ⟨#[n + 2000000]⟩
/-- all that stays -/
structure En where
  g : Gm
  cf : Cf
  p : Pg
  c : Calls
  lv : Nat
  P : Program
  base : Heap
abbrev En.w (E : En) : World := E.g.W
def Bt.nm : Bt → Str
  | .len => "len" | .int_ => "int" | .abs_ => "abs" | .min2 => "min" | .max2 => "max" | .min1 => "min" | .max1 => "max"
  | .sum_ => "sum" | .list_ => "list" | .tuple_ => "tuple" | .str_ => "str" | .ord_ => "ord" | .repr_ => "repr" | .any_ => "any" | .sorted_ => "sorted"
def Bt.isTy : Bt → Bool
  | .int_ | .list_ | .tuple_ | .str_ => true
  | _ => false
theorem Bt.boot (b : Bt) : bootBuiltins b.nm = some b.val := by cases b <;> decide +kernel
/-- flat data -/
def FlatV : D → V → Prop
  | .non, v => v = .non
  | .bl b, v => v = .bl b
  | .int i, v => v = .int i
  | .str x, v => v = .str x
  | _, _ => False
inductive FlatVs : List D → List V → Prop where
  | nil : FlatVs [] []
  | cons {d : D} {v : V} {ds : List D} {vs : List V} : FlatV d v → FlatVs ds vs → FlatVs (d :: ds) (v :: vs)
/-- a module's constant -/
def CnOk (K : PySem.W.Frag) : D → Value → Prop
  | .non, u => RelV .non u
  | .bl b, u => RelV (.bl b) u
  | .int i, u => RelV (.int i) u
  | .str x, u => RelV (.str x) u
  | .tup xs, u => ∃ a od its n sl vs, u = .ref a ∧ K.lookup a = some ⟨.type "tuple", od, .seq its n, sl⟩ ∧ od = none ∧ its.size ≤ sizeLine ∧ Vals vs its.toList ∧ FlatVs xs vs
  | .scr xs, u => ∃ a its n vs, u = .ref a ∧ K.lookup a = some { cls := .type "list", data := .seq its n } ∧ its.size ≤ sizeLine ∧ Vals vs its.toList ∧ FlatVs xs vs
  | _, _ => False
theorem FlatV.rv {g : Gm} {w : Wd} {d : D} {v : V} (h : FlatV d v) : Rv g w d v := by
  cases d <;> simp only [FlatV] at h <;> first
    | (subst h; first | exact .non | exact .bl _ | exact .int _ | exact .str _)
    | exact h.elim
theorem FlatVs.rv {g : Gm} {w : Wd} : ∀ {ds : List D} {vs : List V}, FlatVs ds vs → Rvs g w ds vs
  | _, _, .nil => .nil
  | _, _, .cons h r => .cons h.rv r.rv
theorem CnOk.rv {g : Gm} {d : D} {u : Value} (h : CnOk g.K d u) : ∃ v, RelV v u ∧ ∀ w, Rv g w d v := by
  cases d with
  | non => exact ⟨.non, h, fun _ => .non⟩
  | bl b => exact ⟨.bl b, h, fun _ => .bl b⟩
  | int i => exact ⟨.int i, h, fun _ => .int i⟩
  | str x => exact ⟨.str x, h, fun _ => .str x⟩
  | tup xs =>
    obtain ⟨a, od, its, n, sl, vs, rfl, hk, od0, hz, r, f⟩ := h
    exact ⟨.ref a, rfl, fun _ => .tup (.inr ⟨_, its, n, hk, rfl, rfl, hz, r, od0⟩) f.rv⟩
  | scr xs =>
    obtain ⟨a, its, n, vs, rfl, hk, hz, r, f⟩ := h
    exact ⟨.ref a, rfl, fun _ => .scr (.inr ⟨_, its, n, hk, rfl, rfl, rfl, hz, r⟩) f.rv⟩
  | _ => exact h.elim
/-- a def's promise: what R says of it -/
def spR (E : En) (f : Nat) : Sp := fun vs H Q xk => ∃ w m as, Mem E.g w H m ∧ Rvs E.g w as vs ∧ PostE E.g w xk Q (E.c f as m)
structure FnR (E : En) (f : Nat) (fa : Addr) : Prop where
  ok : ∃ (fd : FuncData) (ps : List Str), Binds E.g.K fd ps [] ∧ FnG E.P E.w E.g.K E.g.mg E.base (L2.CX E.P E.w) E.lv fa fd ps (spR E f)
/-- .. where the last ones of its parameters are not given -/
structure FnRD (E : En) (f : Nat) (fa : Addr) (dflt : List D) : Prop where
  ok : ∃ (fd : FuncData) (ps : List Str) (ds : List Value) (vs : List V), Binds E.g.K fd ps ds ∧ Vals vs ds ∧ (∀ w, Rvs E.g w dflt vs) ∧ FnG E.P E.w E.g.K E.g.mg E.base (L2.CX E.P E.w) E.lv fa fd ps (spR E f)
/-- what an error's class says of itself -/
structure XC (K : PySem.W.Frag) (A : Addr) : Prop extends ExcC K A where
  kC : PySem.W.keepIn K (.ref A) = true
  tC : PySem.W.typeIn K (.ref A) = some (.type "type")
  vC : PySem.W.subIn K (.ref A) (.type "ValueError") = some true
  pC : PySem.W.findIn K (.ref A) "problem" = some none
abbrev bmVE : List Value := [.type "ValueError", .type "Exception", .type "BaseException", .type "object"]
/-- X(e): the error that bears what e is -/
def PayMk (X : Cx) (x : Str) (A : Addr) : Prop := ∀ (e : Expr) (te : TE) (p pos : Pos), Gl X x → starEach [e] X.env = [(false, eval e X.env)] → PE X e te →
  PMk X (.Call (.Name x p) [e] [] pos) (fun σ H Q => te σ H fun v H1 => ∀ dd, H1 dd = none → Q (.ref A) (some dd) (upd H1 dd (.xd [("problem", v)])))
def RefOk (E : En) (x : Str) (A : Addr) : Prop := ∀ X : Cx, X.K = E.g.K → X.mg = E.g.mg → X.prog = E.P → X.w = E.g.W → X.base = E.base → RoomG 1 X.A → PayMk X x A
structure Gok (E : En) : Prop where
  exn : ∀ j x, E.cf.xnl[j]? = some (some x) → j ∈ E.g.xs ∧ E.g.mg x = some (.ref (E.g.xad j)) ∧ (x == ("__debug__" : Str)) = false ∧ (j ≠ 1 → PySem.W.excIn E.g.K (E.g.xad j) bmVE "ValueError.__new__" = true)
  exc : ∀ j ∈ E.g.xs, XC E.g.K (E.g.xad j)
  exo : ∀ i j, i ∈ E.g.xs → j ∈ E.g.xs → PySem.W.subIn E.g.K (.ref (E.g.xad i)) (.ref (E.g.xad j)) = some (exSub i j)
  vae : E.g.mg "ValueError" = none
  rfd : ∀ j x, E.cf.rfn = some j → E.cf.xnl[j]? = some (some x) → RefOk E x (E.g.xad j)
  att : E.g.att = attOf E.cf.atl
  inj : ∀ a b, E.g.att a = E.g.att b → a = b
  blt : ∀ b : Bt, E.g.mg b.nm = none
  rng : E.g.mg "range" = none
  zip : E.g.mg "zip" = none
  enum : E.g.mg "enumerate" = none
  isi : E.g.mg "isinstance" = none
  bool : E.g.mg "bool" = none
  dic : E.g.mg "dict" = none
  con : ∀ (i : Nat) (x : Str) (d : D), E.cf.ctl[i]? = some (some x) → E.p.cns[i]? = some d → ∃ u, E.g.mg x = some u ∧ CnOk E.g.K d u
  fn : ∀ f x, E.cf.fnm f = some x → ∃ fa, E.g.mg x = some (.ref fa) ∧ PySem.W.keepIn E.g.K (.ref fa) = true ∧ FnR E f fa
  cls : ∀ C, C < E.g.ncls → Cls E.g.K (E.g.cad C) ∧ ∀ f, f < E.cf.natt → NoAttr E.g.K (E.g.cad C) (E.g.att f)
  ncl : ∀ C cd, E.p.cls[C]? = some cd → C < E.g.ncls
  mth : ∀ C cd k f, E.p.cls[C]? = some cd → cd.meths.lookup k = some f → ∃ fa, Meth E.g.K (E.g.cad C) (E.cf.mnm k) fa ∧ FnR E f fa
  mat : ∀ a k, E.g.att a ≠ E.cf.mnm k
  mkc : ∀ C cd x, E.p.cls[C]? = some cd → E.cf.cnm C = some x → ∃ fa, E.g.mg x = some (.ref (E.g.cad C)) ∧ Mk E.g.K (E.g.cad C) fa ∧ FnR E cd.init fa
  mkd : ∀ C cd x, E.p.cls[C]? = some cd → E.cf.cnm C = some x → ∃ fa, E.g.mg x = some (.ref (E.g.cad C)) ∧ Mk E.g.K (E.g.cad C) fa ∧ FnRD E cd.init fa cd.dflt
structure Qok (E : En) (N : List Str) (sc : Scope) (X : Cx) : Prop where
  K : X.K = E.g.K
  mg : X.mg = E.g.mg
  P : X.prog = E.P
  w : X.w = E.w
  base : X.base = E.base
  Ns : X.N = N
  sc : X.env.scope = sc
  nd : N.Nodup
  uq : X.A.units + 65 < cLine
structure Cok (E : En) (N : List Str) (sc : Scope) (X : Cx) : Prop extends Qok E N sc X where
  room : RoomG (E.lv + 1) X.A
  calm : X.calm = true
variable {E : En} {N : List Str} {sc : Scope} {X : Cx} {W : WX}
theorem Cok.blk (C : Cok E N sc X) {s : Shared} {H : Hp} {scope : Scope} {cl : List (Str × Addr)} {A : Addr} {fp : List Addr} : Cok E N (relS scope sc) (X.blk s H scope (compEnvC scope cl A X.env) fp) :=
  ⟨⟨C.K, C.mg, C.P, C.w, C.base, C.Ns, by rw [← C.sc]; rfl, C.nd, C.uq⟩, C.room, C.calm⟩
abbrev xwOf (W : WX) (σ : L2.St) : XW := fun cls d H => W cls d σ H
def rdOf {α β : Type} (Rl : Wd → α → β → Prop) (E : En) (W : WX) (f : List (Option D) → Mm → Res Mm α) : L2.St → Hp → (β → Hp → Prop) → Prop := fun σ H Q =>
  ∃ w sl m, Mem E.g w H m ∧ Slr E.g w sl σ ∧ Post Rl E.g w (xwOf W σ) Q (f sl m)
abbrev rdE (E : En) (W : WX) (e : ME) : TE := rdOf (Rv E.g) E W (evalE E.p E.c e)
abbrev rdEs (E : En) (W : WX) (es : List ME) : TA := rdOf (Rvs E.g) E W (evalEs E.p E.c es)
abbrev rdO (E : En) (W : WX) (o : Option ME) : TO := rdOf (fun _ (a b : Option Int) => a = b) E W (evalO E.p E.c o)
def evalT (p : Pg) (c : Calls) (e : ME) (sl : List (Option D)) (h : Mm) : Res Mm Bool := (evalE p c e sl h).bind fun x h => match truthD h x with | some b => .ok b h | none => .bad
abbrev rdT (E : En) (W : WX) (e : ME) : TT := rdOf (fun _ (a b : Bool) => a = b) E W (evalT E.p E.c e)
def JE (E : En) (N : List Str) (sc : Scope) (me : ME) (e : Expr) : Prop := ∀ (X : Cx) (W : WX), Cok E N sc X → Takes X W → PE X e (rdE E W me)
def JT (E : En) (N : List Str) (sc : Scope) (me : ME) (e : Expr) : Prop := ∀ (X : Cx) (W : WX), Cok E N sc X → Takes X W → PT X e (rdT E W me)
def JEs (E : En) (N : List Str) (sc : Scope) (me : List ME) (e : List Expr) : Prop := ∀ (X : Cx) (W : WX), Cok E N sc X → Takes X W → PA X e (rdEs E W me)
def JO (E : En) (N : List Str) (sc : Scope) (me : Option ME) (e : Option Expr) : Prop := ∀ (X : Cx) (W : WX), Cok E N sc X → Takes X W → PO X e (rdO E W me)
theorem PE.imp {e : Expr} {t t' : TE} (h : PE X e t) (k : ∀ σ H Q, t' σ H Q → t σ H Q) : PE X e t' := ⟨fun pins s σ H Q I q => h.run pins s σ H Q I (k _ _ _ q)⟩
theorem PT.imp {e : Expr} {t t' : TT} (h : PT X e t) (k : ∀ σ H Q, t' σ H Q → t σ H Q) : PT X e t' := ⟨fun pins s σ H Q I q => h.run pins s σ H Q I (k _ _ _ q)⟩
theorem PA.imp {e : List Expr} {t t' : TA} (h : PA X e t) (k : ∀ σ H Q, t' σ H Q → t σ H Q) : PA X e t' := ⟨fun pos pins s σ H Q I q => h.run pos pins s σ H Q I (k _ _ _ q)⟩
theorem PO.imp {e : Option Expr} {t t' : TO} (h : PO X e t) (k : ∀ σ H Q, t' σ H Q → t σ H Q) : PO X e t' := ⟨fun pins s σ H Q I q => h.run pins s σ H Q I (k _ _ _ q)⟩
/-- the reading of one part, what follows taken up -/
theorem rd_bind {α β γ δ : Type} {Rl : Wd → α → β → Prop} {Rl' : Wd → γ → δ → Prop} {σ : L2.St} {H : Hp} {Q : β → Hp → Prop} {Q' : δ → Hp → Prop} {w : Wd} {sl : List (Option D)} {m : Mm} {r : List (Option D) → Mm → Res Mm γ} {f : γ → Mm → Res Mm α}
    (M : Mem E.g w H m) (S : Slr E.g w sl σ) (h : Post Rl E.g w (xwOf W σ) Q ((r sl m).bind f))
    (k : ∀ d m' w' v H', w.le w' → Mem E.g w' H' m' → Slr E.g w' sl σ → Rl' w' d v → Post Rl E.g w' (xwOf W σ) Q (f d m') → Q' v H') : rdOf Rl' E W r σ H Q' :=
  ⟨w, sl, m, M, S, Post.bind h fun d m' _ w' v H' le M' rv q => k d m' w' v H' le M' (S.mono le) rv q⟩
def notStar : Expr → Bool
  | .Starred _ _ => false
  | _ => true
theorem starEach_of {e : Expr} {es : List Expr} {env : Env} (h : notStar e = true) : starEach (e :: es) env = (false, eval e env) :: starEach es env := by
  cases e <;> first | rfl | cases h
def notStars (es : List Expr) : Bool := es.all notStar
theorem plain_of : ∀ {es : List Expr} {env : Env} {pos : Pos}, notStars es = true → (backTo pos (starEach es env)).any (·.1) = false
  | [], _, _, _ => rfl
  | e :: es, env, pos, h => by
    unfold notStars at h
    rw [List.all_cons, Bool.and_eq_true] at h
    rw [starEach_of h.1]
    show (false || (backTo pos (starEach es env)).any (·.1)) = false
    rw [plain_of (es := es) h.2]; rfl
def notSuper : Expr → Bool
  | .Call (.Name _ _) [] [] _ => false
  | _ => true
theorem base_of {o : Expr} {a : Str} {env : Env} {t : Sem Value} (h : notSuper o = true) : attributeBase o a env t = t := by
  unfold attributeBase
  split
  · cases h
  · rfl
def notComp : Expr → Bool
  | .ListComp _ _ _ _ => false
  | .SetComp _ _ _ _ => false
  | .DictComp _ _ _ _ _ => false
  | _ => true
theorem swaps_of {e : Expr} {t : Option Expr} {l : Nat} {env : Env} (h : notComp e = true) : swapsWith e t l env = pure false := by
  cases e <;> first | rfl | cases h
def plainTest : Expr → Bool
  | .BoolOp _ _ _ => false
  | .Compare _ _ _ _ => false
  | .UnaryOp .Not _ _ => false
  | .IfExp _ _ _ _ => false
  | _ => true
end R
namespace R
open PySem PySem.Spec PyProof.Rows L2
variable {E : En} {N : List Str} {sc : Scope} {a b : ME} {ea eb : Expr} {pos : Pos}
/-- what a name is, in a scope -/
def visB (sc : Scope) (x : Str) : Bool := match sc.names.lookup x with
  | some .local => true | some .cell => true | some .free => true | _ => false
theorem vis_of {sc : Scope} {x : Str} (h : visB sc x = true) : Vis sc x := by
  unfold visB at h
  unfold Vis
  split at h <;> first | (cases h; done) | skip
  · exact .inl (by assumption)
  · exact .inr (.inl (by assumption))
  · exact .inr (.inr (by assumption))
def glB (sc : Scope) (x : Str) : Bool := match sc.names.lookup x with
  | some .globalImplicit => true | _ => false
theorem gl_of {X : Cx} {x : Str} (h : glB X.env.scope x = true) : Gl X x := by
  unfold glB at h
  split at h
  · assumption
  · cases h
def nmOk (x : Str) : Bool := !(x == ("__debug__" : Str)) && !(x == ("__classdict__" : Str))
theorem nmOk_of {x : Str} (h : nmOk x = true) : (x == ("__debug__" : Str)) = false ∧ (x == ("__classdict__" : Str)) = false := by
  unfold nmOk at h
  simpa [Bool.and_eq_true] using h
/-- what needs no calm -/
def JQ (E : En) (N : List Str) (sc : Scope) (me : ME) (e : Expr) : Prop := ∀ (X : Cx) (W : WX), Qok E N sc X → Takes X W → PE X e (rdE E W me)
theorem JQ.je {me : ME} {e : Expr} (h : JQ E N sc me e) : JE E N sc me e := fun X W C tk => h X W C.toQok tk
theorem jq_var {i : Nat} {x : Str} (h1 : N[i]? = some x) (h2 : visB sc x = true) (h3 : nmOk x = true) : JQ E N sc (.var i) (.Name x pos) := fun X W C tk => by
  refine PE.imp (pe_var (X := X) (i := i) (by rw [C.Ns]; exact h1) (by rw [C.sc]; exact vis_of h2) (nmOk_of h3).1 (nmOk_of h3).2) fun σ H Q h => ?_
  obtain ⟨w, sl, m, M, S, h⟩ := h
  unfold evalE at h
  split at h
  · rename_i d e
    obtain ⟨v, hv, r⟩ := S.at_ i d e
    exact ⟨v, hv, ok_same h M r⟩
  · exact absurd h id
theorem je_var {i : Nat} {x : Str} (h1 : N[i]? = some x) (h2 : visB sc x = true) (h3 : nmOk x = true) : JE E N sc (.var i) (.Name x pos) := (jq_var h1 h2 h3).je
theorem jq_non {k : Nat} : JQ E N sc (.lit .non) (.Constant .none k pos) := fun X W C tk => PE.imp pe_non fun σ H Q ⟨w, sl, m, M, S, h⟩ => by
  unfold evalE at h
  exact ok_same h M .non
theorem jq_bl {k : Nat} {b : Bool} : JQ E N sc (.lit (.bl b)) (.Constant (.bool b) k pos) := fun X W C tk => PE.imp pe_bl fun σ H Q ⟨w, sl, m, M, S, h⟩ => by
  unfold evalE at h
  exact ok_same h M (.bl b)
theorem jq_int {k : Nat} {i : Int} : JQ E N sc (.lit (.int i)) (.Constant (.int i) k pos) := fun X W C tk => PE.imp pe_int fun σ H Q ⟨w, sl, m, M, S, h⟩ => by
  unfold evalE at h
  exact ok_same h M (.int i)
theorem jq_str {k : Nat} {x : Str} : JQ E N sc (.lit (.str x)) (.Constant (.str x) k pos) := fun X W C tk => PE.imp pe_str fun σ H Q ⟨w, sl, m, M, S, h⟩ => by
  unfold evalE at h
  exact ok_same h M (.str x)
theorem je_non {k : Nat} : JE E N sc (.lit .non) (.Constant .none k pos) := jq_non.je
theorem je_bl {k : Nat} {b : Bool} : JE E N sc (.lit (.bl b)) (.Constant (.bool b) k pos) := jq_bl.je
theorem je_int {k : Nat} {i : Int} : JE E N sc (.lit (.int i)) (.Constant (.int i) k pos) := jq_int.je
theorem je_str {k : Nat} {x : Str} : JE E N sc (.lit (.str x)) (.Constant (.str x) k pos) := jq_str.je
theorem je_bin (ha : JE E N sc a ea) (hb : JE E N sc b eb) (o : Op) (obj : Bool) : JE E N sc (.bin o obj a b) (.BinOp ea o.py eb pos) := fun X W C tk => by
  refine PE.imp (pe_op (op_bin (g := E.g) C.K o obj) (ha X W C tk) (hb X W C tk)) fun σ H Q h => ?_
  obtain ⟨w, sl, m, M, S, h⟩ := h
  unfold evalE at h
  refine rd_bind M S h fun d m1 w1 v H1 le1 M1 S1 r1 h1 => ?_
  refine rd_bind M1 S1 h1 fun e m2 w2 u H2 le2 M2 S2 r2 h2 => ?_
  exact ⟨w2, m2, d, e, _, M2, r1.mono le2, r2, h2⟩
theorem je_neg (ha : JE E N sc a ea) : JE E N sc (.neg a) (.UnaryOp .USub ea pos) := fun X W C tk => by
  refine PE.imp (pe_un un_neg (ha X W C tk)) fun σ H Q h => ?_
  obtain ⟨w, sl, m, M, S, h⟩ := h
  unfold evalE at h
  refine rd_bind M S h fun d m1 w1 v H1 le1 M1 S1 r1 h1 => ?_
  split at h1
  · cases r1
    exact ⟨_, rfl, ok_same h1 M1 (.int _)⟩
  · exact absurd h1 id
theorem cmp_pe {X : Cx} {W : WX} (C : Qok E N sc X) (ha : PE X ea (rdE E W a)) (hb : PE X eb (rdE E W b)) (c : Cm) : PE X (.Compare ea [c.py] [eb] pos) (rdE E W (.cmp c a b)) := by
  have hu : X.A.units + 64 < cLine := by have := C.uq; omega
  have hm : behindInMarks c.py eb = false := by
    cases c <;> exact nomark _ (by decide) (by decide)
  refine PE.imp (pe_cmpR (op_cmp (g := E.g) hu C.K c) ha hb hm) fun σ H Q h => ?_
  obtain ⟨w, sl, m, M, S, h⟩ := h
  unfold evalE at h
  refine rd_bind M S h fun d m1 w1 v H1 le1 M1 S1 r1 h1 => ?_
  refine rd_bind M1 S1 h1 fun e m2 w2 u H2 le2 M2 S2 r2 h2 => ?_
  split at h2
  · rename_i k ek
    exact ⟨w2, m2, d, e, k, M2, r1.mono le2, r2, ek, ok_same h2 M2 (.bl k)⟩
  · exact absurd h2 id
theorem je_cmp (ha : JE E N sc a ea) (hb : JE E N sc b eb) (c : Cm) : JE E N sc (.cmp c a b) (.Compare ea [c.py] [eb] pos) := fun X W C tk => cmp_pe C.toQok (ha X W C tk) (hb X W C tk) c
theorem jq_cmp (ha : JQ E N sc a ea) (hb : JQ E N sc b eb) (c : Cm) : JQ E N sc (.cmp c a b) (.Compare ea [c.py] [eb] pos) := fun X W C tk => cmp_pe C (ha X W C tk) (hb X W C tk) c
theorem jt_cmp (ha : JE E N sc a ea) (hb : JE E N sc b eb) (c : Cm) : JT E N sc (.cmp c a b) (.Compare ea [c.py] [eb] pos) := fun X W C tk => by
  have hu : X.A.units + 64 < cLine := C.room.units
  have hm : behindInMarks c.py eb = false := by
    cases c <;> exact nomark _ (by decide) (by decide)
  refine PT.imp (pt_cmpR (op_cmp (g := E.g) hu C.K c) (ha X W C tk) (hb X W C tk) hm) fun σ H Q h => ?_
  obtain ⟨w, sl, m, M, S, h⟩ := h
  have h : Post _ _ _ _ _ ((evalE E.p E.c (.cmp c a b) sl m).bind _) := h
  unfold evalE at h
  cases q1 : evalE E.p E.c a sl m with
  | bad => rw [q1] at h; exact absurd h id
  | exn C p m1 =>
    rw [q1] at h
    exact ⟨w, sl, m, M, S, by rw [q1]; exact h⟩
  | ok d m1 =>
    rw [q1] at h
    refine ⟨w, sl, m, M, S, ?_⟩
    rw [q1]
    intro w1 v H1 le1 M1 r1
    cases q2 : evalE E.p E.c b sl m1 with
    | bad => rw [Res.bind_ok, q2] at h; exact absurd h id
    | exn C p m2 =>
      rw [Res.bind_ok, q2] at h
      exact ⟨w1, sl, m1, M1, S.mono le1, by rw [q2]; exact Post.mono le1 h⟩
    | ok e m2 =>
      rw [Res.bind_ok, q2, Res.bind_ok] at h
      refine ⟨w1, sl, m1, M1, S.mono le1, ?_⟩
      rw [q2]
      intro w2 u H2 le2 M2 r2
      cases q3 : cmpD c m2 d e with
      | none => rw [q3] at h; exact absurd h id
      | some k =>
        rw [q3] at h
        exact ⟨w2, m2, d, e, k, M2, r1.mono le2, r2, q3, k, rfl, h w2 k H2 (le1.trans le2) M2 rfl⟩
theorem je_isn (ha : JE E N sc a ea) {k : Nat} {p : Pos} : JE E N sc (.isn false a) (.Compare ea [.Is] [.Constant .none k p] pos) := fun X W C tk => by
  refine PE.imp (pe_cmp (pc_isN (ha X W C tk)) rfl) fun σ H Q h => ?_
  obtain ⟨w, sl, m, M, S, h⟩ := h
  unfold evalE at h
  refine rd_bind M S h fun d m1 w1 v H1 le1 M1 S1 r1 h1 => ?_
  cases r1 <;> exact ok_same h1 M1 (.bl _)
theorem je_isnn (ha : JE E N sc a ea) {k : Nat} {p : Pos} : JE E N sc (.isn true a) (.Compare ea [.IsNot] [.Constant .none k p] pos) := fun X W C tk => by
  refine PE.imp (pe_cmp (pc_notN (ha X W C tk)) rfl) fun σ H Q h => ?_
  obtain ⟨w, sl, m, M, S, h⟩ := h
  unfold evalE at h
  refine rd_bind M S h fun d m1 w1 v H1 le1 M1 S1 r1 h1 => ?_
  cases r1 <;> exact ok_same h1 M1 (.bl _)
theorem jt_of_bl (h : ∀ X W, Cok E N sc X → Takes X W → PT X ea (fun σ H Q => rdE E W a σ H fun x H1 => ∃ k, x = .bl k ∧ Q k H1)) (hb : ∀ sl m d m1, evalE E.p E.c a sl m = .ok d m1 → ∃ k, d = .bl k) : JT E N sc a ea := fun X W C tk => by
  refine PT.imp (h X W C tk) fun σ H Q h => ?_
  obtain ⟨w, sl, m, M, S, h⟩ := h
  have h : Post _ _ _ _ _ ((evalE E.p E.c a sl m).bind _) := h
  refine ⟨w, sl, m, M, S, ?_⟩
  cases q1 : evalE E.p E.c a sl m with
  | bad => rw [q1] at h; exact absurd h id
  | exn C p m1 => rw [q1] at h; exact h
  | ok d m1 =>
    rw [q1] at h
    intro w1 v H1 le1 M1 r1
    obtain ⟨k, rfl⟩ := hb sl m d m1 q1
    cases r1
    exact ⟨k, rfl, h w1 k H1 le1 M1 rfl⟩
theorem isn_bl {ng : Bool} : ∀ sl m d m1, evalE E.p E.c (.isn ng a) sl m = .ok d m1 → ∃ k, d = .bl k := fun sl m d m1 h => by
  unfold evalE at h
  cases q : evalE E.p E.c a sl m with
  | bad => rw [q] at h; cases h
  | exn C p m1 => rw [q] at h; cases h
  | ok x m1 =>
    rw [q, Res.bind_ok] at h
    split at h <;> (cases h; exact ⟨_, rfl⟩)
theorem jt_isn (ha : JE E N sc a ea) {k : Nat} {p : Pos} : JT E N sc (.isn false a) (.Compare ea [.Is] [.Constant .none k p] pos) :=
  jt_of_bl (fun X W C tk => PT.imp (pt_cmp (pc_isN (ha X W C tk)) rfl) fun σ H Q h => by
    obtain ⟨w, sl, m, M, S, h⟩ := h
    unfold evalE at h
    refine rd_bind M S h fun d m1 w1 v H1 le1 M1 S1 r1 h1 => ?_
    cases r1 <;> exact ok_same (Q := fun x H1 => ∃ k, x = .bl k ∧ Q k H1) h1 M1 (.bl _)) isn_bl
theorem jt_isnn (ha : JE E N sc a ea) {k : Nat} {p : Pos} : JT E N sc (.isn true a) (.Compare ea [.IsNot] [.Constant .none k p] pos) :=
  jt_of_bl (fun X W C tk => PT.imp (pt_cmp (pc_notN (ha X W C tk)) rfl) fun σ H Q h => by
    obtain ⟨w, sl, m, M, S, h⟩ := h
    unfold evalE at h
    refine rd_bind M S h fun d m1 w1 v H1 le1 M1 S1 r1 h1 => ?_
    cases r1 <;> exact ok_same (Q := fun x H1 => ∃ k, x = .bl k ∧ Q k H1) h1 M1 (.bl _)) isn_bl
/-- a test by its value's truth -/
theorem plain_isTrue {e : Expr} {env : Env} (h : plainTest e = true) : ∀ whole, isTrue e env whole = (do let v ← whole; standAt e.pos; holding [v] (truthy v)) := by
  intro whole
  cases e with
  | UnaryOp op x p => cases op <;> first | rfl | cases h
  | _ => first | rfl | cases h
theorem jt_val (ha : JE E N sc a ea) (h : plainTest ea = true) : JT E N sc a ea := fun X W C tk => by
  refine PT.imp (pt_truth (ha X W C tk) (plain_isTrue h)) fun σ H Q h => ?_
  obtain ⟨w, sl, m, M, S, h⟩ := h
  refine rd_bind (f := fun x h => match truthD h x with | some b => .ok b h | none => .bad) M S h fun d m1 w1 v H1 le1 M1 S1 r1 h1 => ?_
  split at h1
  · rename_i b e
    exact ⟨b, by rw [C.K]; exact truthD_rel M1 r1 e, h1 w1 b H1 (Wd.le.refl _) M1 rfl⟩
  · exact absurd h1 id
/-- not, and, or -/
theorem not_pe {X : Cx} {W : WX} (C : Qok E N sc X) (ha : PE X ea (rdE E W a)) : PE X (.UnaryOp .Not ea pos) (rdE E W (.not_ a)) := by
  refine PE.imp (pe_notT ha) fun σ H Q h => ?_
  obtain ⟨w, sl, m, M, S, h⟩ := h
  unfold evalE at h
  refine rd_bind M S h fun d m1 w1 v H1 le1 M1 S1 r1 h1 => ?_
  split at h1
  · rename_i b e
    exact ⟨b, by rw [C.K]; exact truthD_rel M1 r1 e, ok_same h1 M1 (.bl _)⟩
  · exact absurd h1 id
theorem je_not (ha : JE E N sc a ea) : JE E N sc (.not_ a) (.UnaryOp .Not ea pos) := fun X W C tk => not_pe C.toQok (ha X W C tk)
theorem jq_not (ha : JQ E N sc a ea) : JQ E N sc (.not_ a) (.UnaryOp .Not ea pos) := fun X W C tk => not_pe C (ha X W C tk)
theorem jt_not (ha : JT E N sc a ea) : JT E N sc (.not_ a) (.UnaryOp .Not ea pos) := fun X W C tk => by
  refine PT.imp (pt_not (ha X W C tk)) fun σ H Q h => ?_
  obtain ⟨w, sl, m, M, S, h⟩ := h
  have h : Post _ _ _ _ _ ((evalE E.p E.c (.not_ a) sl m).bind _) := h
  unfold evalE at h
  refine ⟨w, sl, m, M, S, ?_⟩
  show Post _ _ _ _ _ (evalT E.p E.c a sl m)
  unfold evalT
  cases q1 : evalE E.p E.c a sl m with
  | bad => rw [q1] at h; exact absurd h id
  | exn C p m1 => rw [q1] at h; exact h
  | ok d m1 =>
    rw [q1, Res.bind_ok] at h
    rw [Res.bind_ok]
    cases q2 : truthD m1 d with
    | none => rw [q2] at h; exact absurd h id
    | some b =>
      rw [q2] at h
      intro w1 v H1 le1 M1 r1
      subst r1
      exact h w1 (!b) H1 le1 M1 rfl
abbrev boOp : Bool → BoolOp
  | true => .And | false => .Or
theorem je_bop1 {conj : Bool} (ha : JE E N sc a ea) : JE E N sc (.bop conj [a]) (.BoolOp (boOp conj) [ea] pos) := fun X W C tk => by
  refine PE.imp (pe_one (ha X W C tk)) fun σ H Q h => ?_
  obtain ⟨w, sl, m, M, S, h⟩ := h
  refine ⟨w, sl, m, M, S, ?_⟩
  unfold evalE evalB at h
  exact h
theorem je_bop {conj : Bool} {b : ME} {es : List ME} {eb : Expr} {ees : List Expr} (ha : JE E N sc a ea) (hb : JE E N sc (.bop conj (b :: es)) (.BoolOp (boOp conj) (eb :: ees) pos)) :
    JE E N sc (.bop conj (a :: b :: es)) (.BoolOp (boOp conj) (ea :: eb :: ees) pos) := fun X W C tk => by
  have core : ∀ (σ : L2.St) (H : Hp) (Q : VK), rdE E W (.bop conj (a :: b :: es)) σ H Q → rdE E W a σ H fun x H1 => ∃ k, TruV X.K x H1 k ∧ if k = conj then rdE E W (.bop conj (b :: es)) σ H1 Q else Q x H1 := by
    intro σ H Q h
    obtain ⟨w, sl, m, M, S, h⟩ := h
    unfold evalE evalB at h
    refine rd_bind M S h fun d m1 w1 v H1 le1 M1 S1 r1 h1 => ?_
    split at h1
    · rename_i k e
      refine ⟨k, by rw [C.K]; exact truthD_rel M1 r1 e, ?_⟩
      by_cases hk : k = conj
      · rw [if_pos hk] at h1 ⊢
        exact ⟨w1, sl, m1, M1, S1, by unfold evalE; exact h1⟩
      · rw [if_neg hk] at h1 ⊢
        exact ok_same h1 M1 r1
    · exact absurd h1 id
  have up : ∀ (σ : L2.St) (H : Hp) (Q Q' : VK), (∀ v H, Q v H → Q' v H) → rdE E W a σ H Q → rdE E W a σ H Q' := fun σ H Q Q' k ⟨w, sl, m, M, S, h⟩ => ⟨w, sl, m, M, S, Post.imp k h⟩
  cases conj with
  | true =>
    refine PE.imp (pe_andT (ha X W C tk) (hb X W C tk)) fun σ H Q h => up σ H _ _ (fun v H1 ⟨k, t, q⟩ => ⟨k, t, q⟩) (core σ H Q h)
  | false =>
    refine PE.imp (pe_orT (ha X W C tk) (hb X W C tk)) fun σ H Q h => up σ H _ _ (fun v H1 ⟨k, t, q⟩ => ⟨k, t, ?_⟩) (core σ H Q h)
    cases k with
    | true => exact q
    | false => exact q
theorem jt_bop1 {conj : Bool} (ha : JT E N sc a ea) : ∀ X W, Cok E N sc X → Takes X W → PW X (.BoolOp (boOp conj) [ea] pos) (rdT E W (.bop conj [a])) := fun X W C tk => by
  have up : ∀ (σ : L2.St) (H : Hp) (Q : Bool → Hp → Prop), rdT E W (.bop conj [a]) σ H Q → rdT E W a σ H Q := fun σ H Q ⟨w, sl, m, M, S, h⟩ => ⟨w, sl, m, M, S, by
    unfold evalT at h ⊢
    unfold evalE evalB at h
    exact h⟩
  cases conj with
  | true => exact ⟨fun wh pins s σ H Q I h => (pw_and1 (ha X W C tk)).run wh pins s σ H Q I (up σ H Q h)⟩
  | false => exact ⟨fun wh pins s σ H Q I h => (pw_or1 (ha X W C tk)).run wh pins s σ H Q I (up σ H Q h)⟩
theorem jt_bop {conj : Bool} {b : ME} {es : List ME} {eb : Expr} {ees : List Expr} (ha : JT E N sc a ea) (hb : ∀ X W, Cok E N sc X → Takes X W → PW X (.BoolOp (boOp conj) (eb :: ees) pos) (rdT E W (.bop conj (b :: es)))) :
    ∀ X W, Cok E N sc X → Takes X W → PW X (.BoolOp (boOp conj) (ea :: eb :: ees) pos) (rdT E W (.bop conj (a :: b :: es))) := fun X W C tk => by
  have core : ∀ (σ : L2.St) (H : Hp) (Q : Bool → Hp → Prop), rdT E W (.bop conj (a :: b :: es)) σ H Q → rdT E W a σ H fun k H1 => if k = conj then rdT E W (.bop conj (b :: es)) σ H1 Q else Q k H1 := by
    intro σ H Q h
    obtain ⟨w, sl, m, M, S, h⟩ := h
    refine ⟨w, sl, m, M, S, ?_⟩
    have h : Post _ _ _ _ _ ((evalE E.p E.c (.bop conj (a :: b :: es)) sl m).bind _) := h
    unfold evalE evalB at h
    show Post _ _ _ _ _ (evalT E.p E.c a sl m)
    unfold evalT
    cases q1 : evalE E.p E.c a sl m with
    | bad => rw [q1] at h; exact absurd h id
    | exn C p m1 => rw [q1] at h; exact h
    | ok d m1 =>
      rw [q1, Res.bind_ok] at h
      rw [Res.bind_ok]
      cases q2 : truthD m1 d with
      | none => rw [q2] at h; exact absurd h id
      | some k =>
        rw [q2] at h
        intro w1 v H1 le1 M1 r1
        subst r1
        dsimp only at h
        by_cases hk : k = conj
        · rw [if_pos hk] at h ⊢
          refine ⟨w1, sl, m1, M1, S.mono le1, Post.mono le1 ?_⟩
          unfold evalT evalE
          exact h
        · rw [if_neg hk, Res.bind_ok, q2] at h
          rw [if_neg hk]
          exact h w1 k H1 le1 M1 rfl
  have up : ∀ (σ : L2.St) (H : Hp) (Q Q' : Bool → Hp → Prop), (∀ v H, Q v H → Q' v H) → rdT E W a σ H Q → rdT E W a σ H Q' := fun σ H Q Q' k ⟨w, sl, m, M, S, h⟩ => ⟨w, sl, m, M, S, Post.imp k h⟩
  cases conj with
  | true => exact ⟨fun wh pins s σ H Q I h => (pw_and (ha X W C tk) (hb X W C tk)).run wh pins s σ H Q I (up σ H _ _ (fun k H1 q => by cases k <;> exact q) (core σ H Q h))⟩
  | false => exact ⟨fun wh pins s σ H Q I h => (pw_or (ha X W C tk) (hb X W C tk)).run wh pins s σ H Q I (up σ H _ _ (fun k H1 q => by cases k <;> exact q) (core σ H Q h))⟩
theorem je_ife {k : ME} {ek : Expr} (hk : JT E N sc k ek) (ha : JE E N sc a ea) (hb : JE E N sc b eb) : JE E N sc (.ife k a b) (.IfExp ek ea eb pos) := fun X W C tk => by
  refine PE.imp (pe_ifExp (hk X W C tk) (ha X W C tk) (hb X W C tk)) fun σ H Q h => ?_
  obtain ⟨w, sl, m, M, S, h⟩ := h
  unfold evalE at h
  refine ⟨w, sl, m, M, S, ?_⟩
  show Post _ _ _ _ _ (evalT E.p E.c k sl m)
  unfold evalT
  cases q1 : evalE E.p E.c k sl m with
  | bad => rw [q1] at h; exact absurd h id
  | exn C p m1 => rw [q1] at h; exact h
  | ok d m1 =>
    rw [q1, Res.bind_ok] at h
    rw [Res.bind_ok]
    cases q2 : truthD m1 d with
    | none => rw [q2] at h; exact absurd h id
    | some t =>
      rw [q2] at h
      intro w1 v H1 le1 M1 r1
      subst r1
      cases t with
      | true => exact ⟨w1, sl, m1, M1, S.mono le1, Post.mono le1 h⟩
      | false => exact ⟨w1, sl, m1, M1, S.mono le1, Post.mono le1 h⟩
theorem jes_nil : JEs E N sc [] [] := fun X W C tk => PA.imp pa_nil fun σ H Q ⟨w, sl, m, M, S, h⟩ => by
  unfold evalEs at h
  exact h w [] H (Wd.le.refl _) M .nil
theorem jes_cons {es : List ME} {ees : List Expr} (ha : JE E N sc a ea) (hs : notStar ea = true) (hr : JEs E N sc es ees) : JEs E N sc (a :: es) (ea :: ees) := fun X W C tk => by
  refine PA.imp (pa_cons (ha X W C tk) (hr X W C tk) (starEach_of hs)) fun σ H Q h => ?_
  obtain ⟨w, sl, m, M, S, h⟩ := h
  unfold evalEs at h
  refine rd_bind M S h fun d m1 w1 v H1 le1 M1 S1 r1 h1 => ?_
  refine rd_bind M1 S1 h1 fun ds m2 w2 vs H2 le2 M2 S2 r2 h2 => ?_
  exact h2 w2 _ H2 (Wd.le.refl _) M2 (.cons (r1.mono le2) r2)
theorem je_tup {es : List ME} {ees : List Expr} {k : Nat} (h : JEs E N sc es ees) : JE E N sc (.tup es) (.Tuple ees k pos) := fun X W C tk => by
  refine PE.imp (pe_tupS (h X W C tk)) fun σ H Q h => ?_
  obtain ⟨w, sl, m, M, S, h⟩ := h
  unfold evalE at h
  refine rd_bind M S h fun ds m1 w1 vs H1 le1 M1 S1 r1 h1 => ?_
  exact mkT_post h1 M1 r1
theorem je_lst {es : List ME} {ees : List Expr} {obj : Bool} (h : JEs E N sc es ees) : JE E N sc (.lst obj es) (.List ees pos) := fun X W C tk => by
  refine PE.imp (pe_lst (h X W C tk)) fun σ H Q h => ?_
  obtain ⟨w, sl, m, M, S, h⟩ := h
  unfold evalE at h
  refine rd_bind M S h fun ds m1 w1 vs H1 le1 M1 S1 r1 h1 => ?_
  exact mkL_post h1 M1 r1
def plainIxB : Expr → Bool
  | .Slice _ _ _ _ => false
  | .Tuple _ _ _ => false
  | _ => true
theorem plainIx_of {e : Expr} (h : plainIxB e = true) : PlainIx e := by
  intro o i
  cases e <;> first | rfl | cases h
def noSlB : Expr → Bool
  | .Name _ _ => true
  | .Constant _ _ _ => true
  | .Subscript _ _ _ => true
  | .BinOp _ _ _ _ => true
  | .Call _ _ _ _ => true
  | .Attribute _ _ _ => true
  | .Tuple _ _ _ => true
  | _ => false
theorem noSl_of {e : Expr} (h : noSlB e = true) : NoSl e := by
  cases e <;> first | (cases h; done) | exact fun _ _ => rfl
theorem idx_pe {X : Cx} {W : WX} (C : Qok E N sc X) (ha : PE X ea (rdE E W a)) (hb : PE X eb (rdE E W b)) (hp : plainIxB eb = true) : PE X (.Subscript ea eb pos) (rdE E W (.idx a b)) := by
  refine PE.imp (pe_ix (ix_idx (g := E.g) (by have := C.uq; omega) C.K C.w) ha hb (plainIx_of hp)) fun σ H Q h => ?_
  obtain ⟨w, sl, m, M, S, h⟩ := h
  unfold evalE at h
  refine rd_bind M S h fun d m1 w1 v H1 le1 M1 S1 r1 h1 => ?_
  refine rd_bind M1 S1 h1 fun e m2 w2 u H2 le2 M2 S2 r2 h2 => ?_
  split at h2
  · rename_i x ex
    exact ⟨w2, m2, d, e, x, M2, r1.mono le2, r2, ex, fun v' rv => ok_same h2 M2 rv⟩
  · exact absurd h2 id
theorem je_idx (ha : JE E N sc a ea) (hb : JE E N sc b eb) (hp : plainIxB eb = true) : JE E N sc (.idx a b) (.Subscript ea eb pos) := fun X W C tk => idx_pe C.toQok (ha X W C tk) (hb X W C tk) hp
theorem jq_idx (ha : JQ E N sc a ea) (hb : JQ E N sc b eb) (hp : plainIxB eb = true) : JQ E N sc (.idx a b) (.Subscript ea eb pos) := fun X W C tk => idx_pe C (ha X W C tk) (hb X W C tk) hp
theorem jo_none : JO E N sc none none := fun X W C tk => PO.imp po_none fun σ H Q ⟨w, sl, m, M, S, h⟩ => by
  unfold evalO at h
  exact h w none H (Wd.le.refl _) M rfl
theorem jo_some (ha : JE E N sc a ea) : JO E N sc (some a) (some ea) := fun X W C tk => PO.imp (po_some (ha X W C tk)) fun σ H Q ⟨w, sl, m, M, S, h⟩ => by
  unfold evalO at h
  refine rd_bind M S h fun d m1 w1 v H1 le1 M1 S1 r1 h1 => ?_
  split at h1
  · cases r1
    exact ⟨_, rfl, h1 w1 (some _) H1 (Wd.le.refl _) M1 rfl⟩
  · exact absurd h1 id
theorem je_slc {lo hi : Option ME} {elo ehi : Option Expr} {obj : Bool} {p2 : Pos} (ha : JE E N sc a ea) (hl : JO E N sc lo elo) (hh : JO E N sc hi ehi) : JE E N sc (.slc obj a lo hi) (.Subscript ea (.Slice elo ehi none p2) pos) := fun X W C tk => by
  refine PE.imp (pe_slice (sl_slc (g := E.g) C.K obj) (ha X W C tk) (hl X W C tk) (hh X W C tk)) fun σ H Q h => ?_
  obtain ⟨w, sl, m, M, S, h⟩ := h
  unfold evalE at h
  refine rd_bind M S h fun d m1 w1 v H1 le1 M1 S1 r1 h1 => ?_
  refine rd_bind (Rl' := fun _ (a b : Option Int) => a = b) M1 S1 h1 fun l m2 w2 l' H2 le2 M2 S2 r2 h2 => ?_
  refine rd_bind (Rl' := fun _ (a b : Option Int) => a = b) M2 S2 h2 fun u m3 w3 u' H3 le3 M3 S3 r3 h3 => ?_
  subst r2
  subst r3
  exact ⟨w3, m3, d, _, M3, r1.mono (le2.trans le3), h3⟩
theorem je_rev {obj : Bool} {k : Nat} {p1 p2 p3 : Pos} (ha : JE E N sc a ea) : JE E N sc (.rev obj a) (.Subscript ea (.Slice none none (some (.UnaryOp .USub (.Constant (.int 1) k p1) p2)) p3) pos) := fun X W C tk => by
  refine PE.imp (pe_revL (ha X W C tk)) fun σ H Q h => ?_
  obtain ⟨w, sl, m, M, S, h⟩ := h
  unfold evalE at h
  refine rd_bind M S h fun d m1 w1 v H1 le1 M1 S1 r1 h1 => ?_
  split at h1
  · rename_i xs ex
    obtain ⟨p, vs, rfl, hq, rs⟩ := lstOf_rel M1 r1 ex
    exact ⟨p, vs, rfl, by rw [C.K]; exact hq, (mkL_post h1 M1 rs.reverse).2⟩
  · exact absurd h1 id
theorem memB_bl {ng : Bool} {sl : List (Option D)} {m : Mm} {d : D} {m1 : Mm} (h : evalE E.p E.c (.mem ng a b) sl m = .ok d m1) : ∃ k, d = .bl k := by
  unfold evalE at h
  cases q : evalE E.p E.c a sl m with
  | bad => rw [q] at h; cases h
  | exn C p m1 => rw [q] at h; cases h
  | ok x m2 =>
    rw [q, Res.bind_ok] at h
    cases q2 : evalE E.p E.c b sl m2 with
    | bad => rw [q2] at h; cases h
    | exn C p m1 => rw [q2] at h; cases h
    | ok y m3 =>
      rw [q2, Res.bind_ok] at h
      split at h
      · cases h; exact ⟨_, rfl⟩
      · cases h
theorem mem_rd {ng : Bool} {W : WX} {σ : L2.St} {H : Hp} {Q : VK} (h : rdE E W (.mem ng a b) σ H Q) : tOp (rMem E.g ng) (rdE E W a) (rdE E W b) σ H Q := by
  obtain ⟨w, sl, m, M, S, h⟩ := h
  unfold evalE at h
  refine rd_bind M S h fun d m1 w1 v H1 le1 M1 S1 r1 h1 => ?_
  refine rd_bind M1 S1 h1 fun e m2 w2 u H2 le2 M2 S2 r2 h2 => ?_
  split at h2
  · rename_i k ek
    exact ⟨w2, m2, d, e, k, M2, r1.mono le2, r2, ek, ok_same h2 M2 (.bl _)⟩
  · exact absurd h2 id
/-- what is no mark of texts or sets behind in -/
def inOk (ng : Bool) (e : Expr) : Bool := !behindInMarks (memOp ng) e
theorem je_mem {ng : Bool} (ha : JE E N sc a ea) (hb : JE E N sc b eb) (hi : inOk ng eb = true) : JE E N sc (.mem ng a b) (.Compare ea [memOp ng] [eb] pos) := fun X W C tk =>
  PE.imp (pe_cmpR (op_mem (g := E.g) (by have := C.room.un; omega) C.K C.w ng) (ha X W C tk) (hb X W C tk) (by unfold inOk at hi; simpa using hi)) fun σ H Q h => mem_rd h
theorem jt_mem {ng : Bool} (ha : JE E N sc a ea) (hb : JE E N sc b eb) (hi : inOk ng eb = true) : JT E N sc (.mem ng a b) (.Compare ea [memOp ng] [eb] pos) :=
  jt_of_bl (fun X W C tk => PT.imp (pt_cmpR (op_mem (g := E.g) (by have := C.room.un; omega) C.K C.w ng) (ha X W C tk) (hb X W C tk) (by unfold inOk at hi; simpa using hi)) fun σ H Q h => mem_rd h) fun _ _ _ _ h => memB_bl h
end R
namespace R
open PySem PySem.Spec PyProof.Rows L2
variable {E : En} {N : List Str} {sc : Scope} {a b : ME} {ea eb : Expr} {pos : Pos}
theorem Cok.fn {X : Cx} (C : Cok E N sc X) {f : Nat} {fa : Addr} (h : FnR E f fa) :
    ∃ (fd : FuncData) (ps : List Str), Binds X.K fd ps [] ∧ FnG X.prog X.w X.K X.mg X.base (L2.CX X.prog X.w) E.lv fa fd ps (spR E f) := by
  obtain ⟨fd, ps, hb, F⟩ := h.ok
  refine ⟨fd, ps, by rw [C.K]; exact hb, ?_⟩
  rw [C.P, C.w, C.K, C.mg, C.base]
  exact F
theorem Cok.gl {X : Cx} (C : Cok E N sc X) {x : Str} (h : glB sc x = true) : Gl X x := gl_of (by rw [C.sc]; exact h)
theorem je_call (G : Gok E) {f : Nat} {x : Str} {p : Pos} {es : List ME} {e0 : Expr} {ees : List Expr} (hf : E.cf.fnm f = some x) (hg : glB sc x = true) (hn : nmOk x = true) (hs : notStars (e0 :: ees) = true) (h : JEs E N sc es (e0 :: ees)) :
    JE E N sc (.call f es) (.Call (.Name x p) (e0 :: ees) [] pos) := fun X W C tk => by
  obtain ⟨fa, hm, hk, hF⟩ := G.fn f x hf
  obtain ⟨fd, ps, hb, F⟩ := C.fn hF
  have hs2 : notStar e0 = true ∧ notStars ees = true := by
    unfold notStars at hs ⊢
    simpa [List.all_cons, Bool.and_eq_true] using hs
  refine PE.imp (pe_callG (E := fun σ => xwOf W σ) F (C.room.mono (Nat.le_succ _)) (C.gl hg) (by rw [C.mg]; exact hm) (by rw [C.K]; exact hk) hb (fun σ => passAt tk σ) (h X W C tk) (nmOk_of hn).1 (starEach_of hs2.1) (plain_of hs2.2)) fun σ H Q h => ?_
  obtain ⟨w, sl, m, M, S, h⟩ := h
  unfold evalE at h
  exact rd_bind M S h fun ds m1 w1 vs H1 le1 M1 S1 r1 h1 => ⟨w1, m1, ds, M1, r1, h1⟩
theorem je_call0 (G : Gok E) {f : Nat} {x : Str} {p : Pos} (hf : E.cf.fnm f = some x) (hg : glB sc x = true) (hn : nmOk x = true) :
    JE E N sc (.call f []) (.Call (.Name x p) [] [] pos) := fun X W C tk => by
  obtain ⟨fa, hm, hk, hF⟩ := G.fn f x hf
  obtain ⟨fd, ps, hb, F⟩ := C.fn hF
  refine ⟨fun pins s σ H Q I h => ?_⟩
  obtain ⟨w, sl, m, M, S, h⟩ := h
  unfold evalE evalEs at h
  refine wpAny_Call_Name_kw (ld_glob I (C.gl hg) (by rw [C.mg]; exact hm) ?_ (nmOk_of hn).1)
  refine PySem.W.callWith_K0 I.kIn (by rw [C.K]; exact hk) ?_
  exact run_fnG (us := []) (vs := []) (E := fun σ => xwOf W σ) F (C.room.mono (Nat.le_succ _)) hb (passAt tk σ) I .nil ⟨w, m, [], M, .nil, h⟩
theorem few_of {es : List Expr} {env : Env} {pos : Pos} (h : notStars es = true) (hl : es.length < 30) : methodCallForm (es.length + ([] : List Keyword).length) (backTo pos (starEach es env)) (backToKw pos (keywordEach [] env)) = true := by
  have h1 : ∀ {es : List Expr}, notStars es = true → (backTo pos (starEach es env)).all (!·.1) = true := by
    intro es
    induction es with
    | nil => intro _; rfl
    | cons e r ih =>
      intro h
      unfold notStars at h
      rw [List.all_cons, Bool.and_eq_true] at h
      rw [starEach_of h.1]
      show (true && (backTo pos (starEach r env)).all (!·.1)) = true
      rw [ih h.2]; rfl
  unfold methodCallForm
  rw [h1 h]
  show (true && true && decide (es.length + 0 + 0 < 30)) = true
  simpa using hl
theorem meth_tree {o : Expr} {m : Str} {args : List Expr} {apos pos : Pos} {env : Env} (h : notSuper o = true) (hs : notStars args = true) (hl : args.length < 30) (hp : (apos.endLine == pos.line) = true) : eval (.Call (.Attribute o m apos) args [] pos) env = (do
      let ov ← eval o env
      standAt apos.atName
      let (f, first) ← holding [ov] (getMethod ov m (do return (← importBound o env).getD true))
      callWith pos f first (backTo pos (starEach args env)) (backToKw pos (keywordEach [] env))) := by
  have e1 : eval (.Call (.Attribute o m apos) args [] pos) env = (do
      let ov ← attributeBase o m env (eval o env)
      standAt apos.atName
      methodCall o m apos pos env ov (args.length + ([] : List Keyword).length) (backTo pos (starEach args env)) (backToKw pos (keywordEach [] env))) := rfl
  rw [e1, base_of h]
  unfold methodCall
  rw [few_of hs hl]
  unfold methodCallPos
  rw [hp]
  rfl
/-- the arguments, then the call -/
theorem call_args {X : Cx} {pins : List (Addr × Obj)} {σ : L2.St} {H : Hp} {s : Shared} {Q : VK} {f : Value} {first : List Value} {e : Expr} {es : List Expr} {t : TA} (I : Inv X pins σ H s) (hk : PySem.W.keepIn X.K f = true) (hs : notStars (e :: es) = true) (ha : PA X (e :: es) t)
    (h : t σ H fun vs H2 => ∀ us s2, Inv X pins σ H2 s2 → Vals vs us → wpAny (model X.prog X.w) X.A (call f (first ++ us)) (EP X pins σ Q) X.xe s2) :
    wpAny (model X.prog X.w) X.A (callWith pos f first (backTo pos (starEach (e :: es) X.env)) (backToKw pos (keywordEach [] X.env))) (EP X pins σ Q) X.xe s := by
  have run := ha.run pos pins s σ H _ I h
  have hs2 : notStar e = true ∧ notStars es = true := by
    unfold notStars at hs ⊢
    simpa [List.all_cons, Bool.and_eq_true] using hs
  exact PySem.W.callWith_K (first := first) (h₀ := X.base) I.ok.mod.kin hk (thn run fun us s2 ⟨vs, H2, I2, r, q⟩ => ⟨I2.kIn, q us s2 I2 r⟩) (starEach_of hs2.1) (plain_of hs2.2)
/-- what the receiver of an own method is -/
def MethAt (E : En) (k f : Nat) (d : D) (x : V) (H : Hp) : Prop :=
  ∃ Ci p dx fvs fa, x = .ref p ∧ H p = some (.ins (E.g.cad Ci) dx fvs) ∧ fvs.lookup (E.cf.mnm k) = none ∧ Cls E.g.K (E.g.cad Ci) ∧ Meth E.g.K (E.g.cad Ci) (E.cf.mnm k) fa ∧ FnR E f fa
theorem meth_at (G : Gok E) {w : Wd} {H : Hp} {m : Mm} {k f Ci : Nat} {cd : CD} {d : D} {x : V} (M : Mem E.g w H m) (r : Rv E.g w d x) (ec : clsD m d = some Ci) (ecd : E.p.cls[Ci]? = some cd) (ef : cd.meths.lookup k = some f) : MethAt E k f d x H := by
  obtain ⟨hcl, _⟩ := G.cls Ci (G.ncl Ci cd ecd)
  obtain ⟨fa, hme, hF⟩ := G.mth Ci cd k f ecd ef
  cases r with
  | ins hc hi rf =>
    simp only [clsD] at ec
    cases ec
    exact ⟨_, _, _, _, fa, rfl, M.fr _ _ hi, rf.none G.inj fun a => G.mat a k, hcl, hme, hF⟩
  | ref n hn =>
    simp only [clsD] at ec
    split at ec
    · rename_i C' fs' em
      cases ec
      obtain ⟨_, dx, fvs, h1', rf⟩ := M.ob _ _ em
      exact ⟨_, _, dx, fvs, fa, rfl, h1', rf.none G.inj fun a => G.mat a k, hcl, hme, hF⟩
    · cases ec
  | _ => simp [clsD] at ec
/-- the receiver, then what follows -/
theorem meth_pre (G : Gok E) {k : Nat} {o : ME} {eo : Expr} {apos : Pos} {es : List ME} {ees : List Expr} (hso : notSuper eo = true) (hs : notStars ees = true) (hl : ees.length < 30) (hp : (apos.endLine == pos.line) = true) (ho : JE E N sc o eo)
    {X : Cx} {W : WX} (C : Cok E N sc X) (tk : Takes X W) {pins : List (Addr × Obj)} {s : Shared} {σ : L2.St} {H : Hp} {Q : VK} (I : Inv X pins σ H s) (hh : rdE E W (.meth o k es) σ H Q)
    (cont : ∀ w1 sl m1 d H1 s1 p f fa (fd : FuncData) (ps : List Str), Inv X pins σ H1 s1 → Mem E.g w1 H1 m1 → Slr E.g w1 sl σ → Rv E.g w1 d (.ref p) → Binds X.K fd ps [] → FnG X.prog X.w X.K X.mg X.base (L2.CX X.prog X.w) E.lv fa fd ps (spR E f) → PySem.W.keepIn X.K (.ref fa) = true →
      PostE E.g w1 (xwOf W σ) Q ((evalEs E.p E.c es sl m1).bind fun xs h => E.c f (d :: xs) h) →
      wpAny (model X.prog X.w) X.A (callWith pos (.ref fa) [.ref p] (backTo pos (starEach ees X.env)) (backToKw pos (keywordEach [] X.env))) (EP X pins σ Q) X.xe s1) :
    wpAny (model X.prog X.w) X.A (eval (.Call (.Attribute eo (E.cf.mnm k) apos) ees [] pos) X.env) (EP X pins σ Q) X.xe s := by
  obtain ⟨w, sl, m, M, S, hh⟩ := hh
  unfold evalE at hh
  have first : rdE E W o σ H fun x H1 => ∃ w1 m1 d f, Mem E.g w1 H1 m1 ∧ Slr E.g w1 sl σ ∧ Rv E.g w1 d x ∧ MethAt E k f d x H1 ∧ PostE E.g w1 (xwOf W σ) Q ((evalEs E.p E.c es sl m1).bind fun xs h => E.c f (d :: xs) h) :=
    rd_bind M S hh fun d m1 w1 v H1 le1 M1 S1 r1 h1 => by
      split at h1
      · rename_i Ci ec
        split at h1
        · rename_i cd ecd
          split at h1
          · rename_i f ef
            exact ⟨w1, m1, d, f, M1, S1, r1, meth_at G M1 r1 ec ecd ef, h1⟩
          · exact absurd h1 id
        · exact absurd h1 id
      · exact absurd h1 id
  refine PySem.W.methodCall_KW (thn ((ho X W C tk).run pins s σ H _ I first) fun u s1 ⟨x, H1, I1, rx, w1, m1, d, f, M1, S1, r1, ma, h1⟩ => ?_) (meth_tree hso hs hl hp)
  obtain ⟨Ci, p, dx, fvs, fa, rfl, hpi, hlk, hcl, hme, hF⟩ := ma
  cases rx
  obtain ⟨fd, ps, hb, F⟩ := C.fn hF
  refine getmeth_ok I1 hpi (by rw [C.K]; exact hcl) (by rw [C.K]; exact hme) hlk ?_
  exact cont w1 sl m1 d H1 s1 p f fa fd ps I1 M1 S1 r1 hb F (by rw [C.K]; exact hme.kp) h1
theorem je_meth0 (G : Gok E) {k : Nat} {o : ME} {eo : Expr} {apos : Pos} (hso : notSuper eo = true) (hp : (apos.endLine == pos.line) = true) (ho : JE E N sc o eo) :
    JE E N sc (.meth o k []) (.Call (.Attribute eo (E.cf.mnm k) apos) [] [] pos) := fun X W C tk => ⟨fun pins s σ H Q I hh =>
  meth_pre G hso rfl (by decide) hp ho C tk I hh fun w1 sl m1 d H1 s1 p f fa fd ps I1 M1 S1 r1 hb F hk h1 => by
    unfold evalEs at h1
    exact PySem.W.callWith_K0 (first := [.ref p]) I1.kIn hk (run_fnG (us := [.ref p]) (vs := [.ref p]) (E := fun σ => xwOf W σ) F (C.room.mono (Nat.le_succ _)) hb (passAt tk σ) I1 (.cons rfl .nil) ⟨w1, m1, [d], M1, .cons r1 .nil, h1⟩)⟩
theorem je_meth (G : Gok E) {k : Nat} {o : ME} {eo e0 : Expr} {apos : Pos} {es : List ME} {ees : List Expr} (hso : notSuper eo = true) (hs : notStars (e0 :: ees) = true) (hl : (e0 :: ees).length < 30) (hp : (apos.endLine == pos.line) = true) (ho : JE E N sc o eo) (h : JEs E N sc es (e0 :: ees)) :
    JE E N sc (.meth o k es) (.Call (.Attribute eo (E.cf.mnm k) apos) (e0 :: ees) [] pos) := fun X W C tk => ⟨fun pins s σ H Q I hh =>
  meth_pre G hso hs hl hp ho C tk I hh fun w1 sl m1 d H1 s1 p f fa fd ps I1 M1 S1 r1 hb F hk h1 =>
    call_args (first := [.ref p]) I1 hk hs (h X W C tk) (rd_bind M1 S1 h1 fun ds m2 w2 vs H2 le2 M2 S2 r2 h2 => fun us s2 I2 rv =>
      run_fnG (us := .ref p :: us) (vs := .ref p :: vs) (E := fun σ => xwOf W σ) F (C.room.mono (Nat.le_succ _)) hb (passAt tk σ) I2 (.cons rfl rv) ⟨w2, m2, d :: ds, M2, .cons (r1.mono le2) r2, h2⟩)⟩
theorem make_run {X : Cx} {W : WX} {k : Nat} {f C : Addr} {fd : FuncData} {ps : List Str} {sp : Sp} {pins : List (Addr × Obj)} {σ : L2.St} {H : Hp} {s : Shared} {Q : VK} {us : List Value} {vs : List V} (M : Mk X.K C f)
    (F : FnG X.prog X.w X.K X.mg X.base (L2.CX X.prog X.w) k f fd ps sp) (hr : RoomG (k + 1) X.A) (hb : Binds X.K fd ps []) (tk : Takes X W) (I : Inv X pins σ H s) (r : Vals vs us)
    (h : ∀ x dx, H x = none → H dx = none → dx ≠ x → sp (.ref x :: vs) (upd (upd H dx (.own x)) x (.ins C dx [])) (fun v H2 => v = .non ∧ Q (.ref x) H2) (xwOf W σ)) :
    wpAny (model X.prog X.w) X.A (call (.ref C) us) (EP X pins σ Q) X.xe s := by
  generalize hn : s.heap.objs.size = n at h
  have I2 := Inv.made (C := C) I
  rw [hn] at I2
  have hq := h (n + 1) n (I.hok.fresh (by rw [hn]; exact Nat.le_succ _)) (I.hok.fresh (by rw [hn]; exact Nat.le_refl _)) (Nat.ne_of_lt (Nat.lt_succ_self _))
  have r2 : Vals (V.ref (n + 1) :: vs) (Value.ref (n + 1) :: us) := .cons rfl r
  have len : (Value.ref (n + 1) :: us ++ []).length = ps.length := by
    rw [List.append_nil, ← r2.length]; exact F.len _ _ _ _ hq
  have bnd := fun s' (K : X.K.In s'.heap) => hb s' (Value.ref (n + 1) :: us) K len
  refine wpAny_call (make_map (f := f) I.kIn M.makes M.init (beq_iff_eq.mp M.fn) ?_)
  rw [hn]
  refine codeAny_mono (F.run _ X.stack _ _ ⟨Value.ref (n + 1) :: us, []⟩ (Value.ref (n + 1) :: us) _ _ _ (hr.make C us []) (I2.env0.make C us []) (by have z := bnd _ I2.kIn; rw [List.append_nil] at z; exact z) r2 hq) fun r s' hq' => ?_
  cases r with
  | error e => exact passAt tk σ pins _ _ e s' I2 hq'
  | ok fl =>
    cases fl with
    | ret u =>
      obtain ⟨v, H', I3, rv, ev, q3⟩ := I2.after hq'
      subst ev
      exact ⟨rv, ⟨V.ref (n + 1), H', I3, rfl, q3⟩⟩
    | _ => exact hq'.elim
theorem make_runD {dv : List Value} {dd : List V} {X : Cx} {W : WX} {k : Nat} {f C : Addr} {fd : FuncData} {ps : List Str} {sp : Sp} {pins : List (Addr × Obj)} {σ : L2.St} {H : Hp} {s : Shared} {Q : VK} {us : List Value} {vs : List V} (M : Mk X.K C f)
    (F : FnG X.prog X.w X.K X.mg X.base (L2.CX X.prog X.w) k f fd ps sp) (hr : RoomG (k + 1) X.A) (hb : Binds X.K fd ps dv) (rd : Vals dd dv) (tk : Takes X W) (I : Inv X pins σ H s) (r : Vals vs us)
    (h : ∀ x dx, H x = none → H dx = none → dx ≠ x → sp (.ref x :: vs ++ dd) (upd (upd H dx (.own x)) x (.ins C dx [])) (fun v H2 => v = .non ∧ Q (.ref x) H2) (xwOf W σ)) :
    wpAny (model X.prog X.w) X.A (call (.ref C) us) (EP X pins σ Q) X.xe s := by
  generalize hn : s.heap.objs.size = n at h
  have I2 := Inv.made (C := C) I
  rw [hn] at I2
  have hq := h (n + 1) n (I.hok.fresh (by rw [hn]; exact Nat.le_succ _)) (I.hok.fresh (by rw [hn]; exact Nat.le_refl _)) (Nat.ne_of_lt (Nat.lt_succ_self _))
  have r2 : Vals (V.ref (n + 1) :: vs) (Value.ref (n + 1) :: us) := .cons rfl r
  have r3 : Vals (V.ref (n + 1) :: vs ++ dd) (Value.ref (n + 1) :: us ++ dv) := r2.append rd
  have len : (Value.ref (n + 1) :: us ++ dv).length = ps.length := by
    rw [← r3.length]; exact F.len _ _ _ _ hq
  have bnd := fun s' (K : X.K.In s'.heap) => hb s' (Value.ref (n + 1) :: us) K len
  refine wpAny_call (make_map (f := f) I.kIn M.makes M.init (beq_iff_eq.mp M.fn) ?_)
  rw [hn]
  refine codeAny_mono (F.run _ X.stack _ _ ⟨Value.ref (n + 1) :: us, []⟩ (Value.ref (n + 1) :: us ++ dv) _ _ _ (hr.make C us []) (I2.env0.make C us []) (bnd _ I2.kIn) r3 hq) fun r s' hq' => ?_
  cases r with
  | error e => exact passAt tk σ pins _ _ e s' I2 hq'
  | ok fl =>
    cases fl with
    | ret u =>
      obtain ⟨v, H', I3, rv, ev, q3⟩ := I2.after hq'
      subst ev
      exact ⟨rv, ⟨V.ref (n + 1), H', I3, rfl, q3⟩⟩
    | _ => exact hq'.elim
/-- a new instance's place, then its __init__ -/
theorem make_sp (G : Gok E) {Ci f : Nat} {d : D} {w : Wd} {H : Hp} {m : Mm} {ds : List D} {vs : List V} {xw : XW} {Q : VK} (hC : Ci < E.g.ncls) (M : Mem E.g w H m) (r : Rvs E.g w ds vs)
    (h : PostE E.g w xw Q ((E.c f (.ref m.length :: ds) (m ++ [.ins Ci []])).bind fun r h' => match r with | .non => .ok (.ref m.length) h' | _ => .bad)) :
    ∀ x dx, H x = none → H dx = none → dx ≠ x → spR E f (.ref x :: vs) (upd (upd H dx (.own x)) x (.ins (E.g.cad Ci) dx [])) (fun v H2 => v = .non ∧ Q (.ref x) H2) xw := by
  intro x dx hx hdx hne
  -- the own dict stands beside, for good
  obtain ⟨le1, M1⟩ := M.laid (p := dx) (o := .own x) hdx
  have hx1 : upd H dx (.own x) x = none := by rw [upd_ne (Ne.symm hne)]; exact hx
  have hob : ObR E.g ((w.fz dx (.own x)).one x) (upd (upd H dx (.own x)) x (.ins (E.g.cad Ci) dx [])) (w.fz dx (.own x)).len (.ins Ci []) := ⟨hC, dx, [], by
    show upd (upd H dx (.own x)) x _ (if w.len = w.len then x else w.ρ w.len) = _
    rw [if_pos rfl, upd_same], .nil⟩
  obtain ⟨le2, M2⟩ := M1.new hx1 hob
  have rr : Rv E.g ((w.fz dx (.own x)).one x) (.ref w.len) (.ref x) := by
    have z := Rv.ref (g := E.g) (w := (w.fz dx (.own x)).one x) w.len (Nat.lt_succ_self _)
    have e : ((w.fz dx (.own x)).one x).ρ w.len = x := if_pos rfl
    rw [e] at z; exact z
  have le := le1.trans le2
  rw [← M.len] at h
  refine ⟨(w.fz dx (.own x)).one x, m ++ [.ins Ci []], .ref w.len :: ds, M2, .cons rr (r.mono le), Post.bind (Post.mono le h) fun d m' _ w' v H' le' M' rv q => ?_⟩
  split at q
  · cases rv
    refine ⟨rfl, q w' (.ref x) H' (Wd.le.refl _) M' ?_⟩
    exact rr.mono le'
  · exact absurd q id
theorem je_make (G : Gok E) {Ci : Nat} {cd : CD} {x : Str} {p : Pos} {es : List ME} {e0 : Expr} {ees : List Expr} (hcd : E.p.cls[Ci]? = some cd) (hf : E.cf.cnm Ci = some x) (hg : glB sc x = true) (hn : nmOk x = true) (hs : notStars (e0 :: ees) = true) (h : JEs E N sc es (e0 :: ees)) :
    JE E N sc (.make Ci es) (.Call (.Name x p) (e0 :: ees) [] pos) := fun X W C tk => by
  obtain ⟨fa, hm, hk, hF⟩ := G.mkc Ci cd x hcd hf
  obtain ⟨fd, ps, hb, F⟩ := C.fn hF
  refine ⟨fun pins s σ H Q I hh => ?_⟩
  obtain ⟨w, sl, m, M, S, hh⟩ := hh
  unfold evalE at hh
  refine wpAny_Call_Name_kw (ld_glob I (C.gl hg) (by rw [C.mg]; exact hm) ?_ (nmOk_of hn).1)
  refine call_args (first := []) I (by rw [C.K]; exact hk.kp) hs (h X W C tk) (rd_bind M S hh fun ds m2 w2 vs H2 le2 M2 S2 r2 h2 => fun us s2 I2 rv => ?_)
  rw [hcd] at h2
  exact make_run (by rw [C.K]; exact hk) F C.room hb tk I2 rv (make_sp G (d := .non) (G.ncl Ci cd hcd) M2 r2 h2)
theorem je_make0 (G : Gok E) {Ci : Nat} {cd : CD} {x : Str} {p : Pos} (hcd : E.p.cls[Ci]? = some cd) (hf : E.cf.cnm Ci = some x) (hg : glB sc x = true) (hn : nmOk x = true) :
    JE E N sc (.make Ci []) (.Call (.Name x p) [] [] pos) := fun X W C tk => by
  obtain ⟨fa, hm, hk, hF⟩ := G.mkc Ci cd x hcd hf
  obtain ⟨fd, ps, hb, F⟩ := C.fn hF
  refine ⟨fun pins s σ H Q I hh => ?_⟩
  obtain ⟨w, sl, m, M, S, hh⟩ := hh
  unfold evalE evalEs at hh
  rw [Res.bind_ok, hcd] at hh
  refine wpAny_Call_Name_kw (ld_glob I (C.gl hg) (by rw [C.mg]; exact hm) ?_ (nmOk_of hn).1)
  exact PySem.W.callWith_K0 (first := []) I.kIn (by rw [C.K]; exact hk.kp) (make_run (us := []) (by rw [C.K]; exact hk) F C.room hb tk I .nil (make_sp G (d := .non) (G.ncl Ci cd hcd) M .nil hh))
theorem Cok.fnD {X : Cx} (C : Cok E N sc X) {f : Nat} {fa : Addr} {dflt : List D} (h : FnRD E f fa dflt) :
    ∃ (fd : FuncData) (ps : List Str) (ds : List Value) (vs : List V), Binds X.K fd ps ds ∧ Vals vs ds ∧ (∀ w, Rvs E.g w dflt vs) ∧ FnG X.prog X.w X.K X.mg X.base (L2.CX X.prog X.w) E.lv fa fd ps (spR E f) := by
  obtain ⟨fd, ps, ds, vs, hb, r, rr, F⟩ := h.ok
  refine ⟨fd, ps, ds, vs, by rw [C.K]; exact hb, r, rr, ?_⟩
  rw [C.P, C.w, C.K, C.mg, C.base]
  exact F
theorem je_makeD (G : Gok E) {Ci : Nat} {cd : CD} {x : Str} {p : Pos} (hcd : E.p.cls[Ci]? = some cd) (hf : E.cf.cnm Ci = some x) (hg : glB sc x = true) (hn : nmOk x = true) :
    JE E N sc (.makeD Ci) (.Call (.Name x p) [] [] pos) := fun X W C tk => by
  obtain ⟨fa, hm, hk, hF⟩ := G.mkd Ci cd x hcd hf
  obtain ⟨fd, ps, ds, dvs, hb, rv, rr, F⟩ := C.fnD hF
  refine ⟨fun pins s σ H Q I hh => ?_⟩
  obtain ⟨w, sl, m, M, S, hh⟩ := hh
  unfold evalE at hh
  rw [hcd] at hh
  refine wpAny_Call_Name_kw (ld_glob I (C.gl hg) (by rw [C.mg]; exact hm) ?_ (nmOk_of hn).1)
  exact PySem.W.callWith_K0 (first := []) I.kIn (by rw [C.K]; exact hk.kp) (make_runD (us := []) (vs := []) (by rw [C.K]; exact hk) F C.room hb rv tk I .nil (make_sp G (d := .non) (G.ncl Ci cd hcd) M (rr w) hh))
theorem je_blt (G : Gok E) {b : Bt} {obj : Bool} {p : Pos} {es : List ME} {e0 : Expr} {ees : List Expr} (hg : glB sc b.nm = true) (hs : notStars (e0 :: ees) = true) (h : JEs E N sc es (e0 :: ees)) :
    JE E N sc (.blt b obj es) (.Call (.Name b.nm p) (e0 :: ees) [] pos) := fun X W C tk => by
  have hs2 : notStar e0 = true ∧ notStars ees = true := by
    unfold notStars at hs ⊢
    simpa [List.all_cons, Bool.and_eq_true] using hs
  have hm : X.mg b.nm = none := by rw [C.mg]; exact G.blt b
  have n1 : b.nm ≠ "__name__" := by cases b <;> decide +kernel
  have n2 : (b.nm == ("__debug__" : Str)) = false := by cases b <;> decide +kernel
  have rd : ∀ (σ : L2.St) (H : Hp) (Q : VK), rdE E W (.blt b obj es) σ H Q → tCB (rBlt E.g b obj) (rdEs E W es) σ H Q := fun σ H Q hh => by
    obtain ⟨w, sl, m, M, S, hh⟩ := hh
    unfold evalE at hh
    exact rd_bind M S hh fun ds m2 w2 vs H2 le2 M2 S2 r2 h2 => ⟨w2, m2, ds, _, M2, r2, h2⟩
  have hc := call_blt (X := X) (g := E.g) C.K C.w b (.inl C.calm) (fun _ => ⟨C.room.gd, C.room.units⟩) obj
  by_cases ty : b.isTy = true
  · obtain ⟨T, eT⟩ : ∃ T, b.val = .type T := by cases b <;> first | exact ⟨_, rfl⟩ | cases ty
    rw [eT] at hc
    exact PE.imp (pe_callTy hc (C.gl hg) hm (by rw [b.boot, eT]) (h X W C tk) n1 n2 (starEach_of hs2.1) (plain_of hs2.2)) rd
  · obtain ⟨T, eT⟩ : ∃ T, b.val = .builtin T := by cases b <;> first | exact ⟨_, rfl⟩ | exact absurd rfl ty
    rw [eT] at hc
    exact PE.imp (pe_callB hc (C.gl hg) hm (by rw [b.boot, eT]) (h X W C tk) n1 n2 (starEach_of hs2.1) (plain_of hs2.2)) rd
/-- of the type T, tuples that are made here too -/
def tyG (K : PySem.W.Frag) (T : String) (x : V) (H : Hp) : Prop := tyV K T x H ∨ (T = "tuple" ∧ ∃ p ys, x = V.ref p ∧ TupS K H p ys)
theorem tyG_is {X : Cx} {pins : List (Addr × Obj)} {σ : L2.St} {H : Hp} {s : Shared} {T : String} {x : V} {v : Value} (I : Inv X pins σ H s) (r : RelV x v) (ty : tyG X.K T x H) :
    s.TypeIs v T ∧ ∀ a, v = .ref a → ∃ ob, s.heap.get? a = some ob ∧ ob.dict = none := by
  rcases ty with ty | ⟨rfl, p, ys, rfl, hq⟩
  · exact tyV_is I r ty
  · cases r
    rcases hq with ⟨o, h, hd⟩ | ⟨o, its, n, h1, h2, h3, h4, h5, hd⟩
    · obtain ⟨e, _, _, _, ob, e2, hc, _⟩ := I.hok p _ h
      rw [e] at e2
      cases e2
      refine ⟨⟨_, e, hc⟩, fun a z => ?_⟩
      cases z
      exact ⟨_, e, hd⟩
    · have e := I.kIn p o h1
      refine ⟨⟨o, e, h2⟩, fun a z => ?_⟩
      cases z
      exact ⟨o, e, hd⟩
def tBMG (K : PySem.W.Frag) (T : String) (r : V → List V → Hp → VK → Prop) (to : TE) (t : TA) : TE := fun σ H Q => to σ H fun x H1 => tyG K T x H1 ∧ t σ H1 fun xs H2 => r x xs H2 Q
theorem pe_bmG {X : Cx} {o e : Expr} {es : List Expr} {to : TE} {t : TA} {name : Str} {apos cpos : Pos} {T id : String} {r : V → List V → Hp → VK → Prop} (pa : PlainAttrs T) (slot : Slot T name id) (hty : typeOf (.builtin id) = pure (.type "method_descriptor")) (hm : MtR X id r) (ho : PE X o to) (ha : PA X (e :: es) t)
    (hbase : attributeBase o name X.env (eval o X.env) = eval o X.env := by rfl)
    (hfew : ((backTo cpos (starEach (e :: es) X.env)).all (fun x => !x.1) && (backToKw cpos (keywordEach [] X.env)).all (fun x => x.1.isSome)
      && decide ((e :: es).length + ([] : List Keyword).length + (if ([] : List Keyword).isEmpty then 0 else 1) < 30)) = true := by rfl)
    (hline : (apos.endLine == cpos.line) = true := by rfl) (hs : starEach (e :: es) X.env = (false, eval e X.env) :: starEach es X.env := by rfl) (hplain : (backTo cpos (starEach es X.env)).any (·.1) = false := by rfl) :
    PE X (.Call (.Attribute o name apos) (e :: es) [] cpos) (tBMG X.K T r to t) := by
  refine ⟨fun pins s σ H Q I h => ?_⟩
  refine wpAny_Call_method_late hbase hfew hline rfl (thn (ho.run pins s σ H _ I h) fun v s1 ⟨x, H1, I1, r1, ty, q1⟩ => ?_)
  obtain ⟨h1, h2⟩ := tyG_is I1 r1 ty
  refine ⟨T, id, pa, slot, hty, h1, h2, ?_⟩
  have hA := ha.run cpos pins s1 σ H1 _ I1 q1
  rw [hs] at hA ⊢
  refine Calls.callWith_builtin (by show (false || (backTo cpos (starEach es X.env)).any (·.1)) = false; rw [hplain] <;> rfl) (Calls.evalArgs_plain ?_)
  exact thn hA fun us s2 ⟨vs, H2, I2, r2, q2⟩ => hm pins s2 σ H2 x vs v us Q I2 r1 r2 q2
theorem je_bm {b : Bm} {obj : Bool} {o : ME} {eo : Expr} {apos : Pos} {es : List ME} {e0 : Expr} {ees : List Expr} (hso : notSuper eo = true) (hs : notStars (e0 :: ees) = true) (hl : (e0 :: ees).length < 30) (hp : (apos.endLine == pos.line) = true) (ho : JE E N sc o eo) (h : JEs E N sc es (e0 :: ees)) :
    JE E N sc (.bm b obj o es) (.Call (.Attribute eo b.nm apos) (e0 :: ees) [] pos) := fun X W C tk => by
  have hs2 : notStar e0 = true ∧ notStars ees = true := by
    unfold notStars at hs ⊢
    simpa [List.all_cons, Bool.and_eq_true] using hs
  have few := few_of (env := X.env) (pos := pos) hs hl
  have slot : Slot b.ty b.nm b.id := by
    cases b with
    | append => exact PySem.F.slot_list_append
    | index => exact PySem.F.slot_list_index
    | extend => exact PySem.F.slot_list_extend
    | insert => exact PySem.F.slot_list_insert
    | join => exact PySem.F.slot_str_join
    | sindex => exact PySem.F.slot_str_index
    | tindex => exact PySem.F.slot_tuple_index
  have pa : PlainAttrs b.ty := by
    cases b with
    | join => exact PySem.F.plainAttrs_str
    | sindex => exact PySem.F.plainAttrs_str
    | tindex => exact PySem.F.plainAttrs_tuple
    | _ => exact PySem.F.plainAttrs_list
  have ty : typeOf (.builtin b.id) = pure (.type "method_descriptor") := by
    cases b with
    | append => exact PySem.F.type_list_append
    | index => exact PySem.F.type_list_index
    | extend => exact PySem.F.type_list_extend
    | insert => exact PySem.F.type_list_insert
    | join => exact PySem.F.type_str_join
    | sindex => exact PySem.F.type_str_index
    | tindex => exact PySem.F.type_tuple_index
  refine PE.imp (pe_bmG pa slot ty (mt_bm (X := X) (g := E.g) C.K b obj) (ho X W C tk) (h X W C tk) (base_of hso) few hp (starEach_of hs2.1) (plain_of hs2.2)) fun σ H Q hh => ?_
  obtain ⟨w, sl, m, M, S, hh⟩ := hh
  unfold evalE at hh
  refine rd_bind M S hh fun d m1 w1 v H1 le1 M1 S1 r1 h1 => ?_
  by_cases ht : bmTy b m1 d = true
  · rw [if_pos ht] at h1
    refine ⟨?_, rd_bind M1 S1 h1 fun ds m2 w2 vs H2 le2 M2 S2 r2 h2 => ⟨w2, m2, d, ds, _, M2, r1.mono le2, r2, h2⟩⟩
    rw [C.K]
    have ls : (lstOf m1 d).isSome = true → tyG E.g.K "list" v H1 := fun ht => .inl <| by
      obtain ⟨xs, e⟩ := Option.isSome_iff_exists.mp ht
      obtain ⟨p, us, rfl, hq, _⟩ := lstOf_rel M1 r1 e
      exact .inl ⟨rfl, us, hq⟩
    cases b with
    | append => exact ls ht
    | index => exact ls ht
    | extend => exact ls ht
    | insert => exact ls ht
    | join =>
      unfold bmTy at ht
      dsimp only at ht
      split at ht
      · cases r1; exact .inl rfl
      · cases ht
    | sindex =>
      unfold bmTy at ht
      dsimp only at ht
      split at ht
      · cases r1; exact .inl rfl
      · cases ht
    | tindex =>
      unfold bmTy at ht
      dsimp only at ht
      split at ht
      · cases r1 with
        | tup hq rs => exact .inr ⟨rfl, _, _, rfl, tupS_mono M1.fr hq⟩
      · cases ht
  · rw [if_neg ht] at h1
    exact absurd h1 id
/-- an instance as it stands -/
theorem inst_at {w : Wd} {H : Hp} {m : Mm} {d : D} {x : V} {f : Nat} {y : D} (G : Gok E) (M : Mem E.g w H m) (r : Rv E.g w d x) (e : fldD m f d = some y) :
    ∃ p Ci dx fvs v, x = .ref p ∧ H p = some (.ins (E.g.cad Ci) dx fvs) ∧ Ci < E.g.ncls ∧ fvs.lookup (E.g.att f) = some v ∧ Rv E.g w y v ∧ clsD m d = some Ci := by
  cases r with
  | ins hc hi rf =>
    simp only [fldD] at e
    obtain ⟨v, h1, h2⟩ := rf.look G.inj e
    exact ⟨_, _, _, _, v, rfl, M.fr _ _ hi, hc, h1, h2, rfl⟩
  | ref n hn =>
    simp only [fldD] at e
    split at e
    · rename_i C' fs' em
      obtain ⟨hc, dx, fvs, h1', rf⟩ := M.ob _ _ em
      obtain ⟨v, h1, h2⟩ := rf.look G.inj e
      exact ⟨_, _, _, _, v, rfl, h1', hc, h1, h2, by simp only [clsD, em]⟩
    · cases e
  | _ => simp [fldD] at e
theorem je_fld (G : Gok E) {o : ME} {eo : Expr} {f : Nat} (hso : notSuper eo = true) (hf : f < E.cf.natt) (ho : JE E N sc o eo) : JE E N sc (.fld o f) (.Attribute eo (E.g.att f) pos) := fun X W C tk => by
  refine PE.imp (pe_fld (ho X W C tk) (base_of hso)) fun σ H Q hh => ?_
  obtain ⟨w, sl, m, M, S, hh⟩ := hh
  unfold evalE at hh
  refine rd_bind M S hh fun d m1 w1 v H1 le1 M1 S1 r1 h1 => ?_
  split at h1
  · rename_i y ey
    obtain ⟨p, Ci, dx, fvs, u, rfl, h2, hc, h3, h4, _⟩ := inst_at G M1 r1 ey
    obtain ⟨c1, c2⟩ := G.cls Ci hc
    exact ⟨p, _, dx, fvs, u, rfl, h2, by rw [C.K]; exact c1, by rw [C.K]; exact c2 f hf, h3, ok_same h1 M1 h4⟩
  · exact absurd h1 id
theorem tyN_rel {g : Gm} {w : Wd} {H : Hp} {m : Mm} {d : D} {v : V} {n : String} (M : Mem g w H m) (r : Rv g w d v) (e : tyN m d = some n) : TyX g.K H v (.type n) := by
  cases r with
  | pr h r r2 => cases e
  | non => cases e; exact .base .non
  | bl b => cases e; exact .base (.bl b)
  | int i => cases e; exact .base (.int i)
  | str x => cases e; exact .base (.str x)
  | tup h r =>
    cases e
    rcases h with ⟨o, h, _⟩ | ⟨o, its, k, h1, h2, _⟩
    · exact .fTuple (M.fr _ _ h)
    · exact .kTuple h1 h2
  | lst h r => cases e; exact .base (.lst (M.fr _ _ h))
  | scr h r =>
    cases e
    rcases h with (h | ⟨o, h⟩) | ⟨o, its, k, h1, h2, _⟩
    · exact .base (.lst (M.fr _ _ h))
    · exact .base (.frz (M.fr _ _ h))
    · exact .kList h1 h2
  | dct h r => cases e; exact .base (.dK (M.fr _ _ h))
  | ins hc h r => cases e
  | ref k hk =>
    simp only [tyN] at e
    split at e
    · rename_i xs en
      cases e
      obtain ⟨vs, hv, _⟩ := M.ob k _ en
      exact .base (.lst hv)
    · rename_i xs en
      cases e
      obtain ⟨vs, hv, _⟩ := M.ob k _ en
      exact .base (.dK hv)
    · cases e
theorem tyN_in {m : Mm} {d : D} {n : String} (e : tyN m d = some n) : n ∈ ["NoneType", "bool", "int", "str", "tuple", "list", "dict"] := by
  cases d <;> simp only [tyN] at e <;> first
    | (cases e; decide)
    | (cases e; done)
    | (split at e <;> first | (cases e; decide) | cases e)
theorem isi_kit (t : Ty) (n : String) (h : n ∈ ["NoneType", "bool", "int", "str", "tuple", "list", "dict"]) : kitB n t.nm = some (isiB t n) := by
  simp only [List.mem_cons, List.not_mem_nil, or_false] at h
  rcases h with rfl | rfl | rfl | rfl | rfl | rfl | rfl <;> cases t <;> decide +kernel
theorem ty_boot (t : Ty) : bootBuiltins (Str.ofString t.nm) = some (.type t.nm) := by cases t <;> decide +kernel
theorem je_isi (G : Gok E) {t : Ty} {p p2 : Pos} (ha : JE E N sc a ea) (hs : notStar ea = true) (hg : glB sc "isinstance" = true) (hg2 : glB sc (Str.ofString t.nm) = true) :
    JE E N sc (.isi t a) (.Call (.Name "isinstance" p) [ea, .Name (Str.ofString t.nm) p2] [] pos) := fun X W C tk => by
  have hm : X.mg "isinstance" = none := by rw [C.mg]; exact G.isi
  have hm2 : X.mg (Str.ofString t.nm) = none := by
    rw [C.mg]
    cases t with
    | int_ => exact G.blt .int_
    | bool_ => exact G.bool
    | str_ => exact G.blt .str_
    | tup_ => exact G.blt .tuple_
    | lst_ => exact G.blt .list_
    | dct_ => exact G.dic
  have pt : PE X (.Name (Str.ofString t.nm) p2) (tC (.ty t.nm)) := pe_bltn (gl_of (by rw [C.sc]; exact hg2)) hm2 (ty_boot t) (show RelV (.ty t.nm) (.type t.nm) from rfl) (by cases t <;> decide +kernel) (by cases t <;> decide +kernel)
  refine PE.imp (pe_callB (CallR.or call_isi call_isiX) (gl_of (by rw [C.sc]; exact hg)) hm (by decide +kernel) (pa_cons (hs := starEach_of hs) (ha X W C tk) (pa_cons pt pa_nil)) (by decide +kernel) (by decide +kernel) (starEach_of hs) (plain_of (by unfold notStars; simp only [List.all_cons, hs, List.all_nil, Bool.and_true]; rfl))) fun σ H Q h => ?_
  obtain ⟨w, sl, m, M, S, h⟩ := h
  unfold evalE at h
  refine rd_bind M S h fun d m1 w1 v H1 le1 M1 S1 r1 h1 => ?_
  split at h1
  · rename_i n en
    exact .inl ⟨v, .ty t.nm, _, _, isiB t n, rfl, .ty _, by rw [C.K]; exact tyN_rel M1 r1 en, kit_ty (isi_kit t n (tyN_in en)), ok_same h1 M1 (.bl _)⟩
  · split at h1
    · rename_i kvs en
      obtain ⟨a, xs, rfl, hr, rr⟩ := tctOf_rel M1 r1 en
      exact .inr ⟨a, xs, t.nm, isiB t "dict", rfl, tci C.K C.w M1 hr rr, kit_ty (isi_kit t "dict" (by decide)), ok_same h1 M1 (.bl _)⟩
    · exact absurd h1 id
theorem je_isit (G : Gok E) {t u : Ty} {p p2 p3 p4 : Pos} {kk : Nat} (ha : JE E N sc a ea) (hs : notStar ea = true) (hg : glB sc "isinstance" = true) (hg2 : glB sc (Str.ofString t.nm) = true) (hg3 : glB sc (Str.ofString u.nm) = true) :
    JE E N sc (.isit t u a) (.Call (.Name "isinstance" p) [ea, .Tuple [.Name (Str.ofString t.nm) p2, .Name (Str.ofString u.nm) p3] kk p4] [] pos) := fun X W C tk => by
  have hm : X.mg "isinstance" = none := by rw [C.mg]; exact G.isi
  have hm2 : ∀ t : Ty, X.mg (Str.ofString t.nm) = none := fun t => by
    rw [C.mg]
    cases t with
    | int_ => exact G.blt .int_
    | bool_ => exact G.bool
    | str_ => exact G.blt .str_
    | tup_ => exact G.blt .tuple_
    | lst_ => exact G.blt .list_
    | dct_ => exact G.dic
  have pt : ∀ (t : Ty) (p2 : Pos), glB sc (Str.ofString t.nm) = true → PE X (.Name (Str.ofString t.nm) p2) (tC (.ty t.nm)) := fun t p2 hg2 => pe_bltn (gl_of (by rw [C.sc]; exact hg2)) (hm2 t) (ty_boot t) (show RelV (.ty t.nm) (.type t.nm) from rfl) (by cases t <;> decide +kernel) (by cases t <;> decide +kernel)
  refine PE.imp (pe_callB call_isiT (gl_of (by rw [C.sc]; exact hg)) hm (by decide +kernel) (pa_cons (hs := starEach_of hs) (ha X W C tk) (pa_cons (pe_tup (pa_cons (pt t p2 hg2) (pa_cons (pt u p3 hg3) pa_nil))) pa_nil)) (by decide +kernel) (by decide +kernel) (starEach_of hs) (plain_of (by unfold notStars; simp only [List.all_cons, hs, List.all_nil, Bool.and_true]; rfl))) fun σ H Q h => ?_
  obtain ⟨w, sl, m, M, S, h⟩ := h
  unfold evalE at h
  refine rd_bind M S h fun d m1 w1 v H1 le1 M1 S1 r1 h1 => ?_
  split at h1
  · rename_i n en
    refine ⟨by show 2 ≤ sizeLine; rw [sizeLine_eq]; decide, fun q hq => ?_⟩
    obtain ⟨le2, M2⟩ := M1.laid (p := q) (o := .tup [.ty t.nm, .ty u.nm]) hq
    refine ⟨v, q, _, _, [.type t.nm, .type u.nm], isiB t n || isiB u n, rfl, upd_same, .cons (.ty _) (.cons (.ty _) .nil), by rw [C.K]; exact tyN_rel M2 (r1.mono le2) en, ?_, h1 _ _ _ le2 M2 (.bl _)⟩
    have k1 := kit_ty (K := X.K) (isi_kit t n (tyN_in en))
    have k2 := kit_ty (K := X.K) (isi_kit u n (tyN_in en))
    refine kitAny_cons k1 (r := isiB t n || isiB u n) (fun e => ?_) (fun e => by rw [e]; rfl)
    rw [e, Bool.false_or]
    exact kitAny_cons k2 (r := isiB u n) (fun e => by rw [e]; rfl) (fun e => e)
  · exact absurd h1 id
theorem je_glb (G : Gok E) {i : Nat} {x : Str} {k : D} (h1 : E.cf.ctl[i]? = some (some x)) (h2 : E.p.cns[i]? = some k) (hg : glB sc x = true) (hd : nmOk x = true) : JE E N sc (.glb i) (.Name x pos) := fun X W C tk => by
  obtain ⟨u, e1, e2⟩ := G.con i x k h1 h2
  obtain ⟨v, e2, rv⟩ := e2.rv
  refine PE.imp (pe_glob (gl_of (by rw [C.sc]; exact hg)) (by rw [C.mg]; exact e1) e2 (nmOk_of hd).1) fun σ H Q h => ?_
  obtain ⟨w, sl, m, M, S, h⟩ := h
  unfold evalE at h
  rw [h2] at h
  exact ok_same h M (rv w)
/-- a constant list + e -/
def rKcat (g : Gm) (xs : List V) (k : Addr) : R2 := fun x y H Q => ∃ b zs, x = .ref k ∧ y = .ref b ∧ H b = some (.lst zs) ∧ xs.length + zs.length ≤ sizeLine ∧ ∀ p, H p = none → Q (.ref p) (upd H p (.lst (xs ++ zs)))
theorem op_kcat {X : Cx} {g : Gm} {xs : List V} {k : Addr} {its : Array Value} {n : Nat} (hk : X.K.lookup k = some { cls := .type "list", data := .seq its n }) (hz : its.size ≤ sizeLine) (r : Vals xs its.toList) : OpR X (binaryOp .Add) (rKcat g xs k) := by
  intro pins s σ H x y v u Q I rx ry h
  obtain ⟨b, zs, rfl, rfl, hB, hl0, q⟩ := h
  cases rx
  cases ry
  have e := I.kIn k _ hk
  obtain ⟨z2, its2, n2, r2, hl2, e2⟩ := I.lstM hB
  have hl := r.length
  refine PySem.P.add_list e e2 ?_ (by simp only [List.size_toArray, Array.length_toList] at hl ⊢; omega)
  have ea : its ++ its2.toArray = (its.toList ++ its2).toArray := by simp
  rw [ea]
  exact ⟨.ref _, _, I.lnew (t' := s.toks) (r.append r2) (by rw [List.length_append]; omega), rfl, q _ I.fresh⟩
theorem je_kcat (G : Gok E) {i : Nat} {obj : Bool} {x : Str} {xs : List D} {p : Pos} (h1 : E.cf.ctl[i]? = some (some x)) (h2 : E.p.cns[i]? = some (.scr xs)) (hg : glB sc x = true) (hd : nmOk x = true) (ha : JE E N sc a ea) :
    JE E N sc (.kcat i obj a) (.BinOp (.Name x p) .Add ea pos) := fun X W C tk => by
  obtain ⟨u, e1, e2⟩ := G.con i x _ h1 h2
  obtain ⟨a0, its, n, vs, rfl, hk, hz, r, f⟩ := e2
  refine PE.imp (pe_op (op_kcat (g := E.g) (by rw [C.K]; exact hk) hz r) (pe_glob (v := .ref a0) (gl_of (by rw [C.sc]; exact hg)) (by rw [C.mg]; exact e1) rfl (nmOk_of hd).1) (ha X W C tk)) fun σ H Q h => ?_
  obtain ⟨w, sl, m, M, S, h⟩ := h
  unfold evalE at h
  show rdE E W a σ H _
  refine rd_bind M S h fun d m1 w1 v H1 le1 M1 S1 r1 h1 => ?_
  rw [h2] at h1
  split at h1
  · rename_i zs ys e3 e4
    cases e3
    obtain ⟨b, us, rfl, hb, rb⟩ := lstW_rel M1 r1 e4
    obtain ⟨hz2, kk⟩ := mkL_post h1 M1 ((f.rv (w := w1)).append rb)
    exact ⟨b, us, rfl, rfl, hb, by rw [List.length_append] at hz2; exact hz2, kk⟩
  · exact absurd h1 id
theorem je_kidx (G : Gok E) {i : Nat} {x : Str} {xs : List D} {p apos : Pos} (h1 : E.cf.ctl[i]? = some (some x)) (h2 : E.p.cns[i]? = some (.tup xs)) (hg : glB sc x = true) (hd : nmOk x = true) (hs : notStar ea = true) (hp : (apos.endLine == pos.line) = true) (ha : JE E N sc a ea) :
    JE E N sc (.kidx i a) (.Call (.Attribute (.Name x p) "index" apos) [ea] [] pos) := fun X W C tk => by
  obtain ⟨u, e1, e2⟩ := G.con i x _ h1 h2
  obtain ⟨a0, od, its, n, slo, vs, rfl, hk, rfl, hz, r, f⟩ := e2
  have hs2 : notStars [ea] = true := by unfold notStars; simp [hs]
  refine PE.imp (pe_bm PySem.F.plainAttrs_tuple PySem.F.slot_tuple_index PySem.F.type_tuple_index mt_tup_index (pe_glob (v := .ref a0) (gl_of (by rw [C.sc]; exact hg)) (by rw [C.mg]; exact e1) rfl (nmOk_of hd).1)
    (pa_cons (hs := starEach_of hs) (ha X W C tk) pa_nil) (base_of rfl) (few_of hs2 (by simp)) hp (starEach_of hs) (plain_of rfl)) fun σ H Q h => ?_
  obtain ⟨w, sl, m, M, S, h⟩ := h
  unfold evalE at h
  have hkx : X.K.lookup a0 = some ⟨.type "tuple", none, .seq its n, slo⟩ := by rw [C.K]; exact hk
  refine ⟨.inr (.inl ⟨rfl, _, hkx, rfl, rfl⟩), ?_⟩
  show rdE E W a σ H _
  refine rd_bind M S h fun d m1 w1 v H1 le1 M1 S1 r1 h1 => ?_
  rw [h2] at h1
  split at h1
  · rename_i zs z e3
    cases e3
    cases r1
    split at h1
    · rename_i ns e4
      split at h1
      · rename_i k e5
        have ev := Rvs.strs (g := E.g) (w := w1) e4 f.rv
        obtain ⟨hkk, hb, hn⟩ := List.findIdx?_eq_some_iff_getElem.mp e5
        have hi : ns[k] = z := by simpa using hb
        refine ⟨a0, ns, z, k, rfl, rfl, .inr ⟨_, its, n, hkx, rfl, rfl, hz, by rw [← ev]; exact r⟩, by rw [List.getElem?_eq_getElem hkk, hi], fun j hj hz => ?_, ok_same h1 M1 (.int _)⟩
        have hjl : j < ns.length := Nat.lt_trans hj hkk
        rw [List.getElem?_eq_getElem hjl] at hz
        have := hn j hj
        rw [Option.some.inj hz] at this
        simp at this
      · exact absurd h1 id
    · exact absurd h1 id
  · exact absurd h1 id
theorem je_cmp2 {b' : ME} {c : ME} {ec : Expr} (ha : JE E N sc a ea) (hb : JE E N sc b' eb) (hc : JE E N sc c ec) (k l : Cm) : JE E N sc (.cmp2 k l a b' c) (.Compare ea [k.py, l.py] [eb, ec] pos) := fun X W C tk => by
  have hu : X.A.units + 64 < cLine := C.room.units
  refine PE.imp (pe_chain (op_cmp (g := E.g) hu C.K k) (op_cmp (g := E.g) hu C.K l) (ha X W C tk) (hb X W C tk) (hc X W C tk) (by cases k <;> cases l <;> exact nomark _ (by decide) (by decide))) fun σ H Q h => ?_
  obtain ⟨w, sl, m, M, S, h⟩ := h
  unfold evalE at h
  refine rd_bind M S h fun d m1 w1 v H1 le1 M1 S1 r1 h1 => ?_
  refine rd_bind M1 S1 h1 fun e m2 w2 u H2 le2 M2 S2 r2 h2 => ?_
  split at h2
  · rename_i ek
    refine ⟨w2, m2, d, e, true, M2, r1.mono le2, r2, ek, true, rfl, ?_⟩
    rw [if_pos rfl]
    refine rd_bind M2 S2 h2 fun f m3 w3 z H3 le3 M3 S3 r3 h3 => ?_
    split at h3
    · rename_i q eq
      exact ⟨w3, m3, e, f, q, M3, r2.mono le3, r3, eq, ok_same h3 M3 (.bl q)⟩
    · exact absurd h3 id
  · rename_i ek
    refine ⟨w2, m2, d, e, false, M2, r1.mono le2, r2, ek, false, rfl, ?_⟩
    rw [if_neg Bool.false_ne_true]
    exact ok_same h2 M2 (.bl false)
  · exact absurd h2 id
theorem cmp2_read {b' c : ME} {k l : Cm} {X : Cx} {W : WX} (hK : X.K = E.g.K) {ta tb tc : TE} (h1 : ∀ σ H Q, rdE E W a σ H Q → ta σ H Q) (h2 : ∀ σ H Q, rdE E W b' σ H Q → tb σ H Q) (h3 : ∀ σ H Q, rdE E W c σ H Q → tc σ H Q) (σ : L2.St) (H : Hp) (Q : VK) (h : rdE E W (.cmp2 k l a b' c) σ H Q) :
    tChain (rCmp E.g k) (rCmp E.g l) ta tb tc σ H Q := by
  obtain ⟨w, sl, m, M, S, h⟩ := h
  unfold evalE at h
  refine h1 _ _ _ (rd_bind M S h fun d m1 w1 v H1 le1 M1 S1 r1 h1 => ?_)
  refine h2 _ _ _ (rd_bind M1 S1 h1 fun e m2 w2 u H2 le2 M2 S2 r2 h2 => ?_)
  split at h2
  · rename_i ek
    refine ⟨w2, m2, d, e, true, M2, r1.mono le2, r2, ek, true, rfl, ?_⟩
    rw [if_pos rfl]
    refine h3 _ _ _ (rd_bind M2 S2 h2 fun f m3 w3 z H3 le3 M3 S3 r3 h3 => ?_)
    split at h3
    · rename_i q eq
      exact ⟨w3, m3, e, f, q, M3, r2.mono le3, r3, eq, ok_same h3 M3 (.bl q)⟩
    · exact absurd h3 id
  · rename_i ek
    refine ⟨w2, m2, d, e, false, M2, r1.mono le2, r2, ek, false, rfl, ?_⟩
    rw [if_neg Bool.false_ne_true]
    exact ok_same h2 M2 (.bl false)
  · exact absurd h2 id
theorem cmp2_bl {p : Pg} {cc : Calls} {b' c : ME} {k l : Cm} (sl : List (Option D)) (m : Mm) (d : D) (m1 : Mm) (h : evalE p cc (.cmp2 k l a b' c) sl m = .ok d m1) : ∃ q, d = .bl q := by
  unfold evalE at h
  cases q1 : evalE p cc a sl m with
  | bad => rw [q1] at h; cases h
  | exn C p m1 => rw [q1] at h; cases h
  | ok x m2 =>
    rw [q1, Res.bind_ok] at h
    cases q2 : evalE p cc b' sl m2 with
    | bad => rw [q2] at h; cases h
    | exn C p m1 => rw [q2] at h; cases h
    | ok y m3 =>
      rw [q2, Res.bind_ok] at h
      split at h
      · cases q3 : evalE p cc c sl m3 with
        | bad => rw [q3] at h; cases h
        | exn C p m1 => rw [q3] at h; cases h
        | ok z m4 =>
          rw [q3, Res.bind_ok] at h
          split at h
          · cases h; exact ⟨_, rfl⟩
          · cases h
      · cases h; exact ⟨_, rfl⟩
      · cases h
theorem jt_cmp2 {b' : ME} {c : ME} {ec : Expr} (ha : JE E N sc a ea) (hb : JE E N sc b' eb) (hc : JE E N sc c ec) (k l : Cm) : JT E N sc (.cmp2 k l a b' c) (.Compare ea [k.py, l.py] [eb, ec] pos) :=
  jt_of_bl (fun X W C tk => by
    have hu : X.A.units + 64 < cLine := C.room.units
    exact PT.imp (pt_chain (op_cmp (g := E.g) hu C.K k) (op_cmp (g := E.g) hu C.K l) (ha X W C tk) (hb X W C tk) (hc X W C tk) (by cases k <;> cases l <;> exact nomark _ (by decide) (by decide))) fun σ H Q h =>
      cmp2_read C.K (fun _ _ _ h => h) (fun _ _ _ h => h) (fun _ _ _ h => h) σ H _ h) cmp2_bl
def mKd : List Str → List Int → List (Option Expr) → List Expr → Bool
  | [], [], [], [] => true
  | k :: ks, v :: vs, some (.Constant (.str x) _ _) :: es, .Constant (.int i) _ _ :: fs => decide (k = x) && decide (v = i) && mKd ks vs es fs
  | _, _, _, _ => false
theorem kd_pps {X : Cx} {pos : Pos} : ∀ (ks : List Str) (vs : List Int) (es : List (Option Expr)) (fs : List Expr), mKd ks vs es fs = true →
    ∃ trs, PPs X pos es fs trs ∧ es.all (·.isSome) = true ∧ es.length = fs.length ∧ (kdL ks vs).length = es.length ∧ ∀ (σ : L2.St) (H : Hp) (Q : List (V × V) → Hp → Prop), Q ((kdL ks vs).map fun kv => (kV kv.1, kv.2)) H → tPairs trs σ H Q
  | [], vs, es, fs, h => by
    cases vs <;> cases es <;> cases fs <;> first | exact ⟨[], pps_nil, rfl, rfl, rfl, fun σ H Q q => q⟩ | (unfold mKd at h; cases h)
  | k :: ks, [], es, fs, h => by unfold mKd at h; cases h
  | k :: ks, v :: vs, [], fs, h => by unfold mKd at h; cases h
  | k :: ks, v :: vs, none :: es, fs, h => by unfold mKd at h; cases h
  | k :: ks, v :: vs, some e :: es, [], h => by cases e <;> first | (unfold mKd at h; cases h; done) | (rename_i c _ _; cases c <;> (unfold mKd at h; cases h))
  | k :: ks, v :: vs, some e :: es, f :: fs, h => by
    cases e <;> first | (unfold mKd at h; cases h; done) | skip
    rename_i c j1 p1
    cases c <;> first | (unfold mKd at h; cases h; done) | skip
    rename_i x
    cases f <;> first | (unfold mKd at h; cases h; done) | skip
    rename_i c2 j2 p2
    cases c2 <;> first | (unfold mKd at h; cases h; done) | skip
    rename_i i
    simp only [mKd, Bool.and_eq_true, decide_eq_true_eq] at h
    obtain ⟨⟨h1, h2⟩, h3⟩ := h
    subst h1 h2
    obtain ⟨trs, a1, a2, a3, a4, a5⟩ := kd_pps (X := X) (pos := pos) ks vs es fs h3
    exact ⟨_, pps_cons pe_str pe_int a1, by simpa using a2, by simp [a3], by simp [kdL, a4], fun σ H Q q => a5 σ H _ q⟩
theorem je_kd {ks : List Str} {vs : List Int} {es : List (Option Expr)} {fs : List Expr} {dp : Pos} (h : mKd ks vs es fs = true) (h0 : es.isEmpty = false) (h15 : es.length ≤ 15) (hp : noSlB ea = true) (ha : JE E N sc a ea) :
    JE E N sc (.kd ks vs a) (.Subscript (.Dict es fs dp) ea pos) := fun X W C tk => by
  have hu : X.A.units + 1 < cLine := by have : X.A.units + 64 < cLine := C.room.units; omega
  obtain ⟨trs, a1, a2, a3, a4, a5⟩ := kd_pps (X := X) (pos := dp) ks vs es fs h
  refine PE.imp (pe_dget hu (pe_disp a1 a2 a3 (fun z => by rw [z] at h0; cases h0) h15) (ha X W C tk) (noSl_of hp)) fun σ H Q h => ?_
  obtain ⟨w, sl, m, M, S, h⟩ := h
  unfold evalE at h
  intro p hp
  refine a5 _ _ _ ⟨upd_same, kdL ks vs, rfl, by rw [a4]; exact h15, ?_⟩
  rw [upd_upd]
  obtain ⟨le0, M0⟩ := M.beside (o := .dK (mergeK [] (kdL ks vs))) hp
  refine rd_bind M0 (S.mono le0) (Post.mono le0 h) fun d m1 w1 v H1 le1 M1 S1 r1 h1 => ?_
  split at h1
  · rename_i z
    split at h1
    · rename_i i e
      cases r1
      unfold kdAt at e
      split at e
      · rename_i j e2
        cases e
        have hd : H1 p = some (.dK (mergeK [] (kdL ks vs))) := M1.gr _ _ (le1.gr _ _ upd_same)
        exact ⟨p, .int i, rfl, by rw [← e2]; exact DGet.k (k := .inr z) hd, ok_same h1 M1 (.int i)⟩
      · cases e
    · exact absurd h1 id
  · exact absurd h1 id
theorem je_dnew : JE E N sc .dnew (.Dict [] [] pos) := fun X W C tk => by
  refine PE.imp pe_dnewK fun σ H Q h => ?_
  obtain ⟨w, sl, m, M, S, h⟩ := h
  unfold evalE at h
  intro p hp
  obtain ⟨le, M'⟩ := M.new (p := p) (o := .dK []) (u := .dct []) hp ⟨[], by
    show upd H p (.dK []) (if w.len = w.len then p else w.ρ w.len) = _
    rw [if_pos rfl, upd_same], .nil⟩
  have q : Rv E.g (w.one p) (.ref w.len) (.ref (if w.len = w.len then p else w.ρ w.len)) := Rv.ref (w := w.one p) w.len (Nat.lt_succ_self _)
  rw [if_pos rfl] at q
  rw [← M.len] at h
  exact h _ (.ref p) _ le M' q
theorem je_tnew : JE E N sc .tnew (.Dict [] [] pos) := fun X W C tk => by
  refine PE.imp pe_tnew fun σ H Q h => ?_
  obtain ⟨w, sl, m, M, S, h⟩ := h
  unfold evalE at h
  intro p hp
  have eW : X.w = E.g.W := C.w
  rw [eW]
  obtain ⟨le, M'⟩ := M.new (p := p) (o := tcO E.g.W p []) (u := .tct []) hp ⟨[], by
    show upd H p (tcO E.g.W p []) (if w.len = w.len then p else w.ρ w.len) = some (tcO E.g.W (if w.len = w.len then p else w.ρ w.len) [])
    rw [if_pos rfl, upd_same], .nil⟩
  have q : Rv E.g (w.one p) (.ref w.len) (.ref (if w.len = w.len then p else w.ρ w.len)) := Rv.ref (w := w.one p) w.len (Nat.lt_succ_self _)
  rw [if_pos rfl] at q
  rw [← M.len] at h
  exact h _ (.ref p) _ le M' q
theorem isD_rel {g : Gm} {w : Wd} {H : Hp} {m : Mm} (M : Mem g w H m) {d : D} {v : V} (r : Rv g w d v) (e : (dctOf m d).isSome = true) : ∃ a, v = .ref a ∧ IsD H a := by
  obtain ⟨kvs, z⟩ := Option.isSome_iff_exists.mp e
  obtain ⟨a, kvs', rfl, h, _⟩ := dctOf_rel M r z
  exact ⟨a, rfl, .inl ⟨kvs', h⟩⟩
theorem m2_of {X : Cx} {o e f : Expr} {x : Str} {apos cpos : Pos} (hso : notSuper o = true) (h1 : notStar e = true) (h2 : notStar f = true) (hp : (apos.endLine == cpos.line) = true) : M2 X o x apos e f cpos where
  base := base_of hso
  few := few_of (by unfold notStars; simp [h1, h2]) (by simp)
  line := hp
  trees := by rw [starEach_of h1, starEach_of h2]; rfl
theorem je_dget2 {o i a : ME} {eo ei ea : Expr} {apos : Pos} (hso : notSuper eo = true) (h1 : notStar ei = true) (h2 : notStar ea = true) (hp : (apos.endLine == pos.line) = true) (ho : JE E N sc o eo) (hi : JE E N sc i ei) (ha : JE E N sc a ea) :
    JE E N sc (.dget2 o i a) (.Call (.Attribute eo "get" apos) [ei, ea] [] pos) := fun X W C tk => by
  refine PE.imp (pe_dget2 (by have : X.A.units + 64 < cLine := C.room.units; omega) (ho X W C tk) (hi X W C tk) (ha X W C tk) (m2_of hso h1 h2 hp)) fun σ H Q h => ?_
  obtain ⟨w, sl, m, M, S, h⟩ := h
  unfold evalE at h
  refine rd_bind M S h fun d m1 w1 v H1 le1 M1 S1 r1 h1 => ?_
  split at h1
  · rename_i hd
    obtain ⟨p, rfl, isd⟩ := isD_rel M1 r1 hd
    refine ⟨p, rfl, isd, ?_⟩
    refine rd_bind M1 S1 h1 fun y m2 w2 u H2 le2 M2 S2 r2 h2 => ?_
    refine rd_bind M2 S2 h2 fun z m3 w3 t H3 le3 M3 S3 r3 h3 => ?_
    split at h3
    · rename_i r e
      obtain ⟨q, oo, ep, g1, g2, g3⟩ := atD_rel M3 ((r1.mono le2).mono le3) (r2.mono le3) e
      cases ep
      refine ⟨oo, g1, ?_⟩
      cases r with
      | none => rw [g3 rfl]; exact ok_same h3 M3 r3
      | some d =>
        obtain ⟨v, ev, rv⟩ := g2 d rfl
        rw [ev]; exact ok_same h3 M3 rv
    · exact absurd h3 id
  · exact absurd h1 id
theorem je_dsetd {o i a : ME} {eo ei ea : Expr} {apos : Pos} (hso : notSuper eo = true) (h1 : notStar ei = true) (h2 : notStar ea = true) (hp : (apos.endLine == pos.line) = true) (ho : JE E N sc o eo) (hi : JE E N sc i ei) (ha : JE E N sc a ea) :
    JE E N sc (.dsetd o i a) (.Call (.Attribute eo "setdefault" apos) [ei, ea] [] pos) := fun X W C tk => by
  refine PE.imp (pe_dsetd (ho X W C tk) (hi X W C tk) (ha X W C tk) (m2_of hso h1 h2 hp)) fun σ H Q h => ?_
  obtain ⟨w, sl, m, M, S, h⟩ := h
  unfold evalE at h
  refine rd_bind M S h fun d m1 w1 v H1 le1 M1 S1 r1 h1 => ?_
  split at h1
  · rename_i hd
    obtain ⟨p, rfl, isd⟩ := isD_rel M1 r1 hd
    refine ⟨p, rfl, isd, ?_⟩
    refine rd_bind M1 S1 h1 fun y m2 w2 u H2 le2 M2 S2 r2 h2 => ?_
    refine rd_bind M2 S2 h2 fun z m3 w3 t H3 le3 M3 S3 r3 h3 => ?_
    replace r1 := (r1.mono le2).mono le3
    replace r2 := r2.mono le3
    replace h3 : PostE E.g w3 _ Q (setdD d y z m3) := h3
    unfold setdD at h3
    split at h3
    · rename_i n k hk
      split at h3
      · rename_i kvs en
        split at h3
        · rename_i hz
          obtain ⟨kvs', hH, rr⟩ := M3.ob n _ en
          generalize hv : V.ref p = vp at r1
          cases r1 with
          | ref _ hn =>
            cases hv
            refine ⟨kvs', k, hH, isKey_rel r2 hk, by rw [← rr.length]; exact sl_szOk hz, fun v hv => ?_, fun hv => ?_⟩
            · cases q : valD kvs k with
              | none => rw [(rr.val k).2 q] at hv; cases hv
              | some d =>
                rw [q] at h3
                obtain ⟨u, e1, ru⟩ := (rr.val k).1 d q
                rw [hv] at e1; cases e1
                exact ok_same h3 M3 ru
            · cases q : valD kvs k with
              | some d =>
                obtain ⟨u, e1, ru⟩ := (rr.val k).1 d q
                rw [hv] at e1; cases e1
              | none =>
                rw [q] at h3
                exact h3 w3 _ _ (Wd.le.refl _) (M3.write en trivial trivial ⟨_, upd_same, rr.put r3⟩) r3
        · exact absurd h3 id
      · exact absurd h3 id
    · exact absurd h3 id
  · exact absurd h1 id
theorem Rkv.drop {g : Gm} {w : Wd} (k : Key) : ∀ {kvs : List (Key × D)} {kvs' : List (Key × V)}, Rkv g w kvs kvs' → Rkv g w (dropD kvs k) (dropK kvs' k)
  | _, _, .nil => .nil
  | _, _, .cons (k := k') h r => by
    have ih := Rkv.drop k r
    unfold dropD dropK at ih ⊢
    by_cases q : k' = k
    · rw [List.filter_cons_of_neg (by simpa using q), List.filter_cons_of_neg (by simpa using q)]; exact ih
    · rw [List.filter_cons_of_pos (by simpa using q), List.filter_cons_of_pos (by simpa using q)]; exact .cons h ih
theorem Rkv.merge {g : Gm} {w : Wd} : ∀ {more : List (Key × D)} {more' : List (Key × V)} {kvs : List (Key × D)} {kvs' : List (Key × V)}, Rkv g w more more' → Rkv g w kvs kvs' → Rkv g w (mergeD kvs more) (mergeK kvs' more')
  | _, _, _, _, .nil, r => r
  | _, _, _, _, .cons (k := k) h m, r => by
    have q := Rkv.merge m (r.put (k := k) h)
    exact q
theorem je_dget1 {o i : ME} {eo ei : Expr} {apos : Pos} (hso : notSuper eo = true) (h1 : notStar ei = true) (hp : (apos.endLine == pos.line) = true) (ho : JE E N sc o eo) (hi : JE E N sc i ei) :
    JE E N sc (.dget1 o i) (.Call (.Attribute eo "get" apos) [ei] [] pos) := fun X W C tk => by
  have m1 : M1 X eo "get" apos ei pos := ⟨base_of hso, few_of (by unfold notStars; simp [h1]) (by simp), hp, by rw [starEach_of h1]; rfl⟩
  refine PE.imp (pe_dget1 (by have : X.A.units + 64 < cLine := C.room.units; omega) (ho X W C tk) (hi X W C tk) m1) fun σ H Q h => ?_
  obtain ⟨w, sl, m, M, S, h⟩ := h
  unfold evalE at h
  refine rd_bind M S h fun d m1 w1 v H1 le1 M1 S1 r1 h1 => ?_
  split at h1
  · rename_i hd
    obtain ⟨p, rfl, isd⟩ := isD_rel M1 r1 hd
    refine ⟨p, rfl, isd, ?_⟩
    refine rd_bind M1 S1 h1 fun y m2 w2 u H2 le2 M2 S2 r2 h2 => ?_
    split at h2
    · rename_i r e
      obtain ⟨q, oo, ep, g1, g2, g3⟩ := atD_rel M2 (r1.mono le2) r2 e
      cases ep
      refine ⟨oo, g1, ?_⟩
      cases r with
      | none => rw [g3 rfl]; exact ok_same h2 M2 .non
      | some d =>
        obtain ⟨v, ev, rv⟩ := g2 d rfl
        rw [ev]; exact ok_same h2 M2 rv
    · exact absurd h2 id
  · exact absurd h1 id
theorem je_dpop2 {o i a : ME} {eo ei ea : Expr} {apos : Pos} (hso : notSuper eo = true) (h1 : notStar ei = true) (h2 : notStar ea = true) (hp : (apos.endLine == pos.line) = true) (ho : JE E N sc o eo) (hi : JE E N sc i ei) (ha : JE E N sc a ea) :
    JE E N sc (.dpop2 o i a) (.Call (.Attribute eo "pop" apos) [ei, ea] [] pos) := fun X W C tk => by
  refine PE.imp (pe_dpop2 (ho X W C tk) (hi X W C tk) (ha X W C tk) (m2_of hso h1 h2 hp)) fun σ H Q h => ?_
  obtain ⟨w, sl, m, M, S, h⟩ := h
  unfold evalE at h
  refine rd_bind M S h fun d m1 w1 v H1 le1 M1 S1 r1 h1 => ?_
  split at h1
  · rename_i hd
    obtain ⟨p, rfl, isd⟩ := isD_rel M1 r1 hd
    refine ⟨p, rfl, isd, ?_⟩
    refine rd_bind M1 S1 h1 fun y m2 w2 u H2 le2 M2 S2 r2 h2 => ?_
    refine rd_bind M2 S2 h2 fun z m3 w3 t H3 le3 M3 S3 r3 h3 => ?_
    replace r1 := (r1.mono le2).mono le3
    replace r2 := r2.mono le3
    replace h3 : PostE E.g w3 _ Q (dpopD d y z m3) := h3
    unfold dpopD at h3
    split at h3
    · rename_i n k hk
      split at h3
      · rename_i kvs en
        obtain ⟨kvs', hH, rr⟩ := M3.ob n _ en
        generalize hv : V.ref p = vp at r1
        cases r1 with
        | ref _ hn =>
          cases hv
          refine ⟨kvs', k, hH, isKey_rel r2 hk, fun v hv => ?_, fun hv => ?_⟩
          · cases q : valD kvs k with
            | none => rw [(rr.val k).2 q] at hv; cases hv
            | some d =>
              rw [q] at h3
              obtain ⟨u, e1, ru⟩ := (rr.val k).1 d q
              rw [hv] at e1; cases e1
              exact h3 w3 _ _ (Wd.le.refl _) (M3.write en trivial trivial ⟨_, upd_same, rr.drop k⟩) ru
          · cases q : valD kvs k with
            | some d =>
              obtain ⟨u, e1, ru⟩ := (rr.val k).1 d q
              rw [hv] at e1; cases e1
            | none =>
              rw [q] at h3
              exact ok_same h3 M3 r3
      · exact absurd h3 id
    · exact absurd h3 id
  · exact absurd h1 id
theorem je_dcop (G : Gok E) {p : Pos} (hg : glB sc "dict" = true) (hs : notStar ea = true) (ha : JE E N sc a ea) : JE E N sc (.dcop a) (.Call (.Name "dict" p) [ea] [] pos) := fun X W C tk => by
  have hm : X.mg "dict" = none := by rw [C.mg]; exact G.dic
  have b : bootBuiltins "dict" = some (.type "dict") := by decide +kernel
  refine PE.imp (pe_callTy call_dictD (C.gl hg) hm b (pa_cons (hs := starEach_of hs) (ha X W C tk) pa_nil) (by decide +kernel) (by decide +kernel) (starEach_of hs) rfl) fun σ H Q h => ?_
  obtain ⟨w, sl, m, M, S, h⟩ := h
  unfold evalE at h
  refine rd_bind M S h fun d m1 w1 v H1 le1 M1 S1 r1 h1 => ?_
  split at h1
  · rename_i kvs e
    obtain ⟨q, kvs', rfl, hr, rr⟩ := dctOf_rel M1 r1 e
    refine ⟨q, kvs', rfl, hr, fun p hp => ?_⟩
    obtain ⟨le, M'⟩ := M1.new (p := p) (o := .dK kvs') (u := .dct kvs) hp ⟨kvs', by
      show upd H1 p (.dK kvs') (if w1.len = w1.len then p else w1.ρ w1.len) = _
      rw [if_pos rfl, upd_same], rr.mono (w1.one_le p)⟩
    have q : Rv E.g (w1.one p) (.ref w1.len) (.ref (if w1.len = w1.len then p else w1.ρ w1.len)) := Rv.ref (w := w1.one p) w1.len (Nat.lt_succ_self _)
    rw [if_pos rfl] at q
    rw [← M1.len] at h1
    exact h1 _ (.ref p) _ le M' q
  · exact absurd h1 id
def tDUpd (td te : TE) : TE := fun σ H Q => td σ H fun x H1 => ∃ a, x = .ref a ∧ IsD H1 a ∧ te σ H1 fun y H2 => ∃ (b : Addr) (kvs more : List (Key × V)), y = .ref b ∧ a ≠ b ∧ H2 a = some (.dK kvs) ∧ Rd H2 b (.dK more) ∧ kvs.length + more.length ≤ sizeLine ∧ Q .non (upd H2 a (.dK (mergeK kvs more)))
theorem pe_dupd {X : Cx} {o e : Expr} {td te : TE} {apos cpos : Pos} (ho : PE X o td) (he : PE X e te) (m : M1 X o "update" apos e cpos) : PE X (.Call (.Attribute o "update" apos) [e] [] cpos) (tDUpd td te) := by
  refine ⟨fun pins s σ H Q I h => wpAny_Call_method m.base m.few m.line PySem.F.plainAttrs_dict PySem.F.slot_dict_update PySem.F.type_dict_update (thn (ho.run pins s σ H _ I h) fun u s1 ⟨x, H1, I1, rx, a, ex, d, q1⟩ => ?_)⟩
  subst ex
  cases (show u = Value.ref a from rx)
  obtain ⟨t1, t2, _⟩ := isD_at I1 d
  refine ⟨t1, t2, ?_⟩
  rw [m.trees]
  refine Calls.callWith_builtin rfl (Calls.evalArgs_plain (Calls.spliced_cons (thn (he.run pins s1 σ H1 _ I1 q1) fun iv s2 ⟨y, H2, I2, ry, b, kvs, more, ey, hne, ha, hb, hz, q2⟩ => Calls.spliced_nil ?_)))
  subst ey
  cases (show iv = Value.ref b from ry)
  obtain ⟨_, hd, vs, rel, dd⟩ := dk_of I2.hok ha
  obtain ⟨_, hd2, vs2, rel2, dd2⟩ := dk_rd I2.hok hb
  refine call_meetsIn PySem.F.slot_dict_update dd.typeIs PySem.F.entry_dict_update (PySem.F.args_dict_update_2 _ _) (meets_dict_update (mixKind X.prog X.w) a b hne hd2) ⟨vs, vs2, dd, dd2, by rw [← rel.length, ← rel2.length]; exact hz, fun h' dd' _ hs => ?_⟩
  have hl : (mergeK kvs more).length ≤ sizeLine := Nat.le_trans (length_mergeK more kvs) hz
  have he' : ∃ q, h'.get? a = some q := let ⟨q, _, _, hq, _⟩ := dd'; ⟨q, hq⟩
  exact ⟨.non, _, d_write (t' := s2.toks) I2 (by rw [ha]; exact True.intro) hs he' (dk_new hl hd (rel2.merge rel) dd'), rfl, q2⟩
theorem je_dupd {o a : ME} {eo ea : Expr} {apos : Pos} (hso : notSuper eo = true) (h1 : notStar ea = true) (hp : (apos.endLine == pos.line) = true) (ho : JE E N sc o eo) (ha : JE E N sc a ea) :
    JE E N sc (.dupd o a) (.Call (.Attribute eo "update" apos) [ea] [] pos) := fun X W C tk => by
  have m1 : M1 X eo "update" apos ea pos := ⟨base_of hso, few_of (by unfold notStars; simp [h1]) (by simp), hp, by rw [starEach_of h1]; rfl⟩
  refine PE.imp (pe_dupd (ho X W C tk) (ha X W C tk) m1) fun σ H Q h => ?_
  obtain ⟨w, sl, m, M, S, h⟩ := h
  unfold evalE at h
  refine rd_bind M S h fun d m1 w1 v H1 le1 M1 S1 r1 h1 => ?_
  split at h1
  · rename_i hd
    obtain ⟨p, rfl, isd⟩ := isD_rel M1 r1 hd
    refine ⟨p, rfl, isd, ?_⟩
    refine rd_bind M1 S1 h1 fun y m2 w2 u H2 le2 M2 S2 r2 h2 => ?_
    replace r1 := r1.mono le2
    replace h2 : PostE E.g w2 _ Q (dupdD d y m2) := h2
    unfold dupdD at h2
    split at h2
    · rename_i n
      split at h2
      · rename_i kvs more en em
        split at h2
        · rename_i hz
          rw [Bool.and_eq_true] at hz
          obtain ⟨kvs', hH, rr⟩ := M2.ob n _ en
          obtain ⟨b, more', rfl, hb, rm⟩ := dctOf_rel M2 r2 em
          generalize hv : V.ref p = vp at r1
          cases r1 with
          | ref _ hn =>
            cases hv
            refine ⟨b, kvs', more', rfl, fun z => ?_, hH, hb, by rw [← rr.length, ← rm.length]; exact sl_szOk hz.1, h2 w2 _ _ (Wd.le.refl _) (M2.write en trivial trivial ⟨_, upd_same, rm.merge rr⟩) .non⟩
            generalize hb2 : V.ref b = vb at r2
            cases r2 with
            | dct hF _ =>
              cases hb2
              rw [← z, M2.nf n _ en trivial] at hF
              cases hF
            | ref k hk =>
              cases hb2
              have hkn : k ≠ n := fun e => by
                have h2 := hz.2
                rw [e] at h2
                simp [notRef] at h2
              have hu : ∃ u, m2[k]? = some u ∧ u.held := by
                unfold dctOf at em
                dsimp only at em
                split at em
                · rename_i q
                  exact ⟨_, q, trivial⟩
                · rename_i q
                  exact ⟨_, q, trivial⟩
                · cases em
              obtain ⟨u, eu, hu⟩ := hu
              exact hkn (M2.inj k n u _ eu hu en trivial z.symm)
            | _ => cases em
        · exact absurd h2 id
      · exact absurd h2 id
    · exact absurd h2 id
  · exact absurd h1 id
def zipV (ks : List Str) (vs : List V) : List (V × V) := (ks.zip vs).map fun kv => (V.str kv.1, kv.2)
def zipVK : List Str → List V → List (Key × V)
  | k :: ks, d :: ds => (.inr k, d) :: zipVK ks ds
  | _, _ => []
structure JD (E : En) (N : List Str) (sc : Scope) (ks : List Str) (as : List ME) (es : List (Option Expr)) (fs : List Expr) : Prop where
  all : es.all (·.isSome) = true
  len : es.length = fs.length
  lk : ks.length = es.length
  la : as.length = ks.length
  run : ∀ X W, Cok E N sc X → Takes X W → ∀ pos : Pos, ∃ trs, PPs X pos es fs trs ∧ ∀ (σ : L2.St) (H : Hp) (Q : List (V × V) → Hp → Prop) (w : Wd) (sl : List (Option D)) (m : Mm), Mem E.g w H m → Slr E.g w sl σ → Post (Rvs E.g) E.g w (xwOf W σ) (fun vs H2 => Q (zipV ks vs) H2) (evalEs E.p E.c as sl m) → tPairs trs σ H Q
theorem jd_nil : JD E N sc [] [] [] [] := ⟨rfl, rfl, rfl, rfl, fun X W C tk pos => ⟨[], pps_nil, fun σ H Q w sl m M S h => by
  unfold evalEs at h
  exact h w [] H (Wd.le.refl _) M .nil⟩⟩
theorem jd_cons {k : Str} {ks : List Str} {as : List ME} {j : Nat} {p : Pos} {es : List (Option Expr)} {fs : List Expr} (ha : JE E N sc a ea) (hr : JD E N sc ks as es fs) : JD E N sc (k :: ks) (a :: as) (some (.Constant (.str k) j p) :: es) (ea :: fs) :=
  ⟨by rw [List.all_cons, hr.all]; rfl, by simp [hr.len], by simp [hr.lk], by simp [hr.la], fun X W C tk pos => by
    obtain ⟨trs, h1, h2⟩ := hr.run X W C tk pos
    refine ⟨_, pps_cons pe_str (ha X W C tk) h1, fun σ H Q w sl m M S h => ?_⟩
    unfold evalEs at h
    refine rd_bind M S h fun d m1 w1 v H1 le1 M1 S1 r1 h3 => ?_
    refine h2 σ H1 _ w1 sl m1 M1 S1 ?_
    cases q : evalEs E.p E.c as sl m1 with
    | bad => rw [q] at h3; exact absurd h3 id
    | exn C p m2 => rw [q] at h3; exact h3
    | ok ds m2 =>
      rw [q, Res.bind_ok] at h3
      intro w2 vs H2 le2 M2 r2
      exact h3 w2 (v :: vs) H2 le2 M2 (.cons (r1.mono le2) r2)⟩
theorem zipVK_map : ∀ (ks : List Str) (vs : List V), zipV ks vs = (zipVK ks vs).map fun kv => (kV kv.1, kv.2)
  | [], vs => rfl
  | k :: ks, [] => rfl
  | k :: ks, v :: vs => by
    have ih := zipVK_map ks vs
    unfold zipV at ih ⊢
    rw [List.zip_cons_cons, List.map_cons, ih]; rfl
theorem zipVK_len : ∀ (ks : List Str) (vs : List V), (zipVK ks vs).length ≤ ks.length
  | [], vs => Nat.le_refl _
  | k :: ks, [] => Nat.zero_le _
  | k :: ks, v :: vs => by
    have := zipVK_len ks vs
    simp only [zipVK, List.length_cons]; omega
theorem zipK_rel {g : Gm} {w : Wd} : ∀ (ks : List Str) {ds : List D} {vs : List V}, Rvs g w ds vs → Rkv g w (zipK ks ds) (zipVK ks vs)
  | [], _, _, r => by cases r <;> exact .nil
  | k :: ks, _, _, .nil => .nil
  | k :: ks, _, _, .cons h r => .cons h (zipK_rel ks r)
theorem je_ddis {ks : List Str} {as : List ME} {es : List (Option Expr)} {fs : List Expr} (h : JD E N sc ks as es fs) (h0 : es.isEmpty = false) (h15 : es.length ≤ 15) : JE E N sc (.ddis ks as) (.Dict es fs pos) := fun X W C tk => by
  obtain ⟨trs, a1, a2⟩ := h.run X W C tk pos
  refine PE.imp (pe_disp a1 h.all h.len (fun z => by rw [z] at h0; cases h0) h15) fun σ H Q hh => ?_
  obtain ⟨w, sl, m, M, S, hh⟩ := hh
  unfold evalE at hh
  intro p hp
  obtain ⟨le, M'⟩ := M.new (p := p) (o := .dK []) (u := .dct []) hp ⟨[], by
    show upd H p (.dK []) (if w.len = w.len then p else w.ρ w.len) = _
    rw [if_pos rfl, upd_same], .nil⟩
  refine a2 σ _ _ (w.one p) sl _ M' (S.mono le) (Post.bind (Post.mono le hh) fun ds m2 _ w2 vs H2 le2 M2 r2 h2 => ?_)
  split at h2
  · rename_i em
    have hρ : w2.ρ m.length = p := by
      rw [← M.len, le2.at_ w.len (Nat.lt_succ_self _)]
      exact if_pos rfl
    obtain ⟨kvs', hH, rr⟩ := M2.ob _ _ em
    cases rr
    rw [hρ] at hH
    refine ⟨hH, zipVK ks vs, zipVK_map ks vs, Nat.le_trans (zipVK_len ks vs) (by rw [h.lk]; exact h15), ?_⟩
    have hw := M2.write (o := .dK (mergeK [] (zipVK ks vs))) em trivial trivial (u := .dct (mergeD [] (zipK ks ds))) ⟨_, upd_same, (zipK_rel ks r2).merge .nil⟩
    rw [hρ] at hw
    have q : Rv E.g w2 (.ref m.length) (.ref (w2.ρ m.length)) := Rv.ref _ (by
      rw [M2.len]; exact (List.getElem?_eq_some_iff.mp em).1)
    rw [hρ] at q
    exact h2 w2 _ _ (Wd.le.refl _) hw q
  · exact absurd h2 id
end R
namespace R
open PySem PySem.Spec PyProof.Rows L2
variable {E : En} {N : List Str} {sc : Scope} {a b : ME} {ea eb : Expr} {pos : Pos}
mutual
def Tg.ix : Tg → List Nat
  | .nm i => [i]
  | .tp ts => Tg.ixs ts
def Tg.ixs : List Tg → List Nat
  | [] => []
  | t :: ts => Tg.ix t ++ Tg.ixs ts
end
/-- nothing but the places is are other -/
def Samb (is : List Nat) (σ σ' : L2.St) : Prop := σ'.length = σ.length ∧ ∀ j, j ∉ is → σ'[j]? = σ[j]?
theorem Samb.refl (is : List Nat) (σ : L2.St) : Samb is σ σ := ⟨rfl, fun _ _ => rfl⟩
theorem Samb.trans {is js : List Nat} {σ σ' σ'' : L2.St} (h : Samb is σ σ') (k : Samb js σ' σ'') : Samb (is ++ js) σ σ'' :=
  ⟨k.1.trans h.1, fun j hj => (k.2 j fun z => hj (List.mem_append_right _ z)).trans (h.2 j fun z => hj (List.mem_append_left _ z))⟩
def rdG (E : En) (t : Tg) : TG := fun v σ H Q => ∃ w m d sl sl', Mem E.g w H m ∧ Rv E.g w d v ∧ Slr E.g w sl σ ∧ bindT t d sl = some sl' ∧ ∀ σ', Slr E.g w sl' σ' → Samb t.ix σ σ' → Q σ' H
def rdGs (E : En) (ts : List Tg) : TGs := fun vs σ H Q => ∃ w m ds sl sl', Mem E.g w H m ∧ Rvs E.g w ds vs ∧ Slr E.g w sl σ ∧ bindTs ts ds sl = some sl' ∧ ∀ σ', Slr E.g w sl' σ' → Samb (Tg.ixs ts) σ σ' → Q σ' H
def JG (E : En) (N : List Str) (sc : Scope) (fs : Str → Bool) (t : Tg) (e : Expr) : Prop := ∀ X : Cx, Cok E N sc X → X.fn = fs → PG X e (rdG E t)
def JGs (E : En) (N : List Str) (sc : Scope) (fs : Str → Bool) (t : List Tg) (e : List Expr) : Prop := ∀ X : Cx, Cok E N sc X → X.fn = fs → PGs X e (rdGs E t)
theorem PG.imp {X : Cx} {e : Expr} {t t' : TG} (h : PG X e t) (k : ∀ v σ H Q, t' v σ H Q → t v σ H Q) : PG X e t' := ⟨fun pins s σ H v u Q I r q => h.run pins s σ H v u Q I r (k _ _ _ _ q)⟩
theorem PGs.imp {X : Cx} {e : List Expr} {t t' : TGs} (h : PGs X e t) (k : ∀ v σ H Q, t' v σ H Q → t v σ H Q) : PGs X e t' := ⟨fun pins s σ H v u Q I r q => h.run pins s σ H v u Q I r (k _ _ _ _ q)⟩
/-- a name that may be stored -/
def locB (sc : Scope) (fs : Str → Bool) (x : Str) : Bool := match sc.names.lookup x with
  | some .local => true | some .cell => fs x | _ => false
theorem loc_of {sc : Scope} {fs : Str → Bool} {x : Str} (h : locB sc fs x = true) : L2.Loc sc x ∧ (fs x = true ∨ sc.names.lookup x = some .local) := by
  unfold locB at h
  unfold L2.Loc
  split at h <;> first | (cases h; done) | skip
  · exact ⟨.inl (by assumption), .inr (by assumption)⟩
  · exact ⟨.inr (by assumption), .inl h⟩
theorem jg_nm {fs : Str → Bool} {i : Nat} {x : Str} (h1 : N[i]? = some x) (h2 : locB sc fs x = true) : JG E N sc fs (.nm i) (.Name x pos) := fun X C hf => by
  have l := loc_of h2
  refine PG.imp (pg_name (X := X) (i := i) (by rw [C.Ns]; exact C.nd) (by rw [C.Ns]; exact h1) (by rw [C.sc]; exact l.1) (by rw [hf, C.sc]; exact l.2)) fun v σ H Q h => ?_
  obtain ⟨w, m, d, sl, sl', M, r, S, e, q⟩ := h
  unfold bindT at e
  cases e
  refine q _ (S.set r) ⟨by rw [List.length_set], fun j hj => ?_⟩
  have ne : i ≠ j := fun z => hj (by rw [← z]; exact List.mem_singleton.mpr rfl)
  rw [List.getElem?_set_ne ne]
theorem jgs_nil {fs : Str → Bool} : JGs E N sc fs [] [] := fun X C hf => PGs.imp pgs_nil fun v σ H Q h => by
  obtain ⟨w, m, d, sl, sl', M, r, S, e, q⟩ := h
  cases r with
  | nil =>
    unfold bindTs at e
    cases e
    exact ⟨rfl, q σ S (Samb.refl _ _)⟩
  | cons _ _ => unfold bindTs at e; cases e
theorem assignEach_of {e : Expr} {es : List Expr} {env : Env} (h : notStar e = true) : (assignEach (e :: es) env).map (·.2) = assign e env :: (assignEach es env).map (·.2) := by
  cases e <;> first | rfl | cases h
theorem assignEach_len : ∀ {es : List Expr} {env : Env}, (assignEach es env).length = es.length
  | [], _ => rfl
  | e :: es, env => by
    have ih := assignEach_len (es := es) (env := env)
    cases e <;> (show (assignEach es env).length + 1 = es.length + 1; rw [ih])
theorem assignEach_star : ∀ {es : List Expr} {env : Env}, notStars es = true → (assignEach es env).findIdx? (·.1) = none
  | [], _, _ => rfl
  | e :: es, env, h => by
    unfold notStars at h
    rw [List.all_cons, Bool.and_eq_true] at h
    have ih := assignEach_star (es := es) (env := env) h.2
    have e1 : ∃ f, assignEach (e :: es) env = (false, f) :: assignEach es env := by
      cases e <;> first | exact ⟨_, rfl⟩ | cases h.1
    obtain ⟨f, e1⟩ := e1
    rw [e1, List.findIdx?_cons]
    simp [ih]
theorem jgs_cons {fs : Str → Bool} {t : Tg} {ts : List Tg} {e : Expr} {es : List Expr} (hs : notStar e = true) (h1 : JG E N sc fs t e) (h2 : JGs E N sc fs ts es) : JGs E N sc fs (t :: ts) (e :: es) := fun X C hf =>
  PGs.imp (pgs_cons (h1 X C hf) (h2 X C hf) (assignEach_of hs)) fun v σ H Q h => by
    obtain ⟨w, m, ds, sl, sl', M, r, S, e, q⟩ := h
    cases r with
    | nil => unfold bindTs at e; cases e
    | cons r1 r2 =>
      unfold bindTs at e
      rw [Option.bind_eq_some_iff] at e
      obtain ⟨sl1, e1, e2⟩ := e
      refine ⟨_, _, rfl, w, m, _, sl, sl1, M, r1, S, e1, fun σ1 S1 b1 => ?_⟩
      exact ⟨w, m, _, sl1, sl', M, r2, S1, e2, fun σ2 S2 b2 => q σ2 S2 (b1.trans b2)⟩
theorem bindTs_len : ∀ {ts : List Tg} {ds : List D} {sl sl' : List (Option D)}, bindTs ts ds sl = some sl' → ts.length = ds.length
  | [], [], _, _, _ => rfl
  | t :: ts, d :: ds, sl, sl', h => by
    unfold bindTs at h
    rw [Option.bind_eq_some_iff] at h
    obtain ⟨sl1, _, e2⟩ := h
    rw [List.length_cons, List.length_cons, bindTs_len e2]
  | [], d :: ds, _, _, h => by unfold bindTs at h; cases h
  | t :: ts, [], _, _, h => by unfold bindTs at h; cases h
section
variable {prog : Program} {w : World} {A : Around} {E : Value → Shared → Prop} {s : Shared}
theorem isList_but {it l : Addr} {h h' : Heap} {items : Array Value} (hl : h.IsList l items) (k : Heap.ExtBut it h h') (hne : l ≠ it) : h'.IsList l items := by
  obtain ⟨o, ho, q⟩ := hl
  exact ⟨o, k l o hne ho, q⟩
theorem draw_list {it t : Addr} {items : Array Value} (hne : t ≠ it) : ∀ (n i : Nat) (s : Shared) (Q : List Value → Shared → Prop), s.heap.IsListIter it t i → s.heap.IsList t items → i + n ≤ items.size →
    (∀ h', h'.IsListIter it t (i + n) → Heap.SameBut it s.heap h' → Q ((items.toList.drop i).take n) { s with heap := h' }) → wpAny (model prog w) A (draw (.ref it) n) Q E s
  | 0, i, s, Q, hit, _, _, hQ => by
    show wpAny _ _ (pure []) Q E s
    exact wpAny_pure (by simpa using hQ s.heap hit (Heap.SameBut.refl ..))
  | n + 1, i, s, Q, hit, ht, hle, hQ => by
    have hlt : i < items.size := by omega
    show wpAny _ _ (pyNext (.ref it) >>= _) Q E s
    refine wpAny_bind (wpAny_pyNext_list_item hit ht (x := items[i]) (by simp [hlt]) fun h₁ hit₁ hs₁ => ?_)
    refine wpAny_bind (wpAny_holding (draw_list hne n (i + 1) _ _ hit₁ (isList_but ht hs₁.extBut hne) (by omega) fun h₂ hit₂ hs₂ => wpAny_pure ?_))
    have hd : items.toList.drop i = items[i] :: items.toList.drop (i + 1) := by simp [List.drop_eq_getElem_cons, hlt]
    have := hQ h₂ (by rw [show i + (n + 1) = i + 1 + n by omega]; exact hit₂) (hs₁.trans hs₂)
    rw [hd, List.take_succ_cons] at this
    exact this
theorem unpackItems_list {t : Addr} {items : Array Value} {Q : List Value → Shared → Prop} (hh : A.handled = none) (ht : s.heap.IsList t items)
    (hQ : ∀ h', Heap.ExtBut s.heap.objs.size s.heap h' → Q items.toList { s with heap := h' }) : wpAny (model prog w) A (unpackItems (.ref t) items.size none) Q E s := by
  have hlt : t ≠ s.heap.objs.size := by obtain ⟨o, ho, _⟩ := ht; exact Nat.ne_of_lt (Heap.lt_size ho)
  have hp : (s.heap.push { cls := .type "list_iterator", data := .fields #[.ref t, .int 0 0] }).IsList t items := by
    obtain ⟨o, ho, q⟩ := ht
    exact ⟨o, Heap.get?_push_of_some _ ho, q⟩
  unfold unpackItems
  refine wpAny_bind ?_
  · unfold notIterableAtAll
    refine wpAny_bind (wpAny_specialOf ht.typeIs slot_list_iter.lookup ?_)
    refine wpAny_pure ?_
    simp only [Bool.false_eq_true, if_false]
    refine wpAny_bind (wpAny_holding (wpAny_pyIter_list ht ?_))
    refine wpAny_bind (wpAny_holding (draw_list hlt items.size 0 _ _ ⟨_, Heap.get?_push_size _ rfl, rfl, rfl⟩ hp (by omega) fun h₁ hit₁ hs₁ => ?_))
    have hall : List.take items.size (List.drop 0 items.toList) = items.toList := by
      rw [List.drop_zero]; exact List.take_of_length_le (by simp)
    rw [hall]
    rw [if_neg (by simp)]
    have ht₁ : h₁.IsList t items := isList_but hp hs₁.extBut hlt
    refine wpAny_bind (wpAny_holding (wpAny_pyNext_list_end hh hit₁ ht₁ (by simp) fun h₂ he₂ => ?_))
    simp only [Option.isSome_none, Bool.false_eq_true, if_false]
    refine wpAny_pure (hQ h₂ fun b o hb e => he₂ b o hb (hs₁.extBut b o hb (Heap.get?_push_of_some _ e)))
theorem assign_Tuple_list {env : Env} {elts : List Expr} {x1} {pos : Pos} {t : Addr} {items : Array Value} {Q : Unit → Shared → Prop} (hh : A.handled = none) (ht : s.heap.IsList t items)
    (hn : (assignEach elts env).length = items.size) (hstar : (assignEach elts env).findIdx? (·.1) = none)
    (h : ∀ h', Heap.ExtBut s.heap.objs.size s.heap h' → wpAny (model prog w) A (assignInOrder ((assignEach elts env).map (·.2)) items.toList) Q E { s with heap := h' }) :
    wpAny (model prog w) A (assign (.Tuple elts x1 pos) env (.ref t)) Q E s := by
  rw [assign_Tuple]
  refine wpAny_bind (wpAny_standAt ?_)
  unfold unpack
  rw [hn, hstar]
  exact wpAny_bind (wpAny_holding (unpackItems_list hh ht h))
end
theorem pg_tup2 {X : Cx} {es : List Expr} {k : Nat} {t : TGs} {n : Nat} (hc : X.calm = true) (h : PGs X es t)
    (hn : (assignEach es X.env).length = n) (hst : (assignEach es X.env).findIdx? (·.1) = none) : PG X (.Tuple es k pos) (fun v σ H Q => ∃ a xs, v = .ref a ∧ (SqT X.K H a xs ∨ SqL X.K H a xs) ∧ xs.length = n ∧ t xs σ H Q) := by
  refine ⟨fun pins s σ H v u Q I r hw => ?_⟩
  obtain ⟨a, xs, e1, hq, hl, hw⟩ := hw
  rcases hq with hq | hq
  · exact (pg_tup (pos := pos) (k := k) hc h hn hst).run pins s σ H v u Q I r ⟨a, xs, e1, hq, hl, hw⟩
  · subst e1
    cases r
    obtain ⟨its, rv, ht, hz⟩ := I.list hq
    refine assign_Tuple_list (I.ok.hd hc) ht.isList (by simp [hn, ← hl, rv.length]) hst fun h' hx => ?_
    have I1 : Inv X pins σ H { s with heap := h' } := I.kept (t' := s.toks) fun b o e => hx b o (Nat.ne_of_lt (Heap.lt_size e)) e
    exact h.run pins _ σ H xs _ Q I1 (by simpa using rv) hw
theorem jg_tp {fs : Str → Bool} {ts : List Tg} {es : List Expr} {k : Nat} (hs : notStars es = true) (hl : ts.length = es.length) (h : JGs E N sc fs ts es) : JG E N sc fs (.tp ts) (.Tuple es k pos) := fun X C hf =>
  PG.imp (pg_tup2 (n := es.length) C.calm (h X C hf) assignEach_len (assignEach_star hs)) fun v σ H Q h => by
    obtain ⟨w, m, d, sl, sl', M, r, S, e, q⟩ := h
    cases r with
    | tup hq rs =>
      unfold bindT at e
      refine ⟨_, _, rfl, .inl (by rw [C.K]; exact sqT_mono M.fr hq.sq), ?_, w, m, _, sl, sl', M, rs, S, e, q⟩
      rw [← rs.length, ← bindTs_len e, hl]
    | pr hq r1 r2 =>
      unfold bindT at e
      refine ⟨_, _, rfl, .inl (by rw [C.K]; exact sqT_mono M.fr hq), ?_, w, m, _, sl, sl', M, .cons r1 (.cons r2 .nil), S, e, q⟩
      have := bindTs_len e
      rw [← hl, this]; rfl
    | lst hq rs =>
      unfold bindT at e
      refine ⟨_, _, rfl, .inr (by rw [C.K]; exact SqL.of (M.fr _ _ hq)), ?_, w, m, _, sl, sl', M, rs, S, e, q⟩
      rw [← rs.length, ← bindTs_len e, hl]
    | _ => unfold bindT at e; cases e
/-- J goes over xs -/
structure Wk (g : Gm) (w : Wd) (xs : List D) (J : L2.It) : Prop where
  go : ∀ (i : Nat) w' H m, w.le w' → Mem g w' H m → i < xs.length → J.go i H
  stop : ∀ (i : Nat) w' H m, w.le w' → Mem g w' H m → xs.length ≤ i → J.stop i H
  yld : ∀ (i : Nat) x w' H H' m, w.le w' → Mem g w' H m → i < xs.length → J.yld i H x H' → ∃ d w'', xs[i]? = some d ∧ w'.le w'' ∧ Mem g w'' H' m ∧ Rv g w'' d x
abbrev rdI (E : En) (W : WX) (it : It) : TI := rdOf (Wk E.g) E W (evalI E.p E.c it)
def JI (E : En) (N : List Str) (sc : Scope) (it : It) (tg iter : Expr) : Prop := ∀ (X : Cx) (W : WX), Cok E N sc X → Takes X W → PI X tg iter (rdI E W it)
theorem wk_list {g : Gm} {w : Wd} {a : Addr} {vs : List V} {xs : List D} (h : SqL g.K w.F a vs) (r : Rvs g w xs vs) : Wk g w xs (Itl g.K a) where
  go := fun i w' H m le M hi => by
    obtain ⟨v, hv, _⟩ := r.get (List.getElem?_eq_getElem hi)
    exact ⟨vs, v, sqL_mono M.fr (sqL_mono le.fr h), hv⟩
  stop := fun i w' H m le M hi => ⟨vs, sqL_mono M.fr (sqL_mono le.fr h), by rw [← r.length]; exact hi⟩
  yld := fun i x w' H H' m le M hi y => by
    obtain ⟨e, y⟩ := y
    subst e
    have hv := y vs (sqL_mono M.fr (sqL_mono le.fr h))
    obtain ⟨d, hd, rd⟩ := r.got hv
    exact ⟨d, w', hd, Wd.le.refl _, M, rd.mono le⟩
theorem wk_tup {g : Gm} {w : Wd} {a : Addr} {vs : List V} {xs : List D} (h : SqT g.K w.F a vs) (r : Rvs g w xs vs) : Wk g w xs (Itt g.K a) where
  go := fun i w' H m le M hi => by
    obtain ⟨v, hv, _⟩ := r.get (List.getElem?_eq_getElem hi)
    exact ⟨vs, v, sqT_mono M.fr (sqT_mono le.fr h), hv⟩
  stop := fun i w' H m le M hi => ⟨vs, sqT_mono M.fr (sqT_mono le.fr h), by rw [← r.length]; exact hi⟩
  yld := fun i x w' H H' m le M hi y => by
    obtain ⟨e, y⟩ := y
    subst e
    have hv := y vs (sqT_mono M.fr (sqT_mono le.fr h))
    obtain ⟨d, hd, rd⟩ := r.got hv
    exact ⟨d, w', hd, Wd.le.refl _, M, rd.mono le⟩
theorem wk_rng {g : Gm} {w : Wd} {n : Nat} : Wk g w ((List.range n).map fun (k : Nat) => D.int k) (Itr 0 n) where
  go := fun i w' H m le M hi => by
    show i < n
    simpa using hi
  stop := fun i w' H m le M hi => by
    show n ≤ i
    simpa using hi
  yld := fun i x w' H H' m le M hi y => by
    obtain ⟨e, y⟩ := y
    subst e
    subst y
    have hi' : i < n := by simpa using hi
    refine ⟨.int i, w', ?_, Wd.le.refl _, M, ?_⟩
    · rw [List.getElem?_map, List.getElem?_range hi']; rfl
    · rw [Int.zero_add]; exact .int _
theorem wk_rngC {g : Gm} {w : Wd} {lo c : Int} {n : Nat} : Wk g w (rngL lo n c) (Itc lo c n) where
  go := fun i w' H m le M hi => by
    show i < n
    simpa [rngL] using hi
  stop := fun i w' H m le M hi => by
    show n ≤ i
    simpa [rngL] using hi
  yld := fun i x w' H H' m le M hi y => by
    obtain ⟨e, y⟩ := y
    subst e
    subst y
    have hi' : i < n := by simpa [rngL] using hi
    refine ⟨.int (lo + (i : Int) * c), w', ?_, Wd.le.refl _, M, .int _⟩
    unfold rngL
    rw [List.getElem?_map, List.getElem?_range hi']; rfl
theorem wk_rng2 {g : Gm} {w : Wd} {lo : Int} {n : Nat} : Wk g w (rngL lo n 1) (Itr lo n) where
  go := fun i w' H m le M hi => by
    show i < n
    simpa [rngL] using hi
  stop := fun i w' H m le M hi => by
    show n ≤ i
    simpa [rngL] using hi
  yld := fun i x w' H H' m le M hi y => by
    obtain ⟨e, y⟩ := y
    subst e
    subst y
    have hi' : i < n := by simpa [rngL] using hi
    refine ⟨.int (lo + (i : Int) * 1), w', ?_, Wd.le.refl _, M, ?_⟩
    · unfold rngL
      rw [List.getElem?_map, List.getElem?_range hi']; rfl
    · rw [Int.mul_one]; exact .int _
theorem wk_zipT {g : Gm} {w : Wd} {a b : Addr} {vs us : List V} {xs ys : List D} (h : SqT g.K w.F a vs) (r : Rvs g w xs vs) (h2 : SqT g.K w.F b us) (r2 : Rvs g w ys us) : Wk g w ((xs.zip ys).map fun q => D.pr q.1 q.2) (RZ.ItzT g.K a b) where
  go := fun i w' H m le M hi => by
    have hi : i < xs.length ∧ i < ys.length := by simp at hi; omega
    obtain ⟨v, hv, _⟩ := r.get (List.getElem?_eq_getElem hi.1)
    obtain ⟨u, hu, _⟩ := r2.get (List.getElem?_eq_getElem hi.2)
    exact ⟨vs, us, v, u, sqT_mono M.fr (sqT_mono le.fr h), sqT_mono M.fr (sqT_mono le.fr h2), hv, hu⟩
  stop := fun i w' H m le M hi => by
    refine ⟨vs, us, sqT_mono M.fr (sqT_mono le.fr h), sqT_mono M.fr (sqT_mono le.fr h2), ?_⟩
    rw [← r.length, ← r2.length]
    simp at hi
    omega
  yld := fun i x w' H H' m le M hi y => by
    obtain ⟨T, v, u, rfl, hT, rfl, f1, f2⟩ := y
    obtain ⟨d, hd, rd⟩ := r.got (f1 vs (sqT_mono M.fr (sqT_mono le.fr h)))
    obtain ⟨e, he, re⟩ := r2.got (f2 us (sqT_mono M.fr (sqT_mono le.fr h2)))
    obtain ⟨le', M'⟩ := M.laid (p := T) (o := .tup [v, u]) hT
    refine ⟨.pr d e, _, ?_, le', M', .pr (SqT.of upd_same) (rd.mono (le.trans le')) (re.mono (le.trans le'))⟩
    rw [List.getElem?_map, List.getElem?_zip_eq_some (z := (d, e)) |>.mpr ⟨hd, he⟩]; rfl
/-- a list that stays -/
def StL (g : Gm) (w : Wd) (a : Addr) (vs : List V) : Prop := ∀ w' H m, w.le w' → Mem g w' H m → SqL g.K H a vs
theorem stL_of {g : Gm} {w : Wd} {a : Addr} {vs : List V} (h : SqL g.K w.F a vs) : StL g w a vs := fun _ _ _ le M => sqL_mono M.fr (sqL_mono le.fr h)
theorem frzL_rel {g : Gm} {w : Wd} {H : Hp} {m : Mm} (M : Mem g w H m) {d : D} {v : V} {xs : List D} (r : Rv g w d v) (e : frzL m d = some xs) : ∃ a us, v = .ref a ∧ StL g w a us ∧ Rvs g w xs us := by
  cases r with
  | lst hq rs => cases e; exact ⟨_, _, rfl, stL_of (SqL.of hq), rs⟩
  | scr hq rs => cases e; exact ⟨_, _, rfl, stL_of hq, rs⟩
  | ref n hn =>
    unfold frzL at e
    dsimp only at e
    split at e
    · rename_i ys q
      cases e
      obtain ⟨od, vs, h1, h2⟩ := M.ob n _ q
      exact ⟨_, vs, rfl, fun w' H' m' le M' => .inl (.inr ⟨od, M'.gr _ _ (le.gr _ _ h1)⟩), h2⟩
    · cases e
  | _ => cases e
theorem wk_zip {g : Gm} {w : Wd} {a b : Addr} {vs us : List V} {xs ys : List D} (h : StL g w a vs) (r : Rvs g w xs vs) (h2 : StL g w b us) (r2 : Rvs g w ys us) : Wk g w ((xs.zip ys).map fun q => D.pr q.1 q.2) (Itz g.K a b) where
  go := fun i w' H m le M hi => by
    have hi : i < xs.length ∧ i < ys.length := by simp at hi; omega
    obtain ⟨v, hv, _⟩ := r.get (List.getElem?_eq_getElem hi.1)
    obtain ⟨u, hu, _⟩ := r2.get (List.getElem?_eq_getElem hi.2)
    exact ⟨vs, us, v, u, h _ _ _ le M, h2 _ _ _ le M, hv, hu⟩
  stop := fun i w' H m le M hi => by
    refine ⟨vs, us, h _ _ _ le M, h2 _ _ _ le M, ?_⟩
    rw [← r.length, ← r2.length]
    simp at hi
    omega
  yld := fun i x w' H H' m le M hi y => by
    obtain ⟨T, v, u, rfl, hT, rfl, f1, f2⟩ := y
    obtain ⟨d, hd, rd⟩ := r.got (f1 vs (h _ _ _ le M))
    obtain ⟨e, he, re⟩ := r2.got (f2 us (h2 _ _ _ le M))
    obtain ⟨le', M'⟩ := M.laid (p := T) (o := .tup [v, u]) hT
    refine ⟨.pr d e, _, ?_, le', M', .pr (SqT.of upd_same) (rd.mono (le.trans le')) (re.mono (le.trans le'))⟩
    rw [List.getElem?_map, List.getElem?_zip_eq_some (z := (d, e)) |>.mpr ⟨hd, he⟩]; rfl
theorem wk_enum {g : Gm} {w : Wd} {a : Addr} {vs : List V} {xs : List D} (h : SqL g.K w.F a vs) (r : Rvs g w xs vs) : Wk g w ((List.range xs.length).zip xs |>.map fun q => D.pr (.int q.1) q.2) (Ite g.K a) where
  go := fun i w' H m le M hi => by
    have hi : i < xs.length := by simpa using hi
    obtain ⟨v, hv, _⟩ := r.get (List.getElem?_eq_getElem hi)
    exact ⟨vs, v, sqL_mono M.fr (sqL_mono le.fr h), hv⟩
  stop := fun i w' H m le M hi => by
    refine ⟨vs, sqL_mono M.fr (sqL_mono le.fr h), ?_⟩
    rw [← r.length]
    simpa using hi
  yld := fun i x w' H H' m le M hi y => by
    have hi : i < xs.length := by simpa using hi
    obtain ⟨T, v, rfl, hT, rfl, f1⟩ := y
    obtain ⟨d, hd, rd⟩ := r.got (f1 vs (sqL_mono M.fr (sqL_mono le.fr h)))
    obtain ⟨le', M'⟩ := M.laid (p := T) (o := .tup [.int (i : Nat), v]) hT
    refine ⟨.pr (.int i) d, _, ?_, le', M', .pr (SqT.of upd_same) (.int _) (rd.mono (le.trans le'))⟩
    rw [List.getElem?_map, List.getElem?_zip_eq_some (z := (i, d)) |>.mpr ⟨List.getElem?_range hi, hd⟩]; rfl
theorem wk_str {g : Gm} {w : Wd} {x : Str} : Wk g w (x.cps.toList.map fun c => D.str ⟨#[c]⟩) (L2.Its x) where
  go := fun i w' H m le M hi => by
    show i < x.cps.size
    simpa using hi
  stop := fun i w' H m le M hi => by
    show x.cps.size ≤ i
    simpa using hi
  yld := fun i v w' H H' m le M hi y => by
    obtain ⟨e, c, hc, rfl⟩ := y
    subst e
    refine ⟨.str ⟨#[c]⟩, w', ?_, Wd.le.refl _, M, .str _⟩
    rw [List.getElem?_map, Array.getElem?_toList, hc]; rfl
theorem rkv_at : ∀ {kvs : List (Key × R.D)} {kvs' : List (Key × V)} {g : Gm} {w : Wd}, Rkv g w kvs kvs' → ∀ {i : Nat} {k : Key} {v : V}, kvs'[i]? = some (k, v) → (kvs.map fun kv => keyD kv.1)[i]? = some (keyD k)
  | _, _, _, _, .nil, i, k, v, e => by simp at e
  | _, _, _, _, .cons _ r, 0, k, v, e => by
    simp at e
    obtain ⟨rfl, rfl⟩ := e
    rfl
  | _, _, _, _, .cons _ r, i + 1, k, v, e => by
    have := rkv_at r (i := i) (by simpa using e)
    simpa using this
theorem keyD_rel {g : Gm} {w : Wd} (k : Key) : Rv g w (keyD k) (kV k) := by cases k <;> constructor
theorem wk_keys {g : Gm} {w : Wd} {n : Nat} {od : Obj} {kvs : List (Key × R.D)} {kvs' : List (Key × V)} {a : Addr} (hG : w.G a = some (.frz od (.dK kvs'))) (r : Rkv g w kvs kvs') : Wk g w (kvs.map fun kv => keyD kv.1) (Itk a od kvs') where
  go := fun i w' H m le M hi => ⟨M.gr _ _ (le.gr _ _ hG), by rw [List.length_map, r.length] at hi; exact hi⟩
  stop := fun i w' H m le M hi => ⟨M.gr _ _ (le.gr _ _ hG), by rw [List.length_map, r.length] at hi; exact hi⟩
  yld := fun i x w' H H' m le M hi y => by
    obtain ⟨rfl, k, v, e, rfl⟩ := y
    exact ⟨keyD k, w', rkv_at r e, Wd.le.refl _, M, keyD_rel k⟩
theorem Rtk.got {g : Gm} {w : Wd} : ∀ {kvs : List (R.D × R.D)} {xs : List (NK × Addr × V)}, Rtk g w kvs xs → ∀ {i : Nat} {k : NK} {b : Addr} {v : V}, xs[i]? = some (k, b, v) → ∃ y, (kvs.map fun kv => kv.1)[i]? = some y ∧ Rv g w y (.ref b)
  | _, _, .nil, i, k, b, v, e => by simp at e
  | _, _, .cons _ r _ _, 0, k, b, v, e => by
    simp at e
    obtain ⟨rfl, rfl, rfl⟩ := e
    exact ⟨_, rfl, r⟩
  | _, _, .cons _ _ _ t, i + 1, k, b, v, e => by
    obtain ⟨y, h1, h2⟩ := Rtk.got t (i := i) (by simpa using e)
    exact ⟨y, by simpa using h1, h2⟩
theorem wk_keysX {g : Gm} {w : Wd} {od : Obj} {kvs : List (R.D × R.D)} {xs : List (NK × Addr × V)} {a : Addr} (hG : w.G a = some (.frz od (tcO g.W a xs))) (r : Rtk g w kvs xs) : Wk g w (kvs.map fun kv => kv.1) (Itkx g.W a od xs) where
  go := fun i w' H m le M hi => ⟨M.gr _ _ (le.gr _ _ hG), by rw [List.length_map, r.length] at hi; exact hi⟩
  stop := fun i w' H m le M hi => ⟨M.gr _ _ (le.gr _ _ hG), by rw [List.length_map, r.length] at hi; exact hi⟩
  yld := fun i x w' H H' m le M hi y => by
    obtain ⟨rfl, k, b, v, e, rfl⟩ := y
    obtain ⟨y, h1, h2⟩ := r.got e
    exact ⟨y, w', h1, Wd.le.refl _, M, h2.mono le⟩
/-- locked, or as it was -/
def LkO : O → O → Prop
  | .dct kvs, o => o = .ldct kvs
  | .lst xs, o => o = .llst xs
  | .tct kvs, o => o = .ltct kvs
  | _, _ => False
theorem lk_lst {m : Mm} {n : Nat} {u v : O} (e : m[n]? = some u) (k : LkO u v) (d : D) : lstOf (m.set n v) d = lstOf m d := by
  cases d with
  | ref j =>
    by_cases z : n = j
    · subst z
      cases u <;> first | exact k.elim | skip
      · cases k
        simp only [lstOf, e, List.getElem?_set_self (List.getElem?_eq_some_iff.mp e).1]
      · cases k
        simp only [lstOf, e, List.getElem?_set_self (List.getElem?_eq_some_iff.mp e).1]
      · cases k
        simp only [lstOf, e, List.getElem?_set_self (List.getElem?_eq_some_iff.mp e).1]
    · simp only [lstOf, List.getElem?_set_ne z]
  | _ => rfl
theorem lk_seq {m : Mm} {n : Nat} {u v : O} (e : m[n]? = some u) (k : LkO u v) (d : D) : seqOf (m.set n v) d = seqOf m d := by
  have q := lk_lst e k d
  cases d <;> first | rfl | exact q
theorem lk_dct {m : Mm} {n : Nat} {u v : O} (e : m[n]? = some u) (k : LkO u v) (d : D) : dctOf (m.set n v) d = dctOf m d := by
  cases d with
  | ref j =>
    by_cases z : n = j
    · subst z
      cases u <;> first | exact k.elim | skip
      · cases k
        simp only [dctOf, e, List.getElem?_set_self (List.getElem?_eq_some_iff.mp e).1]
      · cases k
        simp only [dctOf, e, List.getElem?_set_self (List.getElem?_eq_some_iff.mp e).1]
      · cases k
        simp only [dctOf, e, List.getElem?_set_self (List.getElem?_eq_some_iff.mp e).1]
    · simp only [dctOf, List.getElem?_set_ne z]
  | _ => rfl
theorem lk_fld {m : Mm} {n : Nat} {u v : O} (e : m[n]? = some u) (k : LkO u v) (f : Nat) (d : D) : fldD (m.set n v) f d = fldD m f d := by
  cases d with
  | ref j =>
    by_cases z : n = j
    · subst z
      cases u <;> first | exact k.elim | skip
      · cases k
        simp only [fldD, e, List.getElem?_set_self (List.getElem?_eq_some_iff.mp e).1]
      · cases k
        simp only [fldD, e, List.getElem?_set_self (List.getElem?_eq_some_iff.mp e).1]
      · cases k
        simp only [fldD, e, List.getElem?_set_self (List.getElem?_eq_some_iff.mp e).1]
    · simp only [fldD, List.getElem?_set_ne z]
  | _ => rfl
theorem lk_tct {m : Mm} {n : Nat} {u v : O} (e : m[n]? = some u) (k : LkO u v) (d : D) : tctOf (m.set n v) d = tctOf m d := by
  cases d with
  | ref j =>
    by_cases z : n = j
    · subst z
      cases u <;> first | exact k.elim | skip
      · cases k
        simp only [tctOf, e, List.getElem?_set_self (List.getElem?_eq_some_iff.mp e).1]
      · cases k
        simp only [tctOf, e, List.getElem?_set_self (List.getElem?_eq_some_iff.mp e).1]
      · cases k
        simp only [tctOf, e, List.getElem?_set_self (List.getElem?_eq_some_iff.mp e).1]
    · simp only [tctOf, List.getElem?_set_ne z]
  | _ => rfl
theorem lk_idx {m : Mm} {n : Nat} {u v : O} (e : m[n]? = some u) (k : LkO u v) (x y : D) : idxD (m.set n v) x y = idxD m x y := by
  cases x <;> cases y <;> simp only [idxD, atT, lk_seq e k, lk_dct e k, lk_tct e k]
theorem path_lk {n : Nat} {u v : O} {m : Mm} (e : m[n]? = some u) (k : LkO u v) {sl : List (Option D)} : ∀ (x : ME) (d : D) (m1 : Mm), isPath x = true → evalE E.p E.c x sl m = .ok d m1 → m1 = m ∧ evalE E.p E.c x sl (m.set n v) = .ok d (m.set n v)
  | .var i, d, m1, _, h => by
    simp only [evalE] at h ⊢
    split at h
    · cases h
      rename_i q
      exact ⟨rfl, by simp only [q]⟩
    · cases h
  | .lit c, d, m1, _, h => by
    simp only [evalE] at h ⊢
    cases h
    exact ⟨rfl, rfl⟩
  | .fld o f, d, m1, hp, h => by
    simp only [isPath] at hp
    simp only [evalE] at h ⊢
    cases q : evalE E.p E.c o sl m with
    | bad => rw [q] at h; cases h
    | exn C p s => rw [q] at h; cases h
    | ok a m2 =>
      obtain ⟨rfl, q2⟩ := path_lk e k o a m2 hp q
      rw [q, Res.bind_ok] at h
      rw [q2, Res.bind_ok, lk_fld e k]
      split at h
      · cases h
        rename_i q3
        exact ⟨rfl, by simp only [q3]⟩
      · cases h
  | .idx o i, d, m1, hp, h => by
    simp only [isPath, Bool.and_eq_true] at hp
    simp only [evalE] at h ⊢
    cases q : evalE E.p E.c o sl m with
    | bad => rw [q] at h; cases h
    | exn C p s => rw [q] at h; cases h
    | ok a m2 =>
      obtain ⟨rfl, q2⟩ := path_lk e k o a m2 hp.1 q
      rw [q, Res.bind_ok] at h
      cases z : evalE E.p E.c i sl m2 with
      | bad => rw [z] at h; cases h
      | exn C p s => rw [z] at h; cases h
      | ok b m3 =>
        obtain ⟨rfl, z2⟩ := path_lk e k i b m3 hp.2 z
        rw [z, Res.bind_ok] at h
        rw [q2, Res.bind_ok, z2, Res.bind_ok, lk_idx e k]
        split at h
        · cases h
          rename_i q3
          exact ⟨rfl, by simp only [q3]⟩
        · cases h
theorem wk_listG {g : Gm} {w : Wd} {a : Addr} {od : Obj} {vs : List V} {xs : List D} (h : w.G a = some (.frz od (.lst vs))) (r : Rvs g w xs vs) : Wk g w xs (Itl g.K a) where
  go := fun i w' H m le M hi => by
    obtain ⟨v, hv, _⟩ := r.get (List.getElem?_eq_getElem hi)
    exact ⟨vs, v, .inl (.inr ⟨od, M.gr _ _ (le.gr _ _ h)⟩), hv⟩
  stop := fun i w' H m le M hi => ⟨vs, .inl (.inr ⟨od, M.gr _ _ (le.gr _ _ h)⟩), by rw [← r.length]; exact hi⟩
  yld := fun i x w' H H' m le M hi y => by
    obtain ⟨e, y⟩ := y
    subst e
    have hv := y vs (.inl (.inr ⟨od, M.gr _ _ (le.gr _ _ h)⟩))
    obtain ⟨d, hd, rd⟩ := r.got hv
    exact ⟨d, w', hd, Wd.le.refl _, M, rd.mono le⟩
theorem ji_seq {tg : Expr} (ha : JE E N sc a ea) : JI E N sc (.seq a) tg ea := fun X W C tk => ⟨fun pins s σ H R I h => by
  obtain ⟨w, sl, m, M, S, h⟩ := h
  unfold evalI at h
  cases q : evalE E.p E.c a sl m with
  | bad => rw [q] at h; exact absurd h id
  | exn Ce p m1 =>
    rw [q] at h
    exact (pi_list (tg := tg) (ha X W C tk)).run pins s σ H R I ⟨w, sl, m, M, S, by rw [q]; exact h⟩
  | ok d m1 =>
    rw [q, Res.bind_ok] at h
    cases d with
    | tup xs =>
      refine (pi_tup (tg := tg) (ha X W C tk)).run pins s σ H R I ⟨w, sl, m, M, S, ?_⟩
      rw [q, C.K]
      intro w1 v H1 le1 M1 r1
      cases r1 with
      | tup hq rs => exact ⟨_, rfl, ⟨_, sqT_mono M1.fr hq.sq⟩, h w1 _ H1 le1 M1 (wk_tup hq.sq rs)⟩
    | lst xs =>
      refine (pi_list (tg := tg) (ha X W C tk)).run pins s σ H R I ⟨w, sl, m, M, S, ?_⟩
      rw [q, C.K]
      intro w1 v H1 le1 M1 r1
      cases r1 with
      | lst hq rs => exact ⟨_, rfl, ⟨_, SqL.of (M1.fr _ _ hq)⟩, h w1 _ H1 le1 M1 (wk_list (SqL.of hq) rs)⟩
    | scr xs =>
      refine (pi_list (tg := tg) (ha X W C tk)).run pins s σ H R I ⟨w, sl, m, M, S, ?_⟩
      rw [q, C.K]
      intro w1 v H1 le1 M1 r1
      cases r1 with
      | scr hq rs => exact ⟨_, rfl, ⟨_, sqL_mono M1.fr hq⟩, h w1 _ H1 le1 M1 (wk_list hq rs)⟩
    | str x =>
      refine (pi_str (tg := tg) (ha X W C tk)).run pins s σ H R I ⟨w, sl, m, M, S, ?_⟩
      rw [q]
      intro w1 v H1 le1 M1 r1
      cases r1 with
      | str => exact ⟨_, rfl, h w1 _ H1 le1 M1 wk_str⟩
    | ref n =>
      dsimp only at h
      split at h
      · rename_i xs e
        refine (pi_list (tg := tg) (ha X W C tk)).run pins s σ H R I ⟨w, sl, m, M, S, ?_⟩
        rw [q, C.K]
        intro w1 v H1 le1 M1 r1
        obtain ⟨od, vs, hG, rs⟩ := M1.ob n _ e
        cases r1 with
        | ref _ hn => exact ⟨_, rfl, ⟨vs, .inl (.inr ⟨od, M1.gr _ _ hG⟩)⟩, h w1 _ H1 le1 M1 (wk_listG hG rs)⟩
      · rename_i kvs e
        refine (pi_keys (tg := tg) (ha X W C tk)).run pins s σ H R I ⟨w, sl, m, M, S, ?_⟩
        rw [q]
        intro w1 v H1 le1 M1 r1
        obtain ⟨od, vs, hG, rs⟩ := M1.ob n _ e
        cases r1 with
        | ref _ hn => exact ⟨_, od, rfl, .inl ⟨vs, M1.gr _ _ hG, h w1 _ H1 le1 M1 (wk_keys (n := n) hG rs)⟩⟩
      · rename_i kvs e
        refine (pi_keysX (tg := tg) (ha X W C tk)).run pins s σ H R I ⟨w, sl, m, M, S, ?_⟩
        rw [q]
        intro w1 v H1 le1 M1 r1
        have eW : X.w = E.g.W := C.w
        obtain ⟨od, xs, hG, rs⟩ := M1.ob n _ e
        cases r1 with
        | ref _ hn => exact ⟨_, od, rfl, .inr ⟨xs, by rw [eW]; exact M1.gr _ _ hG, by rw [eW]; exact h w1 _ H1 le1 M1 (wk_keysX hG rs)⟩⟩
      · exact absurd h id
    | _ => exact absurd h id⟩
theorem ji_rng1 (G : Gok E) {tg : Expr} {p : Pos} (hg : glB sc "range" = true) (hs : notStar ea = true) (ha : JE E N sc a ea) : JI E N sc (.rng1 a) tg (.Call (.Name "range" p) [ea] [] pos) := fun X W C tk => by
  have st : starEach [ea] X.env = [(false, eval ea X.env)] := starEach_of hs
  have args := jes_cons ha hs (jes_nil (E := E) (N := N) (sc := sc)) X W C tk
  refine ⟨fun pins s σ H R I h => (pi_range1 (tg := tg) (C.gl hg) (by rw [C.mg]; exact G.rng) args st).run pins s σ H R I ?_⟩
  obtain ⟨w, sl, m, M, S, h⟩ := h
  unfold evalI at h
  refine ⟨w, sl, m, M, S, ?_⟩
  simp only [evalEs]
  cases q : evalE E.p E.c a sl m with
  | bad => rw [q] at h; exact absurd h id
  | exn Ce p m1 => rw [q] at h; exact h
  | ok d m1 =>
    rw [q, Res.bind_ok] at h
    intro w1 vs H1 le1 M1 r1
    obtain ⟨v, rfl, rv⟩ := r1.one
    cases rv with
    | int j =>
      dsimp only at h
      by_cases hj : small62 j = true
      · rw [if_pos hj] at h
        exact ⟨j, rfl, (small62_of hj).1, (small62_of hj).2, h w1 _ H1 le1 M1 wk_rng⟩
      · rw [if_neg hj] at h; exact absurd h id
    | _ => exact absurd h id
theorem ji_rng2 (G : Gok E) {tg : Expr} {p : Pos} {b : ME} {eb : Expr} (hg : glB sc "range" = true) (hs : notStar ea = true) (hs2 : notStar eb = true) (ha : JE E N sc a ea) (hb : JE E N sc b eb) :
    JI E N sc (.rng2 a b) tg (.Call (.Name "range" p) [ea, eb] [] pos) := fun X W C tk => by
  have st2 : starEach [eb] X.env = [(false, eval eb X.env)] := starEach_of hs2
  have st : starEach [ea, eb] X.env = [(false, eval ea X.env), (false, eval eb X.env)] := by rw [starEach_of hs, st2]
  have args := jes_cons ha hs (jes_cons hb hs2 (jes_nil (E := E) (N := N) (sc := sc))) X W C tk
  refine ⟨fun pins s σ H R I h => (pi_range2 (tg := tg) (C.gl hg) (by rw [C.mg]; exact G.rng) args st st2).run pins s σ H R I ?_⟩
  obtain ⟨w, sl, m, M, S, h⟩ := h
  unfold evalI at h
  refine ⟨w, sl, m, M, S, ?_⟩
  simp only [evalEs]
  cases q : evalE E.p E.c a sl m with
  | bad => rw [q] at h; exact absurd h id
  | exn Ce p m1 => rw [q] at h; exact h
  | ok d m1 =>
    rw [q, Res.bind_ok] at h
    rw [Res.bind_ok]
    cases q2 : evalE E.p E.c b sl m1 with
    | bad => rw [q2] at h; exact absurd h id
    | exn Ce p m1 => rw [q2] at h; exact h
    | ok d2 m2 =>
      rw [q2, Res.bind_ok] at h
      intro w1 vs H1 le1 M1 r1
      obtain ⟨v, u, rfl, rv, ru⟩ := r1.two
      cases rv with
      | int i =>
        cases ru with
        | int j =>
          dsimp only at h
          by_cases hj : small62 i = true ∧ small62 j = true
          · rw [if_pos hj] at h
            have b1 := small62_of hj.1
            have b2 := small62_of hj.2
            exact ⟨i, j, rfl, ⟨b1.1, b1.2, b2.1, b2.2⟩, h w1 _ H1 le1 M1 wk_rng2⟩
          · rw [if_neg hj] at h; exact absurd h id
        | _ => exact absurd h id
      | _ => exact absurd h id
theorem ji_rng3 (G : Gok E) {tg : Expr} {p : Pos} {b c : ME} {eb ec : Expr} (hg : glB sc "range" = true) (hs : notStar ea = true) (hs2 : notStar eb = true) (hs3 : notStar ec = true) (ha : JE E N sc a ea) (hb : JE E N sc b eb) (hc : JE E N sc c ec) :
    JI E N sc (.rng3 a b c) tg (.Call (.Name "range" p) [ea, eb, ec] [] pos) := fun X W C tk => by
  have pl : (backTo pos (starEach [eb, ec] X.env)).any (·.1) = false := plain_of (by unfold notStars; simp [hs2, hs3])
  have args := jes_cons ha hs (jes_cons hb hs2 (jes_cons hc hs3 (jes_nil (E := E) (N := N) (sc := sc)))) X W C tk
  refine ⟨fun pins s σ H R I h => (pi_range3 (tg := tg) (C.gl hg) (by rw [C.mg]; exact G.rng) args (starEach_of hs) pl).run pins s σ H R I ?_⟩
  obtain ⟨w, sl, m, M, S, h⟩ := h
  unfold evalI at h
  refine ⟨w, sl, m, M, S, ?_⟩
  simp only [evalEs]
  cases q : evalE E.p E.c a sl m with
  | bad => rw [q] at h; exact absurd h id
  | exn Ce p m1 => rw [q] at h; exact h
  | ok d m1 =>
    rw [q, Res.bind_ok] at h
    rw [Res.bind_ok]
    cases q2 : evalE E.p E.c b sl m1 with
    | bad => rw [q2] at h; exact absurd h id
    | exn Ce p m1 => rw [q2] at h; exact h
    | ok d2 m2 =>
      rw [q2, Res.bind_ok] at h
      rw [Res.bind_ok]
      cases q3 : evalE E.p E.c c sl m2 with
      | bad => rw [q3] at h; exact absurd h id
      | exn Ce p m1 => rw [q3] at h; exact h
      | ok d3 m3 =>
        rw [q3, Res.bind_ok] at h
        intro w1 vs H1 le1 M1 r1
        cases r1 with
        | cons rv r1 =>
        cases r1 with
        | cons ru r1 =>
        cases r1 with
        | cons rw' r1 =>
        cases r1
        cases rv with
        | int i =>
          cases ru with
          | int j =>
            cases rw' with
            | int k =>
              dsimp only at h
              by_cases hj : rngOk i j k = true
              · rw [if_pos hj] at h
                unfold rngOk at hj
                simp only [Bool.and_eq_true, decide_eq_true_eq] at hj
                have h2 := Nat.le_of_ble_eq_true hj.1.1.2
                refine ⟨i, j, k, _, rfl, ⟨hj.1.1.1, by omega, hj.1.2, ?_⟩, h w1 _ H1 le1 M1 wk_rngC⟩
                rw [Int.toNat_of_nonneg hj.2]
              · rw [if_neg hj] at h; exact absurd h id
            | _ => exact absurd h id
          | _ => exact absurd h id
        | _ => exact absurd h id
theorem ji_zip (G : Gok E) {p tp : Pos} {b : ME} {eb : Expr} {elts : List Expr} {kk : Nat} (hg : glB sc "zip" = true) (hs : notStar ea = true) (hs2 : notStar eb = true) (ha : JE E N sc a ea) (hb : JE E N sc b eb) :
    JI E N sc (.zip a b) (.Tuple elts kk tp) (.Call (.Name "zip" p) [ea, eb] [] pos) := fun X W C tk => by
  have pl : (backTo pos (starEach [eb] X.env)).any (·.1) = false := plain_of (by unfold notStars; simp [hs2])
  have args := jes_cons ha hs (jes_cons hb hs2 (jes_nil (E := E) (N := N) (sc := sc))) X W C tk
  refine ⟨fun pins s σ H R I h => (RZ.pi_zipA (C.gl hg) (by rw [C.mg]; exact G.zip) args (starEach_of hs) pl).run pins s σ H R I ?_⟩
  obtain ⟨w, sl, m, M, S, h⟩ := h
  unfold evalI at h
  refine ⟨w, sl, m, M, S, ?_⟩
  simp only [evalEs]
  cases q : evalE E.p E.c a sl m with
  | bad => rw [q] at h; exact absurd h id
  | exn Ce p m1 => rw [q] at h; exact h
  | ok d m1 =>
    rw [q, Res.bind_ok] at h
    rw [Res.bind_ok]
    cases q2 : evalE E.p E.c b sl m1 with
    | bad => rw [q2] at h; exact absurd h id
    | exn Ce p m1 => rw [q2] at h; exact h
    | ok d2 m2 =>
      rw [q2, Res.bind_ok] at h
      intro w1 vs H1 le1 M1 r1
      obtain ⟨v, u, rfl, rv, ru⟩ := r1.two
      split at h
      · cases rv with
        | @tup a1 vs1 _ hq rs =>
          cases ru with
          | @tup a2 vs2 _ hq2 rs2 =>
            refine ⟨a1, a2, vs1, vs2, rfl, .inr ⟨?_, ?_, ?_⟩⟩
            · rw [C.K]; exact sqT_mono M1.fr hq.sq
            · rw [C.K]; exact sqT_mono M1.fr hq2.sq
            · rw [C.K]; exact h w1 _ H1 le1 M1 (wk_zipT hq.sq rs hq2.sq rs2)
      · split at h
        · rename_i xs ys e1 e2
          obtain ⟨a1, vs1, rfl, hq, rs⟩ := frzL_rel M1 rv e1
          obtain ⟨a2, vs2, rfl, hq2, rs2⟩ := frzL_rel M1 ru e2
          refine ⟨a1, a2, vs1, vs2, rfl, .inl ⟨?_, ?_, ?_⟩⟩
          · rw [C.K]; exact hq _ _ _ (Wd.le.refl _) M1
          · rw [C.K]; exact hq2 _ _ _ (Wd.le.refl _) M1
          · rw [C.K]; exact h w1 _ H1 le1 M1 (wk_zip hq rs hq2 rs2)
        · exact absurd h id
theorem ji_enum (G : Gok E) {p tp : Pos} {elts : List Expr} {kk : Nat} (hg : glB sc "enumerate" = true) (hs : notStar ea = true) (ha : JE E N sc a ea) :
    JI E N sc (.enum a) (.Tuple elts kk tp) (.Call (.Name "enumerate" p) [ea] [] pos) := fun X W C tk => by
  have args := jes_cons ha hs (jes_nil (E := E) (N := N) (sc := sc)) X W C tk
  refine ⟨fun pins s σ H R I h => (pi_enum (C.gl hg) (by rw [C.mg]; exact G.enum) args (starEach_of hs)).run pins s σ H R I ?_⟩
  obtain ⟨w, sl, m, M, S, h⟩ := h
  unfold evalI at h
  refine ⟨w, sl, m, M, S, ?_⟩
  simp only [evalEs]
  cases q : evalE E.p E.c a sl m with
  | bad => rw [q] at h; exact absurd h id
  | exn Ce p m1 => rw [q] at h; exact h
  | ok d m1 =>
    rw [q, Res.bind_ok] at h
    intro w1 vs H1 le1 M1 r1
    obtain ⟨v, rfl, rv⟩ := r1.one
    cases rv with
    | lst hq rs => exact ⟨_, _, rfl, by rw [C.K]; exact SqL.of (M1.fr _ _ hq), by rw [C.K]; exact h w1 _ H1 le1 M1 (wk_enum (SqL.of hq) rs)⟩
    | _ => exact absurd h id
end R
namespace R
open PySem PySem.Spec PyProof.Rows L2
variable {E : En} {N : List Str} {sc : Scope} {a b : ME} {ea eb : Expr} {pos : Pos}
theorem wipe_at {σ : L2.St} {j : Nat} : ∀ {vs : List Nat}, j ∈ vs → j < σ.length → (L2.wipe σ vs)[j]? = some none
  | [], h, _ => by cases h
  | v :: vs, h, hj => by
    unfold L2.wipe
    by_cases q : v = j
    · subst q
      rw [List.getElem?_set_self (by rw [wipe_length]; exact hj)]
    · rw [List.getElem?_set_ne q]
      rcases List.mem_cons.mp h with e | h
      · exact absurd e.symm q
      · exact wipe_at h hj
theorem wipe_off {σ : L2.St} {j : Nat} : ∀ {vs : List Nat}, j ∉ vs → (L2.wipe σ vs)[j]? = σ[j]?
  | [], _ => rfl
  | v :: vs, h => by
    unfold L2.wipe
    rw [List.getElem?_set_ne fun z => h (by rw [z]; exact List.mem_cons_self)]
    exact wipe_off fun z => h (List.mem_cons_of_mem _ z)
theorem wipe_same {σ σ2 : L2.St} {is vs : List Nat} (h : Samb is (L2.wipe σ vs) σ2) (hs : ∀ i ∈ is, i ∈ vs) : L2.wipe σ2 vs = L2.wipe σ vs := by
  have hl : σ2.length = σ.length := h.1.trans (wipe_length _ _)
  apply List.ext_getElem?
  intro j
  by_cases hj : j ∈ vs
  · by_cases hlt : j < σ.length
    · rw [wipe_at hj hlt, wipe_at hj (by rw [hl]; exact hlt)]
    · rw [List.getElem?_eq_none (by rw [wipe_length, hl]; omega), List.getElem?_eq_none (by rw [wipe_length]; omega)]
  · rw [wipe_off hj, wipe_off hj, h.2 j fun z => hj (hs j z), wipe_off hj]
/-- one turn -/
def lcF (p : Pg) (c : Calls) (elt : ME) (g : Tg) (cond : Option ME) (sl0 : List (Option D)) : D → Mm → Res Mm (Option D) := fun x h =>
  match bindT g x sl0 with
  | some sl' => match cond with
    | some k => (noExn (evalE p c k sl' h)).bind fun b h => match truthD h b with
      | some true => (noExn (evalE p c elt sl' h)).bind fun y h => .ok (some y) h
      | some false => .ok none h
      | none => .bad
    | none => (noExn (evalE p c elt sl' h)).bind fun y h => .ok (some y) h
  | none => .bad
theorem evalE_lc {p : Pg} {c : Calls} {obj : Bool} {elt : ME} {g : Tg} {it : It} {cond : Option ME} {own : List Nat} {sl : List (Option D)} {h : Mm} :
    evalE p c (.lc obj elt g it cond own) sl h = (evalI p c it sl h).bind fun xs h => (mapL (lcF p c elt g cond (wipe sl own)) xs h).bind fun ys h => mkL obj ys h := by
  simp only [evalE]; rfl
theorem Post.noExn {α β γ δ : Type} {Rl : Wd → α → β → Prop} {Rl' : Wd → γ → δ → Prop} {g : Gm} {w : Wd} {xw xw' : XW} {Q : β → Hp → Prop} {Q' : δ → Hp → Prop} {r : Res Mm γ} {f : γ → Mm → Res Mm α} (h : Post Rl g w xw Q ((R.noExn r).bind f))
    (k : ∀ d m, r = .ok d m → ∀ w' v H', w.le w' → Mem g w' H' m → Rl' w' d v → Post Rl g w' xw Q (f d m) → Q' v H') : Post Rl' g w xw' Q' r := by
  cases r with
  | ok d m => exact fun w' v H' le M rv => k d m rfl w' v H' le M rv (Post.mono le h)
  | exn C p m => exact absurd h id
  | bad => exact h
theorem mapL_noexn {f : D → Mm → Res Mm (Option D)} (hf : ∀ x h C p h', f x h ≠ .exn C p h') : ∀ {xs : List D} {h : Mm} {C : Nat} {p : Option D} {h' : Mm}, mapL f xs h ≠ .exn C p h'
  | [], _, _, _, _, z => by cases z
  | x :: xs, h, C, p, h', z => by
    unfold mapL at z
    cases q : f x h with
    | bad => rw [q] at z; cases z
    | exn C' p' h1 => exact hf x h C' p' h1 q
    | ok y h1 =>
      rw [q, Res.bind_ok] at z
      cases q2 : mapL f xs h1 with
      | bad => rw [q2] at z; cases z
      | exn C' p' h2 => exact mapL_noexn hf q2
      | ok ys h2 =>
        rw [q2, Res.bind_ok] at z
        cases y <;> cases z
theorem lcF_noexn {p : Pg} {c : Calls} {elt : ME} {g : Tg} {cond : Option ME} {sl0 : List (Option D)} : ∀ x h C q h', lcF p c elt g cond sl0 x h ≠ .exn C q h' := by
  have one : ∀ {r : Res Mm D} {C : Nat} {q : Option D} {h' : Mm}, ((R.noExn r).bind fun y h => (.ok (some y) h : Res Mm (Option D))) ≠ .exn C q h' := by
    intro r C q h' z
    cases r <;> cases z
  intro x h C q h' z
  unfold lcF at z
  cases hb : bindT g x sl0 with
  | none => rw [hb] at z; cases z
  | some sl' =>
    rw [hb] at z
    cases cond with
    | none => exact one z
    | some k =>
      dsimp only at z
      cases r : evalE p c k sl' h with
      | bad => rw [r] at z; cases z
      | exn C' p' h1 => rw [r] at z; cases z
      | ok d h1 =>
        rw [r] at z
        have z : (match truthD h1 d with | some true => (R.noExn (evalE p c elt sl' h1)).bind fun y h => .ok (some y) h | some false => .ok none h1 | none => .bad : Res Mm (Option D)) = .exn C q h' := z
        split at z
        · exact one z
        · cases z
        · cases z
theorem mkL_size {obj : Bool} {ds : List D} {m : Mm} {g : Gm} {w : Wd} {xw : XW} {Q : V → Hp → Prop} (h : PostE g w xw Q (mkL obj ds m)) : ds.length ≤ sizeLine := by
  unfold mkL at h
  split at h
  · rename_i hz; exact sl_szOk hz
  · exact absurd h id
/-- the list that was made -/
theorem mk_end {g : Gm} {w w' : Wd} {H : Hp} {m : Mm} {obj : Bool} {ds : List D} {acc : List V} {L : Addr} {xw : XW} {Q : V → Hp → Prop} (h : PostE g w xw Q (mkL obj ds m)) (le : w.lf w') (lg : ∀ a o, w.G a = some o → a ≠ L ∧ w'.G a = some o)
    (M : Mem g w' H m) (hL : w'.G L = some (.lst acc)) (r : Rvs g w' ds acc) : Q (.ref L) H := by
  unfold mkL at h
  split at h
  · cases obj with
    | true =>
      rw [if_pos rfl] at h
      have lf : w'.lf ⟨w'.F, fun n => if n = w'.len then L else w'.ρ n, w'.len + 1, fun a => if a = L then none else w'.G a⟩ := ⟨fun _ _ h => h, Nat.le_succ _, fun n h => if_neg (Nat.ne_of_lt h)⟩
      have M' := M.adopt (p := L) (o := .lst acc) (u := .lst ds) hL (hu := ⟨acc, by
        show H (if w'.len = w'.len then L else w'.ρ w'.len) = _
        rw [if_pos rfl]; exact M.gr _ _ hL, r.mono' lf⟩)
      rw [← M.len] at h
      have rr := Rv.ref (g := g) (w := ⟨w'.F, fun n => if n = w'.len then L else w'.ρ n, w'.len + 1, fun a => if a = L then none else w'.G a⟩) w'.len (Nat.lt_succ_self _)
      rw [show (Wd.mk w'.F (fun n => if n = w'.len then L else w'.ρ n) (w'.len + 1) (fun a => if a = L then none else w'.G a)).ρ w'.len = L from if_pos rfl] at rr
      refine h ⟨w'.F, fun n => if n = w'.len then L else w'.ρ n, w'.len + 1, fun a => if a = L then none else w'.G a⟩ (.ref L) H ⟨⟨le.fr, Nat.le_trans le.len (Nat.le_succ _), fun n hn => ?_⟩, fun a o q => ?_⟩ M' rr
      · show (if n = w'.len then L else w'.ρ n) = w.ρ n
        rw [if_neg (Nat.ne_of_lt (Nat.lt_of_lt_of_le hn le.len))]; exact le.at_ n hn
      · obtain ⟨h1, h2⟩ := lg a o q
        show (if a = L then none else w'.G a) = some o
        rw [if_neg h1]; exact h2
    | false =>
      rw [if_neg Bool.false_ne_true] at h
      have M' := M.settle (p := L) (o := .lst acc) hL
      have lf : w'.lf ⟨upd w'.F L (.lst acc), w'.ρ, w'.len, fun a => if a = L then none else w'.G a⟩ := ⟨fun a o q => by
        show upd w'.F L _ a = _
        rw [upd_ne fun z => by rw [z, M.gf _ _ hL] at q; cases q]; exact q, Nat.le_refl _, fun _ _ => rfl⟩
      refine h _ (.ref L) H ⟨⟨fun a o q => lf.fr a o (le.fr a o q), le.len, le.at_⟩, fun a o q => ?_⟩ M' (.lst upd_same (r.mono' lf))
      obtain ⟨h1, h2⟩ := lg a o q
      show (if a = L then none else w'.G a) = some o
      rw [if_neg h1]; exact h2
  · exact absurd h id
def condT (E : En) (cond : Option ME) : TT := match cond with
  | none => tYes
  | some k => rdT E (fun _ _ _ _ => False) k
theorem lc_read {elt : ME} {g : Tg} {it : It} {cond : Option ME} {own : List Nat} {obj : Bool} {W : WX} {K : PySem.W.Frag} (hg : ∀ i ∈ g.ix, i ∈ own) {σ : L2.St} {H : Hp} {Q : VK} (h : rdE E W (.lc obj elt g it cond own) σ H Q) :
    tLc (rdI E W it) (rdG E g) (condT E cond) (rdE E (fun _ _ _ _ => False) elt) own σ H Q := by
  obtain ⟨w, sl, m, M, S, h⟩ := h
  rw [evalE_lc] at h
  refine rd_bind M S h fun xs m1 w1 J H1 le1 M1 S1 wk h1 => ?_
  intro L hL
  have nG : ∀ a o, w1.G a = some o → a ≠ L := fun a o e => ne_of_none (M1.gr a o e) hL
  obtain ⟨leD, MD⟩ := M1.beside (p := L) (o := .lst []) hL
  -- between the turns
  refine ⟨fun i k H' => k = xs.length - i ∧ i ≤ xs.length ∧ ∃ w' m' acc ds, w1.le w' ∧ w'.G L = some (.lst acc) ∧ Mem E.g w' H' m' ∧ Rvs E.g w' ds acc ∧
      PostE E.g w1 (xwOf W σ) Q ((mapL (lcF E.p E.c elt g cond (wipe sl own)) (xs.drop i) m').bind fun ys h => mkL obj (ds ++ ys) h),
    ⟨_, rfl, Nat.zero_le _, w1.wg (upd w1.G L (.lst [])), m1, [], [], leD, upd_same, MD, .nil, by simpa using h1⟩, ?_⟩
  rintro i k H' ⟨rfl, hi, w', m', acc, ds, le', hG, M', rs, hp⟩
  by_cases hlt : i < xs.length
  · refine .inr ⟨wk.go i w' H' m' le' M' hlt, fun H'' => ∃ w' m' acc ds, w1.le w' ∧ w'.G L = some (.lst acc) ∧ Mem E.g w' H'' m' ∧ Rvs E.g w' ds acc ∧
        PostE E.g w1 (xwOf W σ) Q ((mapL (lcF E.p E.c elt g cond (wipe sl own)) (xs.drop (i + 1)) m').bind fun ys h => mkL obj (ds ++ ys) h),
      fun H'' hn => ⟨xs.length - (i + 1), by omega, rfl, hlt, hn⟩, fun x H2 y => ?_⟩
    obtain ⟨d, w2, hd, le2, M2, rd⟩ := wk.yld i x w' H' H2 m' le' M' hlt y
    have ed : xs.drop i = d :: xs.drop (i + 1) := by
      rw [List.drop_eq_getElem_cons hlt]
      rw [List.getElem?_eq_getElem hlt] at hd
      rw [Option.some.inj hd]
    rw [ed] at hp
    have hp2 : PostE E.g w1 (xwOf W σ) Q (((lcF E.p E.c elt g cond (wipe sl own) d m').bind fun y h => (mapL (lcF E.p E.c elt g cond (wipe sl own)) (xs.drop (i + 1)) h).bind fun ys h => match y with
        | some y => .ok (y :: ys) h
        | none => .ok ys h).bind fun ys h => mkL obj (ds ++ ys) h) := hp
    have le12 := le'.trans le2
    have S2 : Slr E.g w2 sl σ := S1.mono le12
    cases hb : bindT g d (wipe sl own) with
    | none =>
      unfold lcF at hp2
      rw [hb] at hp2
      exact absurd hp2 id
    | some sl' =>
      refine ⟨w2, m', d, wipe sl own, sl', M2, rd, S2.wipe own, hb, fun σ2 Sσ sb => ⟨wipe_same sb hg, ?_⟩⟩
      -- the element, kept
      have keep : ∀ (w3 : Wd) (H3 : Hp) (m3 : Mm), w2.le w3 → Mem E.g w3 H3 m3 → PostE E.g w1 (xwOf W σ) Q ((((R.noExn (evalE E.p E.c elt sl' m3)).bind fun y h => (.ok (some y) h : Res Mm (Option D))).bind fun y h => (mapL (lcF E.p E.c elt g cond (wipe sl own)) (xs.drop (i + 1)) h).bind fun ys h => match y with
          | some y => .ok (y :: ys) h
          | none => .ok ys h).bind fun ys h => mkL obj (ds ++ ys) h) →
          rdE E (fun _ _ _ _ => False) elt σ2 H3 fun y H4 => ∃ acc, H4 L = some (.lst acc) ∧ acc.length < sizeLine ∧ ∃ w' m' acc' ds, w1.le w' ∧ w'.G L = some (.lst acc') ∧ Mem E.g w' (upd H4 L (.lst (acc ++ [y]))) m' ∧ Rvs E.g w' ds acc' ∧
            PostE E.g w1 (xwOf W σ) Q ((mapL (lcF E.p E.c elt g cond (wipe sl own)) (xs.drop (i + 1)) m').bind fun ys h => mkL obj (ds ++ ys) h) := by
        intro w3 H3 m3 le3 M3 hp3
        refine ⟨w3, sl', m3, M3, Sσ.mono le3, ?_⟩
        cases qe : evalE E.p E.c elt sl' m3 with
        | bad => rw [qe] at hp3; exact absurd hp3 id
        | exn Ce p m4 => rw [qe] at hp3; exact absurd hp3 id
        | ok e m4 =>
          rw [qe] at hp3
          have hp4 : PostE E.g w1 (xwOf W σ) Q (((mapL (lcF E.p E.c elt g cond (wipe sl own)) (xs.drop (i + 1)) m4).bind fun ys h => (.ok (e :: ys) h : Res Mm (List D))).bind fun ys h => mkL obj (ds ++ ys) h) := hp3
          intro w4 y H4 le4 M4 ry
          have g4 : w4.G L = some (.lst acc) := le4.gr _ _ (le3.gr _ _ (le2.gr _ _ hG))
          have le14 : w1.le w4 := (le12.trans le3).trans le4
          -- the rest ends
          have rest : ∃ ys m5, mapL (lcF E.p E.c elt g cond (wipe sl own)) (xs.drop (i + 1)) m4 = .ok ys m5 := by
            cases qm : mapL (lcF E.p E.c elt g cond (wipe sl own)) (xs.drop (i + 1)) m4 with
            | bad => rw [qm] at hp4; exact absurd hp4 id
            | exn Ce p m5 => exact absurd qm (mapL_noexn lcF_noexn)
            | ok ys m5 => exact ⟨ys, m5, rfl⟩
          obtain ⟨ys, m5, qm⟩ := rest
          rw [qm] at hp4
          have hp5 : PostE E.g w1 (xwOf W σ) Q (mkL obj (ds ++ (e :: ys)) m5) := hp4
          have sz := mkL_size hp5
          rw [List.length_append, List.length_cons, rs.length] at sz
          refine ⟨acc, M4.gr _ _ g4, by omega, w4.wg (upd w4.G L (.lst (acc ++ [y]))), m4, acc ++ [y], ds ++ [e], ⟨⟨le14.fr, le14.len, le14.at_⟩, fun a o q => ?_⟩, upd_same, M4.turned g4, ?_, ?_⟩
          · show upd w4.G L _ a = some o
            rw [upd_ne (nG a o q)]; exact le14.gr a o q
          · exact ((((rs.mono le2).mono le3).mono le4).append (.cons ry .nil)).mono' (lf_G w4 _)
          · rw [qm]
            show PostE E.g w1 (xwOf W σ) Q (mkL obj ((ds ++ [e]) ++ ys) m5)
            rw [List.append_assoc]
            exact hp5
      unfold lcF at hp2
      rw [hb] at hp2
      cases cond with
      | none => exact keep w2 H2 m' (Wd.le.refl _) M2 hp2
      | some k =>
        refine ⟨w2, sl', m', M2, Sσ, ?_⟩
        show Post _ _ _ _ _ (evalT E.p E.c k sl' m')
        unfold evalT
        dsimp only at hp2
        cases qk : evalE E.p E.c k sl' m' with
        | bad => rw [qk] at hp2; exact absurd hp2 id
        | exn Ce p m4 => rw [qk] at hp2; exact absurd hp2 id
        | ok t m3 =>
          rw [qk] at hp2
          rw [Res.bind_ok]
          have hp3 : PostE E.g w1 (xwOf W σ) Q (((match truthD m3 t with
              | some true => (R.noExn (evalE E.p E.c elt sl' m3)).bind fun y h => .ok (some y) h
              | some false => .ok none m3
              | none => .bad : Res Mm (Option D)).bind fun y h => (mapL (lcF E.p E.c elt g (some k) (wipe sl own)) (xs.drop (i + 1)) h).bind fun ys h => match y with
              | some y => .ok (y :: ys) h
              | none => .ok ys h).bind fun ys h => mkL obj (ds ++ ys) h) := hp2
          cases qt : truthD m3 t with
          | none => rw [qt] at hp3; exact absurd hp3 id
          | some b =>
            rw [qt] at hp3
            intro w3 b' H3 le3 M3 eb
            subst eb
            cases b with
            | true => exact keep w3 H3 m3 le3 M3 hp3
            | false =>
              refine ⟨w3, m3, acc, ds, le12.trans le3, le3.gr _ _ (le2.gr _ _ hG), M3, (rs.mono le2).mono le3, ?_⟩
              have e2 : ((Res.ok (none : Option D) m3).bind fun y h => (mapL (lcF E.p E.c elt g (some k) (wipe sl own)) (xs.drop (i + 1)) h).bind fun ys h => match y with
                | some y => (.ok (y :: ys) h : Res Mm (List D))
                | none => .ok ys h) = mapL (lcF E.p E.c elt g (some k) (wipe sl own)) (xs.drop (i + 1)) m3 := by
                rw [Res.bind_ok]
                cases mapL (lcF E.p E.c elt g (some k) (wipe sl own)) (xs.drop (i + 1)) m3 <;> rfl
              dsimp only at hp3
              rw [e2] at hp3
              exact hp3
  · have e : i = xs.length := by omega
    subst e
    refine .inl ⟨wk.stop _ w' H' m' le' M' (Nat.le_refl _), ?_⟩
    rw [List.drop_length] at hp
    have hp : PostE E.g w1 (xwOf W σ) Q (mkL obj (ds ++ []) m') := hp
    rw [List.append_nil] at hp
    exact mk_end hp le'.tolf (fun a o q => ⟨nG a o q, le'.gr a o q⟩) M' hG rs
def JC (E : En) (N : List Str) (sc : Scope) (cond : Option ME) (ifs : List Expr) : Prop := ∀ X : Cx, Cok E N sc X → PTs X ifs (condT E cond)
theorem jc_none : JC E N sc none [] := fun X C => pts_nil
theorem jc_some {k : ME} {e : Expr} (h : JT E N sc k e) : JC E N sc (some k) [e] := fun X C => pts_one (h X _ C takes0)
def ownOf (N : List Str) (own : List Nat) : List (Str × Nat) := own.filterMap fun i => (N[i]?).map fun x => (x, i)
theorem ownOf_ix {N : List Str} : ∀ {own : List Nat}, (∀ i ∈ own, i < N.length) → (ownOf N own).map (·.2) = own
  | [], _ => rfl
  | i :: is, h => by
    have hi := h i List.mem_cons_self
    have ih := ownOf_ix (N := N) (own := is) fun j hj => h j (List.mem_cons_of_mem _ hj)
    unfold ownOf at ih ⊢
    rw [List.filterMap_cons, List.getElem?_eq_getElem hi]
    show i :: _ = i :: is
    rw [ih]
def notSetE : Expr → Bool
  | .Set _ _ _ => false
  | _ => true
theorem noFold (iter : Expr) (h : notSetE iter = true) : ∀ env x, foldedSetIterable iter env x = pure x := by
  intro env x
  cases iter <;> first | rfl | cases h
theorem je_lc {obj : Bool} {elt : ME} {g : Tg} {it : It} {cond : Option ME} {own : List Nat} {eelt tg iter : Expr} {ifs : List Expr} {scope : Scope} (ho : ∀ i ∈ own, i < N.length) (hg : ∀ i ∈ g.ix, i ∈ own) (hb : blkC N sc scope (ownOf N own) = true) (hns : notSetE iter = true)
    (hi : JI E N sc it tg iter) (ht : JG E N (relS scope sc) (fun x => scope.names.lookup x == some .cell) g tg) (hc : JC E N (relS scope sc) cond ifs) (he : JE E N (relS scope sc) elt eelt) :
    JE E N sc (.lc obj elt g it cond own) (.ListComp eelt [⟨tg, iter, ifs, 0⟩] scope pos) := fun X W C tk => by
  have h := pe_lc (X := X) (own := ownOf N own) (pos := pos) C.calm (by rw [C.Ns]; exact C.nd) (hi X W C tk) (blkOk_by (by rw [C.Ns, C.sc]; exact hb)) (fun s H A cl fp => ht _ (C.blk (s := s) (H := H)) rfl) (fun s H A cl fp => hc _ (C.blk (s := s) (H := H))) (fun s H A cl fp => he _ (fun _ _ _ _ => False) (C.blk (s := s) (H := H)) takes0) (noFold iter hns X.env)
  rw [ownOf_ix ho] at h
  exact PE.imp h fun σ H Q h => lc_read (K := X.K) hg h
end R
namespace R
open PySem PySem.Spec PyProof.Rows L2
variable {E : En} {N : List Str} {sc : Scope} {fs : Str → Bool} {a b : ME} {ea eb : Expr} {pos : Pos}
section
variable {g : Gm} {H : Hp}
theorem thr_rel {α : Type} {β γ : Type} {R1 : Wd → α → γ → Prop} {R2 : Wd → β → γ → Prop} (m1 : ∀ {w w' : Wd} {a c}, w.le w' → R1 w a c → R1 w' a c) (m2 : ∀ {w w' : Wd} {a c}, w.le w' → R2 w a c → R2 w' a c) {f : α → Mm → Option (β × Mm)}
    (hf : ∀ x m w v y m', Mem g w H m → R1 w x v → f x m = some (y, m') → ∃ w', w.le w' ∧ Mem g w' H m' ∧ R2 w' y v) :
    ∀ (xs : List α) (vs : List γ) (m : Mm) (w : Wd) ys m', Mem g w H m → Paired (R1 w) xs vs → thr f xs m = some (ys, m') → ∃ w', w.le w' ∧ Mem g w' H m' ∧ Paired (R2 w') ys vs := by
  intro xs
  induction xs with
  | nil =>
    intro vs m w ys m' M r e
    cases r
    simp [thr] at e
    obtain ⟨rfl, rfl⟩ := e
    exact ⟨w, Wd.le.refl _, M, .nil⟩
  | cons x xs ih =>
    intro vs m w ys m' M r e
    cases r with
    | cons r1 rr =>
      unfold thr at e
      rw [Option.bind_eq_some_iff] at e
      obtain ⟨⟨y, m1'⟩, e1, e⟩ := e
      rw [Option.bind_eq_some_iff] at e
      obtain ⟨⟨ys', m2'⟩, e2, e⟩ := e
      cases e
      obtain ⟨w1, le1, M1, q1⟩ := hf x m w _ y m1' M r1 e1
      obtain ⟨w2, le2, M2, q2⟩ := ih _ m1' w1 ys' m2' M1 (Paired.mapP rr fun a b z => m1 le1 z) e2
      exact ⟨w2, le1.trans le2, M2, .cons (m2 le2 q1) q2⟩
theorem Rvs.pair {w : Wd} : ∀ {ds : List D} {vs : List V}, Rvs g w ds vs → Paired (Rv g w) ds vs
  | _, _, .nil => .nil
  | _, _, .cons h r => .cons h (Rvs.pair r)
theorem Rvs.ofPair {w : Wd} : ∀ {ds : List D} {vs : List V}, Paired (Rv g w) ds vs → Rvs g w ds vs
  | _, _, .nil => .nil
  | _, _, .cons h r => .cons h (Rvs.ofPair r)
def Rf1 (g : Gm) (w : Wd) (p : Nat × D) (q : Str × V) : Prop := q.1 = g.att p.1 ∧ Rv g w p.2 q.2
def Rk1 (g : Gm) (w : Wd) (p : Key × D) (q : Key × V) : Prop := q.1 = p.1 ∧ Rv g w p.2 q.2
theorem Rfs.pair {w : Wd} : ∀ {ds : List (Nat × D)} {vs : List (Str × V)}, Rfs g w ds vs → Paired (Rf1 g w) ds vs
  | _, _, .nil => .nil
  | _, _, .cons h r => .cons ⟨rfl, h⟩ (Rfs.pair r)
theorem Rfs.ofPair {w : Wd} : ∀ {ds : List (Nat × D)} {vs : List (Str × V)}, Paired (Rf1 g w) ds vs → Rfs g w ds vs
  | _, _, .nil => .nil
  | (f, d) :: _, (x, v) :: _, .cons h r => by
    obtain ⟨h1, h2⟩ := h
    have h1 : x = g.att f := h1
    subst h1
    exact .cons h2 (Rfs.ofPair r)
theorem Rkv.pair {w : Wd} : ∀ {ds : List (Key × D)} {vs : List (Key × V)}, Rkv g w ds vs → Paired (Rk1 g w) ds vs
  | _, _, .nil => .nil
  | _, _, .cons h r => .cons ⟨rfl, h⟩ (Rkv.pair r)
theorem Rkv.ofPair {w : Wd} : ∀ {ds : List (Key × D)} {vs : List (Key × V)}, Paired (Rk1 g w) ds vs → Rkv g w ds vs
  | _, _, .nil => .nil
  | (f, d) :: _, (x, v) :: _, .cons h r => by
    obtain ⟨h1, h2⟩ := h
    have h1 : x = f := h1
    subst h1
    exact .cons h2 (Rkv.ofPair r)
theorem frzN_rel : ∀ (k : Nat) (d : D) (m : Mm) (w : Wd) (v : V) (d' : D) (m' : Mm), Mem g w H m → Rv g w d v → frzN k d m = some (d', m') → ∃ w', w.le w' ∧ Mem g w' H m' ∧ Rv g w' d' v := by
  intro k
  induction k with
  | zero => intro d m w v d' m' M r e; simp [frzN] at e
  | succ k ih =>
    intro d m w v d' m' M r e
    have lists : ∀ (xs : List D) (vs : List V) (m : Mm) (w : Wd) ys m', Mem g w H m → Rvs g w xs vs → thr (frzN k) xs m = some (ys, m') → ∃ w', w.le w' ∧ Mem g w' H m' ∧ Rvs g w' ys vs := fun xs vs m w ys m' M r e => by
      obtain ⟨w', h1, h2, h3⟩ := thr_rel (R1 := Rv g) (R2 := Rv g) (fun le h => h.mono le) (fun le h => h.mono le) (fun x m w v y m' M r e => ih x m w v y m' M r e) xs vs m w ys m' M r.pair e
      exact ⟨w', h1, h2, .ofPair h3⟩
    have flds : ∀ (xs : List (Nat × D)) (vs : List (Str × V)) (m : Mm) (w : Wd) ys m', Mem g w H m → Rfs g w xs vs → thr (fun p h => (frzN k p.2 h).map fun q => ((p.1, q.1), q.2)) xs m = some (ys, m') → ∃ w', w.le w' ∧ Mem g w' H m' ∧ Rfs g w' ys vs := fun xs vs m w ys m' M r e => by
      obtain ⟨w', h1, h2, h3⟩ := thr_rel (R1 := Rf1 g) (R2 := Rf1 g) (fun le h => ⟨h.1, h.2.mono le⟩) (fun le h => ⟨h.1, h.2.mono le⟩) (fun x m w v y m' M r e => by
        rw [Option.map_eq_some_iff] at e
        obtain ⟨⟨d1, m1⟩, e1, e2⟩ := e
        cases e2
        obtain ⟨w', h1, h2, h3⟩ := ih x.2 m w v.2 d1 m1 M r.2 e1
        exact ⟨w', h1, h2, r.1, h3⟩) xs vs m w ys m' M r.pair e
      exact ⟨w', h1, h2, .ofPair h3⟩
    have kvs : ∀ (xs : List (Key × D)) (vs : List (Key × V)) (m : Mm) (w : Wd) ys m', Mem g w H m → Rkv g w xs vs → thr (fun p h => (frzN k p.2 h).map fun q => ((p.1, q.1), q.2)) xs m = some (ys, m') → ∃ w', w.le w' ∧ Mem g w' H m' ∧ Rkv g w' ys vs := fun xs vs m w ys m' M r e => by
      obtain ⟨w', h1, h2, h3⟩ := thr_rel (R1 := Rk1 g) (R2 := Rk1 g) (fun le h => ⟨h.1, h.2.mono le⟩) (fun le h => ⟨h.1, h.2.mono le⟩) (fun x m w v y m' M r e => by
        rw [Option.map_eq_some_iff] at e
        obtain ⟨⟨d1, m1⟩, e1, e2⟩ := e
        cases e2
        obtain ⟨w', h1, h2, h3⟩ := ih x.2 m w v.2 d1 m1 M r.2 e1
        exact ⟨w', h1, h2, r.1, h3⟩) xs vs m w ys m' M r.pair e
      exact ⟨w', h1, h2, .ofPair h3⟩
    simp only [frzN] at e
    by_cases hn : nr d = true
    · rw [if_pos hn] at e
      cases e
      exact ⟨w, Wd.le.refl _, M, r⟩
    rw [if_neg hn] at e
    cases r with
    | non => cases e
    | pr h r r2 => cases e
    | bl b => cases e
    | int i => cases e
    | str x => cases e
    | tup h r =>
      simp only [Option.map_eq_some_iff] at e
      obtain ⟨⟨ys, m1⟩, e1, e2⟩ := e
      cases e2
      obtain ⟨w', h1, h2, h3⟩ := lists _ _ _ _ _ _ M r e1
      exact ⟨w', h1, h2, .tup (tupS_mono h1.fr h) h3⟩
    | lst h r =>
      simp only [Option.map_eq_some_iff] at e
      obtain ⟨⟨ys, m1⟩, e1, e2⟩ := e
      cases e2
      obtain ⟨w', h1, h2, h3⟩ := lists _ _ _ _ _ _ M r e1
      exact ⟨w', h1, h2, .lst (h1.fr _ _ h) h3⟩
    | scr h r =>
      simp only [Option.map_eq_some_iff] at e
      obtain ⟨⟨ys, m1⟩, e1, e2⟩ := e
      cases e2
      obtain ⟨w', h1, h2, h3⟩ := lists _ _ _ _ _ _ M r e1
      exact ⟨w', h1, h2, .scr (sqL_mono h1.fr h) h3⟩
    | ins hc h r =>
      simp only [Option.map_eq_some_iff] at e
      obtain ⟨⟨ys, m1⟩, e1, e2⟩ := e
      cases e2
      obtain ⟨w', h1, h2, h3⟩ := flds _ _ _ _ _ _ M r e1
      exact ⟨w', h1, h2, .ins hc (h1.fr _ _ h) h3⟩
    | dct h r =>
      simp only [Option.map_eq_some_iff] at e
      obtain ⟨⟨ys, m1⟩, e1, e2⟩ := e
      cases e2
      obtain ⟨w', h1, h2, h3⟩ := kvs _ _ _ _ _ _ M r e1
      exact ⟨w', h1, h2, .dct (h1.fr _ _ h) h3⟩
    | ref n hn =>
      dsimp only at e
      split at e
      · rename_i xs en
        rw [Option.map_eq_some_iff] at e
        obtain ⟨⟨ys, m1⟩, e1, e2⟩ := e
        cases e2
        obtain ⟨vs, hv, rv⟩ := M.ob n _ en
        obtain ⟨le, M'⟩ := M.give en trivial hv
        obtain ⟨w', h1, h2, h3⟩ := lists _ _ _ _ _ _ M' (rv.mono le) e1
        exact ⟨w', le.trans h1, h2, .lst (h1.fr _ _ upd_same) h3⟩
      · rename_i C xs en
        rw [Option.map_eq_some_iff] at e
        obtain ⟨⟨ys, m1⟩, e1, e2⟩ := e
        cases e2
        obtain ⟨hc, dx, vs, hv, rv⟩ := M.ob n _ en
        obtain ⟨le, M'⟩ := M.give en trivial hv
        obtain ⟨w', h1, h2, h3⟩ := flds _ _ _ _ _ _ M' (rv.mono le) e1
        exact ⟨w', le.trans h1, h2, .ins hc (h1.fr _ _ upd_same) h3⟩
      · rename_i xs en
        rw [Option.map_eq_some_iff] at e
        obtain ⟨⟨ys, m1⟩, e1, e2⟩ := e
        cases e2
        obtain ⟨vs, hv, rv⟩ := M.ob n _ en
        obtain ⟨le, M'⟩ := M.give en trivial hv
        obtain ⟨w', h1, h2, h3⟩ := kvs _ _ _ _ _ _ M' (rv.mono le) e1
        exact ⟨w', le.trans h1, h2, .dct (h1.fr _ _ upd_same) h3⟩
      · cases e
end
theorem je_frz (ha : JE E N sc a ea) : JE E N sc (.frz a) ea := fun X W C tk => PE.imp (ha X W C tk) fun σ H Q h => by
  obtain ⟨w, sl, m, M, S, h⟩ := h
  unfold evalE at h
  refine rd_bind M S h fun d m1 w1 v H1 le1 M1 S1 r1 h1 => ?_
  unfold frzD at h1
  split at h1
  · rename_i d' m2 e
    obtain ⟨w2, le2, M2, r2⟩ := frzN_rel 9 d m1 w1 v d' m2 M1 r1 e
    exact h1 w2 v H1 le2 M2 r2
  · exact absurd h1 id
def PostS (g : Gm) (w : Wd) (W : WX) (D : Ends) : Res Sx Fl → Prop
  | .ok .nx s => ∀ w' σ' H', w.le w' → Mem g w' H' s.hp → Slr g w' s.sl σ' → D.nx σ' H'
  | .ok .bk s => ∀ w' σ' H', w.le w' → Mem g w' H' s.hp → Slr g w' s.sl σ' → D.bk σ' H'
  | .ok .ct s => ∀ w' σ' H', w.le w' → Mem g w' H' s.hp → Slr g w' s.sl σ' → D.ct σ' H'
  | .ok (.rt d) s => ∀ w' v H', w.le w' → Mem g w' H' s.hp → Rv g w' d v → D.rt v H'
  | .exn C p s => ∀ w' σ' cls dx H', w.le w' → Mem g w' H' s.hp → Slr g w' s.sl σ' → XR g w' C p cls dx → W cls dx σ' H'
  | .bad => False
theorem PostS.mono {g : Gm} {w w' : Wd} {W : WX} {D : Ends} (le : w.le w') : ∀ {r : Res Sx Fl}, PostS g w W D r → PostS g w' W D r
  | .ok .nx _, h => fun u s H' l => h u s H' (le.trans l)
  | .ok .bk _, h => fun u s H' l => h u s H' (le.trans l)
  | .ok .ct _, h => fun u s H' l => h u s H' (le.trans l)
  | .ok (.rt _) _, h => fun u s H' l => h u s H' (le.trans l)
  | .exn _ _ _, h => fun u s c d H' l => h u s c d H' (le.trans l)
  | .bad, h => h
def rdS (E : En) (W : WX) (ms : MS) : TS := fun D σ H => ∃ w sl m, Mem E.g w H m ∧ Slr E.g w sl σ ∧ PostS E.g w W D (execS E.p E.c ms ⟨sl, m⟩)
def rdSs (E : En) (W : WX) (ms : List MS) : TS := fun D σ H => ∃ w sl m, Mem E.g w H m ∧ Slr E.g w sl σ ∧ PostS E.g w W D (execSs E.p E.c ms ⟨sl, m⟩)
/-- a body's context -/
structure Sok (E : En) (N : List Str) (sc : Scope) (fs : Str → Bool) (X : Cx) (W : WX) : Prop where
  C : Cok E N sc X
  fn : X.fn = fs
  tk : Takes X W
  po : PassesOwn (model X.prog X.w) X.A X.env X.xe
  kd : sc.kind = .function
  st : X.stack = X.env :: X.outer
  fr : X.env.frame = some X.env.locals
def JS (E : En) (N : List Str) (sc : Scope) (fs : Str → Bool) (ms : MS) (st : Stmt) : Prop := ∀ X W, Sok E N sc fs X W → PS X st (rdS E W ms)
def JSs (E : En) (N : List Str) (sc : Scope) (fs : Str → Bool) (ms : List MS) (st : List Stmt) : Prop := ∀ X W, Sok E N sc fs X W → PSs X st (rdSs E W ms)
theorem PS.imp {X : Cx} {st : Stmt} {t t' : TS} (h : PS X st t) (k : ∀ D σ H, t' D σ H → t D σ H) : PS X st t' := ⟨fun pins s σ H D I q => h.run pins s σ H D I (k _ _ _ q)⟩
theorem PSs.imp {X : Cx} {st : List Stmt} {t t' : TS} (h : PSs X st t) (k : ∀ D σ H, t' D σ H → t D σ H) : PSs X st t' := ⟨fun pins s σ H D I q => h.run pins s σ H D I (k _ _ _ q)⟩
/-- an expression of a statement, what follows taken up -/
theorem up_bind {α β : Type} {Rl : Wd → α → β → Prop} {W : WX} {D : Ends} {σ : L2.St} {H : Hp} {Q' : β → Hp → Prop} {w : Wd} {sl : List (Option R.D)} {m : Mm} {r : List (Option R.D) → Mm → Res Mm α} {f : α → Mm → Res Sx Fl}
    (M : Mem E.g w H m) (S : Slr E.g w sl σ) (h : PostS E.g w W D (up sl (r sl m) f))
    (k : ∀ d m' w' v H', w.le w' → Mem E.g w' H' m' → Slr E.g w' sl σ → Rl w' d v → PostS E.g w' W D (f d m') → Q' v H') : rdOf Rl E W r σ H Q' := by
  refine ⟨w, sl, m, M, S, ?_⟩
  cases q : r sl m with
  | ok d m1 =>
    rw [q] at h
    exact fun w' v H' le M' rv => k d m1 w' v H' le M' (S.mono le) rv (PostS.mono le h)
  | exn C p m1 =>
    rw [q] at h
    exact fun w' cls dx H' le M' x => h w' σ cls dx H' le M' (S.mono le) x
  | bad => rw [q] at h; exact h
theorem js_ex (hc : notComp ea = true) (ha : JE E N sc a ea) : JS E N sc fs (.ex a) (.Expr ea pos) := fun X W K => by
  refine PS.imp (ps_expr (ha X W K.C K.tk) (swaps_of hc)) fun D σ H h => ?_
  obtain ⟨w, sl, m, M, S, h⟩ := h
  unfold execS at h
  exact up_bind M S h fun d m1 w1 v H1 le1 M1 S1 r1 h1 => h1 w1 σ H1 (Wd.le.refl _) M1 S1
theorem js_ret (ha : JE E N sc a ea) : JS E N sc fs (.ret a) (.Return (some ea) pos) := fun X W K => by
  refine PS.imp (ps_ret (ha X W K.C K.tk)) fun D σ H h => ?_
  obtain ⟨w, sl, m, M, S, h⟩ := h
  unfold execS at h
  exact up_bind M S h fun d m1 w1 v H1 le1 M1 S1 r1 h1 => h1 w1 v H1 (Wd.le.refl _) M1 r1
theorem js_retn : JS E N sc fs .retn (.Return none pos) := fun X W K => PS.imp ps_retN fun D σ H h => by
  obtain ⟨w, sl, m, M, S, h⟩ := h
  unfold execS at h
  exact h w .non H (Wd.le.refl _) M .non
/-- what the comprehension of 'y = [..]' is stored by -/
def swapB (sc : Scope) (y : Str) (py : Pos) (e : Expr) : Bool := match e with
  | .ListComp _ _ scope p => (match sc.names.lookup y with | some .local => true | _ => false) && (py.line == p.line) && !(scope.names.any fun (n, k) => n == y && (k == .local || k == .cell))
  | _ => false
def isComp2 : Expr → Bool
  | .SetComp _ _ _ _ => false
  | .DictComp _ _ _ _ _ => false
  | _ => true
theorem swap_false {env : Env} {y : Str} {py : Pos} {l : Nat} {e : Expr} (hk : env.scope.kind = .function) (h2 : isComp2 e = true) (h : swapB env.scope y py e = false) : swapsWith e (some (.Name y py)) l env = pure false := by
  have hb : env.blockKind = .function := by unfold Env.blockKind; rw [hk]; rfl
  cases e with
  | ListComp elt gs scope p =>
    have e1 : swapsWith (.ListComp elt gs scope p) (some (.Name y py)) l env = pure (env.blockKind == .function && env.kindOf y == some .local && py.line == p.line && !(scope.names.any fun (n, k) => n == y && (k == .local || k == .cell))) := rfl
    rw [e1, hb]
    unfold swapB at h
    dsimp only at h
    have e2 : (env.kindOf y == some .local) = (match env.scope.names.lookup y with | some .local => true | _ => false) := by
      show (env.scope.names.lookup y == some .local) = _
      cases env.scope.names.lookup y with
      | none => rfl
      | some k => cases k <;> rfl
    rw [e2]
    have e3 : (ScopeKind.function == ScopeKind.function) = true := rfl
    rw [e3, Bool.true_and, h]
  | SetComp _ _ _ _ => cases h2
  | DictComp _ _ _ _ _ => cases h2
  | _ => rfl
theorem js_set {i : Nat} {x : Str} {pn : Pos} (h1 : N[i]? = some x) (h2 : locB sc fs x = true) (hc : isComp2 ea = true) (hw : swapB sc x pn ea = false) (ha : JE E N sc a ea) : JS E N sc fs (.set i a) (.Assign [.Name x pn] ea pos) := fun X W K => by
  have l := loc_of h2
  refine PS.imp (ps_set (X := X) (i := i) (by rw [K.C.Ns]; exact K.C.nd) (by rw [K.C.Ns]; exact h1) (by rw [K.C.sc]; exact l.1) (ha X W K.C K.tk) (swap_false (by rw [K.C.sc]; exact K.kd) hc (by rw [K.C.sc]; exact hw)) (by rw [K.fn, K.C.sc]; exact l.2)) fun D σ H h => ?_
  obtain ⟨w, sl, m, M, S, h⟩ := h
  unfold execS at h
  exact up_bind M S h fun d m1 w1 v H1 le1 M1 S1 r1 h1 => h1 w1 _ H1 (Wd.le.refl _) M1 (S1.set r1)
theorem js_setc {i : Nat} {x : Str} {pn : Pos} {obj : Bool} {elt : ME} {g : Tg} {it : It} {cond : Option ME} {own : List Nat} {eelt tg iter : Expr} {ifs : List Expr} {scope : Scope} {cpos : Pos} (h1 : N[i]? = some x) (hw : swapB sc x pn (.ListComp eelt [⟨tg, iter, ifs, 0⟩] scope cpos) = true)
    (ho : ∀ i ∈ own, i < N.length) (hg : ∀ i ∈ g.ix, i ∈ own) (hb : blkC N sc scope (ownOf N own) = true) (hns : notSetE iter = true)
    (hi : JI E N sc it tg iter) (ht : JG E N (relS scope sc) (fun x => scope.names.lookup x == some .cell) g tg) (hc : JC E N (relS scope sc) cond ifs) (he : JE E N (relS scope sc) elt eelt) :
    JS E N sc fs (.set i (.lc obj elt g it cond own)) (.Assign [.Name x pn] (.ListComp eelt [⟨tg, iter, ifs, 0⟩] scope cpos) pos) := fun X W K => by
  have C := K.C
  have hy : X.env.scope.names.lookup x = some .local ∧ (pn.line == cpos.line) = true ∧ (scope.names.any fun (n, k) => n == x && (k == .local || k == .cell)) = false := by
    rw [C.sc]
    unfold swapB at hw
    dsimp only at hw
    simp only [Bool.and_eq_true, Bool.not_eq_true'] at hw
    refine ⟨?_, hw.1.2, hw.2⟩
    have q := hw.1.1
    split at q
    · assumption
    · cases q
  have h := ps_setLc (X := X) (i := i) (own := ownOf N own) (pos := cpos) (spos := pos) C.calm (by rw [C.Ns]; exact C.nd) (by rw [C.Ns]; exact h1) hy.1 (sw_true (by rw [C.sc]; exact K.kd) hy.1 hy.2.1 hy.2.2) (hi X W C K.tk) (blkOk_by (by rw [C.Ns, C.sc]; exact hb))
    (fun s H A cl fp => ht _ (C.blk (s := s) (H := H)) rfl) (fun s H A cl fp => hc _ (C.blk (s := s) (H := H))) (fun s H A cl fp => he _ (fun _ _ _ _ => False) (C.blk (s := s) (H := H)) takes0) (noFold iter hns X.env)
  rw [ownOf_ix ho] at h
  refine PS.imp h fun D σ H h => ?_
  refine lc_read (K := X.K) (obj := obj) (W := W) hg ?_
  obtain ⟨w, sl, m, M, S, h⟩ := h
  unfold execS at h
  exact up_bind M S h fun d m1 w1 v H1 le1 M1 S1 r1 h1 => h1 w1 _ H1 (Wd.le.refl _) M1 (S1.set r1)
theorem swapsSole {t e : Expr} {l : Nat} {env : Env} (h : notComp e = true) : swapsWithSole [t] e l env = pure false := swaps_of h
def notTup : Expr → Bool
  | .Tuple _ _ _ => false
  | _ => true
theorem stores_none {t e : Expr} {env : Env} (h : notTup e = true) : swappedStores [t] e env = pure none := by
  unfold swappedStores
  cases t <;> cases e <;> first | rfl | cases h
theorem js_unp {g : Tg} {tg : Expr} (hs : notStar tg = true) (hc : notComp ea = true) (ht : notTup ea = true) (hg : JG E N sc fs g tg) (ha : JE E N sc a ea) : JS E N sc fs (.unp g a) (.Assign [tg] ea pos) := fun X W K => by
  refine PS.imp (ps_asg (ha X W K.C K.tk) (hg X K.C K.fn) (swapsSole hc) (stores_none ht) (assignEach_of hs)) fun D σ H h => ?_
  obtain ⟨w, sl, m, M, S, h⟩ := h
  unfold execS at h
  refine up_bind M S h fun d m1 w1 v H1 le1 M1 S1 r1 h1 => ?_
  split at h1
  · rename_i sl' e
    exact ⟨w1, m1, d, sl, sl', M1, r1, S1, e, fun σ' S' _ => h1 w1 σ' H1 (Wd.le.refl _) M1 S'⟩
  · exact absurd h1 id
theorem swaps_attr {e o : Expr} {f : Str} {p : Pos} {l : Nat} {env : Env} : swapsWith e (some (.Attribute o f p)) l env = pure false := by
  cases e <;> rfl
theorem swaps_sub {e o i : Expr} {p : Pos} {l : Nat} {env : Env} : swapsWithSole [.Subscript o i p] e l env = pure false := by
  show swapsWith e (some (.Subscript o i p)) l env = pure false
  cases e <;> rfl
theorem stores_sub {e o i : Expr} {p : Pos} {env : Env} : swappedStores [.Subscript o i p] e env = pure none := by
  unfold swappedStores
  cases e <;> rfl
/-- a field is stored -/
theorem set_field (G : Gok E) {w : Wd} {H : Hp} {m m' : Mm} {d y : D} {x u : V} {f : Nat} (hf : f < E.cf.natt) (M : Mem E.g w H m) (rd : Rv E.g w d x) (ry : Rv E.g w y u) (e : setFD d f y m = some m') :
    ∃ p Ci dx fvs, x = .ref p ∧ H p = some (.ins (E.g.cad Ci) dx fvs) ∧ Cls E.g.K (E.g.cad Ci) ∧ NoAttr E.g.K (E.g.cad Ci) (E.g.att f) ∧ fvs.length < 1000 ∧ Mem E.g w (upd H p (.ins (E.g.cad Ci) dx (L2.putF (E.g.att f) u fvs))) m' ∧ clsD m d = some Ci := by
  unfold setFD at e
  split at e
  · split at e
    · rename_i n Ci fs' en
      split at e
      · rename_i hl
        cases e
        cases rd with
        | ref n hn =>
          obtain ⟨hc, dx, fvs, h1, rf⟩ := M.ob _ _ en
          obtain ⟨c1, c2⟩ := G.cls Ci hc
          refine ⟨_, Ci, dx, fvs, rfl, h1, c1, c2 f hf, by rw [← rf.len]; omega, ?_, by simp only [clsD, en]⟩
          exact M.write en trivial trivial ⟨hc, dx, _, upd_same, rf.put G.inj ry⟩
      · cases e
    · cases e
  · cases e
theorem js_setf (G : Gok E) {o : ME} {eo : Expr} {f : Nat} {p : Pos} (hf : f < E.cf.natt) (ho : JE E N sc o eo) (ha : JE E N sc a ea) : JS E N sc fs (.setf o f a) (.Assign [.Attribute eo (E.g.att f) p] ea pos) := fun X W K => by
  refine PS.imp (ps_fld (ho X W K.C K.tk) (ha X W K.C K.tk) swaps_attr) fun D σ H h => ?_
  obtain ⟨w, sl, m, M, S, h⟩ := h
  unfold execS at h
  refine up_bind M S h fun d m1 w1 v H1 le1 M1 S1 r1 h1 => ?_
  refine up_bind M1 S1 h1 fun y m2 w2 u H2 le2 M2 S2 r2 h2 => ?_
  split at h2
  · rename_i m3 e
    obtain ⟨q, Ci, dx, fvs, rfl, h3, c1, c2, hl, M3, _⟩ := set_field G hf M2 r2 (r1.mono le2) e
    exact ⟨q, _, dx, fvs, rfl, h3, by rw [K.C.K]; exact c1, by rw [K.C.K]; exact c2, hl, h2 w2 σ _ (Wd.le.refl _) M3 S2⟩
  · exact absurd h2 id
/-- an item is stored -/
theorem set_item {w : Wd} {H : Hp} {m m' : Mm} {o i d : D} {x y u : V} (M : Mem E.g w H m) (ro : Rv E.g w o x) (ri : Rv E.g w i y) (rd : Rv E.g w d u) (e : setID o i d m = some m') :
    ∃ p vs k j, x = .ref p ∧ y = .int k ∧ H p = some (.lst vs) ∧ ixN vs.length k = some j ∧ Mem E.g w (upd H p (.lst (vs.set j u))) m' := by
  cases ro with
  | ref n hn =>
    cases ri with
    | int k =>
      simp only [setID] at e
      split at e
      · rename_i xs en
        split at e
        · rename_i j ej
          cases e
          obtain ⟨vs, h1, rv⟩ := M.ob _ _ en
          refine ⟨_, vs, k, j, rfl, rfl, h1, by rw [← rv.length]; exact ej, ?_⟩
          exact M.write en trivial trivial ⟨_, upd_same, rv.set rd⟩
        · cases e
      · cases e
    | _ => simp [setID] at e
  | _ => simp [setID] at e
theorem js_seti {o i : ME} {eo ei : Expr} {p : Pos} (hp : plainIxB ei = true) (ho : JE E N sc o eo) (hi : JE E N sc i ei) (ha : JE E N sc a ea) : JS E N sc fs (.seti o i a) (.Assign [.Subscript eo ei p] ea pos) := fun X W K => by
  have hasg : ∀ v, assign (.Subscript eo ei p) X.env v = (do
      let ov ← holding [v] (eval eo X.env)
      let iv ← holding [v, ov] (eval ei X.env)
      standAt p
      holding [v, ov, iv] (setItem ov iv v)
      release [v, ov, iv] []) := by
    intro v
    cases ei <;> first | rfl | cases hp
  refine PS.imp (ps_asg (ha X W K.C K.tk) (pg_sub (ho X W K.C K.tk) (hi X W K.C K.tk) set_list hasg) swaps_sub stores_sub rfl) fun D σ H h => ?_
  obtain ⟨w, sl, m, M, S, h⟩ := h
  unfold execS at h
  refine up_bind M S h fun d m1 w1 v H1 le1 M1 S1 r1 h1 => ?_
  refine up_bind M1 S1 h1 fun y m2 w2 u H2 le2 M2 S2 r2 h2 => ?_
  refine up_bind M2 S2 h2 fun z m3 w3 t H3 le3 M3 S3 r3 h3 => ?_
  split at h3
  · rename_i m4 e
    obtain ⟨q, vs, k, j, rfl, rfl, h4, h5, M4⟩ := set_item M3 (r2.mono le3) r3 ((r1.mono le2).mono le3) e
    exact ⟨q, vs, k, j, rfl, rfl, h4, h5, h3 w3 σ _ (Wd.le.refl _) M4 S3⟩
  · exact absurd h3 id
def gSl (to : TE) (tl th : TO) : TG := fun v σ H Q => to σ H fun x H1 => tl σ H1 fun l H2 => th σ H2 fun u H3 => ∃ p b xs ys a c, x = .ref p ∧ v = .ref b ∧ l = some a ∧ u = some c ∧ H3 p = some (.lst xs) ∧ H3 b = some (.lst ys) ∧ p ≠ b ∧
  0 ≤ a ∧ a ≤ c ∧ c ≤ (xs.length : Int) ∧ xs.length + ys.length ≤ sizeLine ∧ Q σ (upd H3 p (.lst (xs.take a.toNat ++ ys ++ xs.drop c.toNat)))
theorem pg_sl {X : Cx} {o elo ehi : Expr} {to : TE} {tl th : TO} {p2 : Pos} (ho : PE X o to) (hl : PO X (some elo) tl) (hu : PO X (some ehi) th) : PG X (.Subscript o (.Slice (some elo) (some ehi) none p2) pos) (gSl to tl th) := by
  refine ⟨fun pins s σ H v u Q I r h => ?_⟩
  have ha : assign (.Subscript o (.Slice (some elo) (some ehi) none p2) pos) X.env u = (do
      let ov ← holding [u] (eval o X.env)
      let iv ← holding [u, ov] (eval (.Slice (some elo) (some ehi) none p2) X.env)
      standAt pos
      holding [u, ov, iv] (setItem ov iv u)
      release [iv, u, ov] []) := rfl
  rw [ha]
  refine wpAny_bind (wpAny_holding (thn (ho.run pins s σ H _ I h) fun ov s1 ⟨x, H1, I1, r1, q1⟩ => ?_))
  refine wpAny_bind (wpAny_holding (wpAny_Slice (thn (hl.run pins s1 σ H1 _ I1 q1) fun vl s2 ⟨l, H2, I2, pl, q2⟩ => thn (hu.run pins s2 σ H2 _ I2 q2) fun vu s3 ⟨u', H3, I3, pu, q3⟩ => ?_)))
  rw [evalPart_none]
  refine wpAny_pure ?_
  have I4 : Inv X pins σ H3 { s3 with heap := s3.heap.push { cls := .type "slice", data := .fields #[vl, vu, .none] } } := I3.kept (t' := s3.toks) fun b ob q => Heap.get?_push_of_some _ q
  obtain ⟨p, b, xs, ys, a, c, rfl, rfl, rfl, rfl, h1, h2, hne, h3, h4, h5, h6, q⟩ := q3
  cases r1
  cases r
  have isPart_int : ∀ {v : Value} {i : Int}, IsPart v (some i) → RelV (.int i) v := fun {v i} p => by
    cases p
    exact ⟨_, rfl⟩
  refine wpAny_bind (wpAny_standAt (wpAny_bind (wpAny_holding ?_)))
  refine set_slice I4 h1 h2 hne (Heap.IsSliceOf.new ..) (isPart_int pl) (isPart_int pu) h3 h4 h5 h6 fun s5 I5 => ?_
  exact wpAny_release ⟨σ, _, I5, q⟩
theorem swaps_slc {e o : Expr} {l u : Option Expr} {p p2 : Pos} {ln : Nat} {env : Env} : swapsWithSole [.Subscript o (.Slice l u none p2) p] e ln env = pure false := by
  show swapsWith e (some (.Subscript o (.Slice l u none p2) p)) ln env = pure false
  cases e <;> rfl
theorem stores_slc {e o : Expr} {l u : Option Expr} {p p2 : Pos} {env : Env} : swappedStores [.Subscript o (.Slice l u none p2) p] e env = pure none := by
  unfold swappedStores
  cases e <;> rfl
theorem js_setsl {o i k : ME} {eo ei ek : Expr} {p p2 : Pos} (ho : JE E N sc o eo) (hi : JE E N sc i ei) (hk : JE E N sc k ek) (ha : JE E N sc a ea) : JS E N sc fs (.setsl o i k a) (.Assign [.Subscript eo (.Slice (some ei) (some ek) none p2) p] ea pos) := fun X W K => by
  refine PS.imp (ps_asg (ha X W K.C K.tk) (pg_sl (ho X W K.C K.tk) (po_some (hi X W K.C K.tk)) (po_some (hk X W K.C K.tk))) swaps_slc stores_slc rfl) fun D σ H h => ?_
  obtain ⟨w, sl, m, M, S, h⟩ := h
  unfold execS at h
  refine up_bind M S h fun d m1 w1 v H1 le1 M1 S1 r1 h1 => ?_
  refine up_bind M1 S1 h1 fun y m2 w2 u H2 le2 M2 S2 r2 h2 => ?_
  refine up_bind M2 S2 h2 fun z m3 w3 t H3 le3 M3 S3 r3 h3 => ?_
  split at h3
  · cases r3
    refine ⟨_, rfl, ?_⟩
    refine up_bind M3 S3 h3 fun z2 m4 w4 t2 H4 le4 M4 S4 r4 h4 => ?_
    split at h4
    · cases r4
      refine ⟨_, rfl, ?_⟩
      split at h4
      · rename_i m5 e5
        have ro := (r2.mono le3).mono le4
        have rd := ((r1.mono le2).mono le3).mono le4
        unfold setSD at e5
        split at e5
        · rename_i nn
          split at e5
          · rename_i xs ys en ey
            split at e5
            · rename_i hc
              cases e5
              simp only [Bool.and_eq_true, decide_eq_true_eq] at hc
              obtain ⟨⟨⟨⟨c1, c2⟩, c3⟩, c4⟩, c5⟩ := hc
              have c4 := szOk_le c4
              obtain ⟨b, us, eb, hb, rb⟩ := lstW_rel M4 rd ey
              subst eb
              cases ro with
              | ref _ hn =>
                obtain ⟨vs, hv, rv⟩ := M4.ob _ _ en
                have hne : w4.ρ nn ≠ b := by
                  intro q
                  cases rd with
                  | lst h0 r0 =>
                    have := M4.nf _ _ en trivial
                    rw [q] at this
                    rw [this] at h0
                    cases h0
                  | ref k hk =>
                    simp only [lstW] at ey
                    split at ey
                    · rename_i zs ez
                      have := M4.inj _ _ _ _ en trivial ez trivial q
                      subst this
                      simp [notRef] at c5
                    · cases ey
                  | _ => cases ey
                refine ⟨_, b, vs, us, _, _, rfl, rfl, rfl, rfl, hv, hb, hne, c1, c2, by rw [← rv.length]; exact c3, by rw [← rv.length, ← rb.length]; exact c4, ?_⟩
                refine h4 w4 σ _ (Wd.le.refl _) ?_ S4
                exact M4.write en trivial trivial ⟨_, upd_same, ((rv.take _).append rb).append (rv.drop _)⟩
            · cases e5
          · cases e5
        · cases e5
      · exact absurd h4 id
    · exact absurd h4 id
  · exact absurd h3 id
/-- += and -= of ints -/
def augF : Op → Int → Int → Int
  | .add, a, b => a + b
  | .sub, a, b => a - b
  | _, a, _ => a
theorem augD_rel {g : Gm} {w : Wd} {o : Op} {x y z : D} {v u : V} (rx : Rv g w x v) (ry : Rv g w y u) (e : augD o x y = some z) : ∃ a b, x = .int a ∧ y = .int b ∧ v = .int a ∧ u = .int b ∧ z = .int (augF o a b) := by
  cases rx with
  | int a =>
    cases ry with
    | int b =>
      simp only [augD] at e
      rw [Option.map_eq_some_iff] at e
      obtain ⟨k, e1, e2⟩ := e
      refine ⟨a, b, rfl, rfl, rfl, rfl, ?_⟩
      cases o <;> first | (cases e1; exact e2.symm) | cases e1
    | _ => simp [augD] at e
  | _ => simp [augD] at e
def augOp : Op → Bool
  | .add => true | .sub => true | _ => false
theorem ip_aug {X : Cx} {o : Op} (h : augOp o = true) : PIp X o.py (ipI (augF o)) := by
  cases o <;> first | exact ip_add | exact ip_sub | cases h
theorem js_aug {i : Nat} {x : Str} {pn : Pos} {o : Op} (h1 : N[i]? = some x) (h2 : locB sc fs x = true) (ho : augOp o = true) (ha : JE E N sc a ea) : JS E N sc fs (.aug i o a) (.AugAssign (.Name x pn) o.py ea pos) := fun X W K => by
  have l := loc_of h2
  refine PS.imp (ps_aug (X := X) (i := i) (by rw [K.C.Ns]; exact K.C.nd) (by rw [K.C.Ns]; exact h1) (by rw [K.C.sc]; exact l.1) (ha X W K.C K.tk) (ip_aug ho) (by rw [K.fn, K.C.sc]; exact l.2)) fun D σ H h => ?_
  obtain ⟨w, sl, m, M, S, h⟩ := h
  unfold execS at h
  dsimp only at h
  split at h
  · rename_i d e
    obtain ⟨v, hv, rv⟩ := S.at_ i d e
    refine ⟨v, hv, up_bind M S h fun y m1 w1 u H1 le1 M1 S1 r1 h2 => ?_⟩
    split at h2
    · rename_i z ez
      obtain ⟨a, b, rfl, rfl, rfl, rfl, rfl⟩ := augD_rel (rv.mono le1) r1 ez
      exact ⟨a, b, rfl, rfl, h2 w1 _ H1 (Wd.le.refl _) M1 (S1.set (.int _))⟩
    · exact absurd h2 id
  · exact absurd h id
theorem in_aug {X : Cx} {o : Op} (h : augOp o = true) : InOp X o.py (fun x y H Q => ∃ i j, x = .int i ∧ y = .int j ∧ Q (.int (augF o i j)) H) := by
  cases o <;> first | exact in_add | exact in_sub | cases h
theorem js_augf (G : Gok E) {o : ME} {eo : Expr} {f : Nat} {p : Pos} {op : Op} (hso : notSuper eo = true) (hf : f < E.cf.natt) (hop : augOp op = true) (ho : JE E N sc o eo) (ha : JE E N sc a ea) : JS E N sc fs (.augf o f op a) (.AugAssign (.Attribute eo (E.g.att f) p) op.py ea pos) := fun X W K => by
  refine PS.imp (ps_fldaug (ho X W K.C K.tk) (ha X W K.C K.tk) (in_aug hop)) fun D σ H h => ?_
  obtain ⟨w, sl, m, M, S, h⟩ := h
  unfold execS at h
  refine up_bind M S h fun d m1 w1 v H1 le1 M1 S1 r1 h1 => ?_
  split at h1
  · rename_i y ey
    obtain ⟨p, Ci, dx, fvs, u, rfl, h2, hc, h3, h4, ecl⟩ := inst_at G M1 r1 ey
    obtain ⟨c1, c2⟩ := G.cls Ci hc
    refine ⟨p, _, dx, fvs, u, rfl, h2, by rw [K.C.K]; exact c1, by rw [K.C.K]; exact c2 f hf, h3, up_bind M1 S1 h1 fun z m2 w2 t H2 le2 M2 S2 r2 h5 => ?_⟩
    split at h5
    · rename_i q eq
      obtain ⟨a, b, rfl, rfl, rfl, rfl, rfl⟩ := augD_rel (h4.mono le2) r2 eq
      split at h5
      · rename_i hcl
        split at h5
        · rename_i m3 e3
          obtain ⟨p', Ci', dx', fvs', e4, h6, c1', c2', hl, M3, ecl'⟩ := set_field G hf M2 (r1.mono le2) (.int _) e3
          cases e4
          rw [ecl, ecl'] at hcl
          cases hcl
          exact ⟨a, b, rfl, rfl, dx', fvs', h6, hl, h5 w2 σ _ (Wd.le.refl _) M3 S2⟩
        · exact absurd h5 id
      · exact absurd h5 id
    · exact absurd h5 id
  · exact absurd h1 id
/-- an item of a list, by values -/
theorem get_list {X : Cx} : PGet X (rIxL X.K) := by
  intro pins s σ H o i ov iv Q I ro ri h
  obtain ⟨p, xs, k, v, rfl, rfl, hq, he, q⟩ := h
  cases ro
  obtain ⟨t, rfl⟩ := ri
  obtain ⟨its, r, pl, hz⟩ := I.list hq
  obtain ⟨j, h1, h2, h3, h4, h5⟩ := atI_get he
  obtain ⟨u, eu, ru⟩ := r.get h2
  have hl := r.length
  have hn := line63
  have fin : EP X pins σ Q u s := ⟨v, H, I, ru, q⟩
  by_cases h0 : 0 ≤ k
  · have hj : k.toNat = j := by
      rw [seqIndex_of h0 h5] at h1
      exact Option.some.inj h1
    refine wpAny_getItem_list pl.isList h0 (by omega) ?_ fin
    rw [hj]
    simpa using eu
  · have hj : (k + (its.toArray.size : Int)).toNat = j := by
      rw [seqIndex_neg (by omega) h4] at h1
      rw [List.size_toArray, ← hl]
      exact Option.some.inj h1
    refine wpAny_getItem_list_neg pl.isList (by omega) (by rw [List.size_toArray]; omega) (by omega) ?_ fin
    rw [hj]
    simpa using eu
theorem js_augi {o i : ME} {eo ei : Expr} {p : Pos} {op : Op} (hp : plainIxB ei = true) (hop : augOp op = true) (ho : JE E N sc o eo) (hi : JE E N sc i ei) (ha : JE E N sc a ea) : JS E N sc fs (.augi o i op a) (.AugAssign (.Subscript eo ei p) op.py ea pos) := fun X W K => by
  have hst : ∀ ov iv new, augStore ei ov iv new = (do holding [new, ov, iv] (setItem ov iv new); release [new, ov, iv] []; pure .next) := by
    intro ov iv new
    cases ei <;> first | rfl | cases hp
  refine PS.imp (ps_augS (ho X W K.C K.tk) (hi X W K.C K.tk) get_list (ha X W K.C K.tk) (ip_aug hop) set_list hst) fun D σ H h => ?_
  obtain ⟨w, sl, m, M, S, h⟩ := h
  unfold execS at h
  refine up_bind M S h fun d m1 w1 v H1 le1 M1 S1 r1 h1 => ?_
  refine up_bind M1 S1 h1 fun y m2 w2 u H2 le2 M2 S2 r2 h2 => ?_
  split at h2
  · rename_i z ez
    have r1' := r1.mono le2
    cases r1' with
    | ref n hn =>
      cases r2 with
      | int k =>
        simp only [idxM] at ez
        split at ez
        · rename_i xs en
          obtain ⟨vs, hv, rv⟩ := M2.ob _ _ en
          obtain ⟨x, hx, rx⟩ := rv.atI ez
          refine ⟨_, vs, k, x, rfl, rfl, by rw [K.C.K]; exact SqL.of hv, hx, up_bind M2 S2 h2 fun q m3 w3 t H3 le3 M3 S3 r3 h3 => ?_⟩
          split at h3
          · rename_i z2 ez2
            obtain ⟨i1, i2, rfl, rfl, rfl, rfl, rfl⟩ := augD_rel (rx.mono le3) r3 ez2
            split at h3
            · rename_i m4 e4
              have rr := (Rv.ref (g := E.g) n hn).mono le3
              obtain ⟨q', us, k', j, e5, e6, h6, h7, M4⟩ := set_item M3 rr (.int k) (.int _) e4
              cases e6
              exact ⟨i1, i2, rfl, rfl, q', us, _, j, e5, rfl, h6, h7, h3 w3 σ _ (Wd.le.refl _) M4 S3⟩
            · exact absurd h3 id
          · exact absurd h3 id
        · cases ez
      | _ => simp [idxM] at ez
    | _ => simp [idxM] at ez
  · exact absurd h2 id
theorem test_bind {W : WX} {D : Ends} {σ : L2.St} {H : Hp} {w : Wd} {sl : List (Option R.D)} {m : Mm} {k : ME} {f : Bool → Mm → Res Sx Fl} {Q : Bool → Hp → Prop} (M : Mem E.g w H m) (S : Slr E.g w sl σ)
    (h : PostS E.g w W D (up sl (evalE E.p E.c k sl m) fun x h => match truthD h x with | some b => f b h | none => .bad))
    (q : ∀ b m1 w1 H1, w.le w1 → Mem E.g w1 H1 m1 → Slr E.g w1 sl σ → PostS E.g w1 W D (f b m1) → Q b H1) : rdT E W k σ H Q := by
  refine ⟨w, sl, m, M, S, ?_⟩
  show Post _ _ _ _ _ (evalT E.p E.c k sl m)
  unfold evalT
  cases q1 : evalE E.p E.c k sl m with
  | bad => rw [q1] at h; exact absurd h id
  | exn C p m1 =>
    rw [q1] at h
    exact fun w' cls dx H' le M' x => h w' σ cls dx H' le M' (S.mono le) x
  | ok d m1 =>
    rw [q1, up_ok] at h
    rw [Res.bind_ok]
    cases q2 : truthD m1 d with
    | none => rw [q2] at h; exact absurd h id
    | some b =>
      rw [q2] at h
      intro w1 v H1 le1 M1 r1
      subst r1
      exact q b m1 w1 H1 le1 M1 (S.mono le1) (PostS.mono le1 h)
theorem js_ite {k : ME} {ek : Expr} {ms ns : List MS} {ss ts : List Stmt} (hk : JT E N sc k ek) (h1 : JSs E N sc fs ms ss) (h2 : JSs E N sc fs ns ts) : JS E N sc fs (.ite k ms ns) (.If ek ss ts pos) := fun X W K => by
  refine PS.imp (ps_if (hk X W K.C K.tk) (h1 X W K) (h2 X W K)) fun D σ H h => ?_
  obtain ⟨w, sl, m, M, S, h⟩ := h
  have e : execS E.p E.c (.ite k ms ns) ⟨sl, m⟩ = up sl (evalE E.p E.c k sl m) fun x h => match truthD h x with | some b => (fun (b : Bool) h => if b = true then execSs E.p E.c ms ⟨sl, h⟩ else execSs E.p E.c ns ⟨sl, h⟩) b h | none => .bad := by
    simp only [execS]
    congr 1
    funext x h
    cases truthD h x with
    | none => rfl
    | some b => cases b <;> rfl
  rw [e] at h
  refine test_bind M S h fun b m1 w1 H1 le1 M1 S1 h3 => ?_
  cases b with
  | true => exact ⟨w1, sl, m1, M1, S1, h3⟩
  | false => exact ⟨w1, sl, m1, M1, S1, h3⟩
theorem jss_nil : JSs E N sc fs [] [] := fun X W K => PSs.imp pss_nil fun D σ H h => by
  obtain ⟨w, sl, m, M, S, h⟩ := h
  unfold execSs at h
  exact h w σ H (Wd.le.refl _) M S
theorem jss_cons {ms : MS} {mss : List MS} {st : Stmt} {sts : List Stmt} (h1 : JS E N sc fs ms st) (h2 : JSs E N sc fs mss sts) : JSs E N sc fs (ms :: mss) (st :: sts) := fun X W K => by
  refine PSs.imp (pss_cons (h1 X W K) (h2 X W K)) fun D σ H h => ?_
  obtain ⟨w, sl, m, M, S, h⟩ := h
  refine ⟨w, sl, m, M, S, ?_⟩
  unfold execSs at h
  cases q : execS E.p E.c ms ⟨sl, m⟩ with
  | bad => rw [q] at h; exact absurd h id
  | exn C p s => rw [q] at h; exact h
  | ok f s =>
    rw [q, Res.bind_ok] at h
    cases f with
    | nx => exact fun w' σ' H' le M' S' => ⟨w', s.sl, s.hp, M', S', PostS.mono le h⟩
    | bk => exact h
    | ct => exact h
    | rt d => exact h
/-- a list is made such as nobody changes -/
theorem jss_frzv {i : Nat} {mss : List MS} {sts : List Stmt} (h2 : JSs E N sc fs mss sts) : JSs E N sc fs (.frzv i :: mss) sts := fun X W K => PSs.imp (h2 X W K) fun D σ H h => by
  obtain ⟨w, sl, m, M, S, h⟩ := h
  unfold execSs execS at h
  dsimp only at h
  cases q : sl[i]? with
  | none => rw [q] at h; exact absurd h id
  | some o =>
    cases o with
    | none => rw [q] at h; exact absurd h id
    | some x =>
      rw [q] at h
      dsimp only at h
      unfold frzD at h
      cases e : frzN 9 x m with
      | none => rw [e] at h; exact absurd h id
      | some r =>
        obtain ⟨d', m'⟩ := r
        rw [e] at h
        obtain ⟨v, hv, rv⟩ := S.at_ i x q
        obtain ⟨w', le, M', r'⟩ := frzN_rel 9 x m w v d' m' M rv e
        have S' : Slr E.g w' (sl.set i (some d')) σ := by
          refine ⟨by rw [List.length_set]; exact S.len, fun j d hj => ?_⟩
          by_cases hji : i = j
          · subst hji
            by_cases hi : i < sl.length
            · rw [List.getElem?_set_self hi] at hj
              cases hj
              exact ⟨v, hv, r'⟩
            · rw [List.getElem?_eq_none (by simpa using hi)] at hj; cases hj
          · rw [List.getElem?_set_ne hji] at hj
            obtain ⟨u, hu, ru⟩ := S.at_ j d hj
            exact ⟨u, hu, ru.mono le⟩
        have h : PostS E.g w W D (execSs E.p E.c mss ⟨sl.set i (some d'), m'⟩) := h
        exact ⟨w', _, m', M', S', PostS.mono le h⟩
/-- a list at an id, its items as they are -/
theorem jss_frzs {i : Nat} {mss : List MS} {sts : List Stmt} (h2 : JSs E N sc fs mss sts) : JSs E N sc fs (.frzs i :: mss) sts := fun X W K => PSs.imp (h2 X W K) fun D σ H h => by
  obtain ⟨w, sl, m, M, S, h⟩ := h
  unfold execSs execS at h
  dsimp only at h
  cases q : sl[i]? with
  | none => rw [q] at h; exact absurd h id
  | some o =>
    cases o with
    | none => rw [q] at h; exact absurd h id
    | some x =>
      rw [q] at h
      cases x with
      | ref n =>
        dsimp only at h
        cases en : m[n]? with
        | none => rw [en] at h; exact absurd h id
        | some ob =>
          rw [en] at h
          cases ob with
          | lst xs =>
            obtain ⟨v, hv, rv⟩ := S.at_ i _ q
            cases rv with
            | ref _ hn =>
              obtain ⟨vs, hvs, rvs⟩ := M.ob n _ en
              obtain ⟨le, M'⟩ := M.give en trivial hvs
              have h : PostS E.g w W D (execSs E.p E.c mss ⟨sl.set i (some (.lst xs)), m.set n .dead⟩) := h
              refine ⟨_, sl.set i (some (.lst xs)), m.set n .dead, M', ⟨by rw [List.length_set]; exact S.len, fun j d hj => ?_⟩, PostS.mono le h⟩
              by_cases hji : i = j
              · subst hji
                by_cases hi : i < sl.length
                · rw [List.getElem?_set_self hi] at hj
                  cases hj
                  exact ⟨_, hv, .lst upd_same (rvs.mono le)⟩
                · rw [List.getElem?_eq_none (by simpa using hi)] at hj; cases hj
              · rw [List.getElem?_set_ne hji] at hj
                obtain ⟨u, hu, ru⟩ := S.at_ j d hj
                exact ⟨u, hu, ru.mono le⟩
          | _ => exact absurd h id
      | _ => exact ⟨w, sl, m, M, S, h⟩
theorem js_brk : JS E N sc fs .brk (.Break pos) := fun X W K => PS.imp ps_break fun D σ H h => by
  obtain ⟨w, sl, m, M, S, h⟩ := h
  unfold execS at h
  exact h w σ H (Wd.le.refl _) M S
theorem js_cont : JS E N sc fs .cont (.Continue pos) := fun X W K => PS.imp ps_continue fun D σ H h => by
  obtain ⟨w, sl, m, M, S, h⟩ := h
  unfold execS at h
  exact h w σ H (Wd.le.refl _) M S
theorem js_pass : JS E N sc fs .pass (.Pass pos) := fun X W K => PS.imp ps_pass fun D σ H h => by
  obtain ⟨w, sl, m, M, S, h⟩ := h
  unfold execS at h
  exact h w σ H (Wd.le.refl _) M S
theorem js_for {g : Tg} {it : It} {ms : List MS} {tg iter : Expr} {ss : List Stmt} (hns : notSetE iter = true) (hi : JI E N sc it tg iter) (hg : JG E N sc fs g tg) (hb : JSs E N sc fs ms ss) : JS E N sc fs (.for_ g it ms) (.For tg iter ss [] pos) := fun X W K => by
  refine PS.imp (ps_for K.po K.C.calm (hi X W K.C K.tk) (hg X K.C K.fn) (hb X W K) (noFold iter hns X.env)) fun D σ H h => ?_
  obtain ⟨w, sl, m, M, S, h⟩ := h
  unfold execS at h
  refine up_bind M S h fun xs m1 w1 J H1 le1 M1 S1 wk h1 => ?_
  generalize hF : (fun (x : R.D) (s : Sx) => (match bindT g x s.sl with | some sl => execSs E.p E.c ms ⟨sl, s.hp⟩ | none => .bad : Res Sx Fl)) = F at h1
  refine ⟨fun i k σ' H' => k = xs.length - i ∧ i ≤ xs.length ∧ ∃ w' sl' m', w1.le w' ∧ Mem E.g w' H' m' ∧ Slr E.g w' sl' σ' ∧ PostS E.g w' W D (forL F (xs.drop i) ⟨sl', m'⟩), ⟨_, rfl, Nat.zero_le _, w1, sl, m1, Wd.le.refl _, M1, S1, h1⟩, ?_⟩
  rintro i k σ' H' ⟨rfl, hi, w', sl', m', le', M', S', hp⟩
  by_cases hlt : i < xs.length
  · refine .inr ⟨wk.go i w' H' m' le' M' hlt, fun σ2 H2 => ∃ w' sl' m', w1.le w' ∧ Mem E.g w' H2 m' ∧ Slr E.g w' sl' σ2 ∧ PostS E.g w' W D (forL F (xs.drop (i + 1)) ⟨sl', m'⟩), fun σ2 H2 hn => ⟨xs.length - (i + 1), by omega, rfl, hlt, hn⟩, fun x H2 y => ?_⟩
    obtain ⟨d, w2, hd, le2, M2, rd⟩ := wk.yld i x w' H' H2 m' le' M' hlt y
    have ed : xs.drop i = d :: xs.drop (i + 1) := by
      rw [List.drop_eq_getElem_cons hlt]
      rw [List.getElem?_eq_getElem hlt] at hd
      rw [Option.some.inj hd]
    rw [ed] at hp
    have hp2 : PostS E.g w2 W D ((F d ⟨sl', m'⟩).bind fun r s => match r with
      | .nx => forL F (xs.drop (i + 1)) s
      | .ct => forL F (xs.drop (i + 1)) s
      | .bk => .ok .nx s
      | .rt d => .ok (.rt d) s) := PostS.mono le2 hp
    cases hbt : bindT g d sl' with
    | none =>
      rw [← hF] at hp2
      dsimp only at hp2
      rw [hbt] at hp2
      exact absurd hp2 id
    | some sl2 =>
      refine ⟨w2, m', d, sl', sl2, M2, rd, S'.mono le2, hbt, fun σ2 Sσ _ => ⟨w2, sl2, m', M2, Sσ, ?_⟩⟩
      have eF : F d ⟨sl', m'⟩ = execSs E.p E.c ms ⟨sl2, m'⟩ := by
        rw [← hF]
        dsimp only
        rw [hbt]
      rw [eF] at hp2
      cases q : execSs E.p E.c ms ⟨sl2, m'⟩ with
      | bad => rw [q] at hp2; exact absurd hp2 id
      | exn C p s => rw [q] at hp2; exact hp2
      | ok f s =>
        rw [q, Res.bind_ok] at hp2
        have le12 := le'.trans le2
        cases f with
        | nx => exact fun w3 σ3 H3 le3 M3 S3 => ⟨w3, s.sl, s.hp, le12.trans le3, M3, S3, PostS.mono le3 hp2⟩
        | ct => exact fun w3 σ3 H3 le3 M3 S3 => ⟨w3, s.sl, s.hp, le12.trans le3, M3, S3, PostS.mono le3 hp2⟩
        | bk => exact hp2
        | rt d => exact hp2
  · have e : i = xs.length := by omega
    subst e
    refine .inl ⟨wk.stop _ w' H' m' le' M' (Nat.le_refl _), ?_⟩
    rw [List.drop_length] at hp
    exact hp w' σ' H' (Wd.le.refl _) M' S'
theorem for_tail {X : Cx} {W : WX} {D : Ends} {g : Tg} {ms : List MS} {xs : List R.D} {J : L2.It} {w1 : Wd} {sl : List (Option R.D)} {m1 : Mm} {σ : L2.St} {H1 : Hp} (M1 : Mem E.g w1 H1 m1) (S1 : Slr E.g w1 sl σ) (wk : Wk E.g w1 xs J)
    (h1 : PostS E.g w1 W D (forL (fun (x : R.D) (s : Sx) => (match bindT g x s.sl with | some sl => execSs E.p E.c ms ⟨sl, s.hp⟩ | none => .bad : Res Sx Fl)) xs ⟨sl, m1⟩)) :
    tFor (fun _ H R => R J H) (rdG E g) (rdSs E W ms) D σ H1 := by
  generalize hF : (fun (x : R.D) (s : Sx) => (match bindT g x s.sl with | some sl => execSs E.p E.c ms ⟨sl, s.hp⟩ | none => .bad : Res Sx Fl)) = F at h1
  refine ⟨fun i k σ' H' => k = xs.length - i ∧ i ≤ xs.length ∧ ∃ w' sl' m', w1.le w' ∧ Mem E.g w' H' m' ∧ Slr E.g w' sl' σ' ∧ PostS E.g w' W D (forL F (xs.drop i) ⟨sl', m'⟩), ⟨_, rfl, Nat.zero_le _, w1, sl, m1, Wd.le.refl _, M1, S1, h1⟩, ?_⟩
  rintro i k σ' H' ⟨rfl, hi, w', sl', m', le', M', S', hp⟩
  by_cases hlt : i < xs.length
  · refine .inr ⟨wk.go i w' H' m' le' M' hlt, fun σ2 H2 => ∃ w' sl' m', w1.le w' ∧ Mem E.g w' H2 m' ∧ Slr E.g w' sl' σ2 ∧ PostS E.g w' W D (forL F (xs.drop (i + 1)) ⟨sl', m'⟩), fun σ2 H2 hn => ⟨xs.length - (i + 1), by omega, rfl, hlt, hn⟩, fun x H2 y => ?_⟩
    obtain ⟨d, w2, hd, le2, M2, rd⟩ := wk.yld i x w' H' H2 m' le' M' hlt y
    have ed : xs.drop i = d :: xs.drop (i + 1) := by
      rw [List.drop_eq_getElem_cons hlt]
      rw [List.getElem?_eq_getElem hlt] at hd
      rw [Option.some.inj hd]
    rw [ed] at hp
    have hp2 : PostS E.g w2 W D ((F d ⟨sl', m'⟩).bind fun r s => match r with
      | .nx => forL F (xs.drop (i + 1)) s
      | .ct => forL F (xs.drop (i + 1)) s
      | .bk => .ok .nx s
      | .rt d => .ok (.rt d) s) := PostS.mono le2 hp
    cases hbt : bindT g d sl' with
    | none =>
      rw [← hF] at hp2
      dsimp only at hp2
      rw [hbt] at hp2
      exact absurd hp2 id
    | some sl2 =>
      refine ⟨w2, m', d, sl', sl2, M2, rd, S'.mono le2, hbt, fun σ2 Sσ _ => ⟨w2, sl2, m', M2, Sσ, ?_⟩⟩
      have eF : F d ⟨sl', m'⟩ = execSs E.p E.c ms ⟨sl2, m'⟩ := by
        rw [← hF]
        dsimp only
        rw [hbt]
      rw [eF] at hp2
      cases q : execSs E.p E.c ms ⟨sl2, m'⟩ with
      | bad => rw [q] at hp2; exact absurd hp2 id
      | exn C p s => rw [q] at hp2; exact hp2
      | ok f s =>
        rw [q, Res.bind_ok] at hp2
        have le12 := le'.trans le2
        cases f with
        | nx => exact fun w3 σ3 H3 le3 M3 S3 => ⟨w3, s.sl, s.hp, le12.trans le3, M3, S3, PostS.mono le3 hp2⟩
        | ct => exact fun w3 σ3 H3 le3 M3 S3 => ⟨w3, s.sl, s.hp, le12.trans le3, M3, S3, PostS.mono le3 hp2⟩
        | bk => exact hp2
        | rt d => exact hp2
  · have e : i = xs.length := by omega
    subst e
    refine .inl ⟨wk.stop _ w' H' m' le' M' (Nat.le_refl _), ?_⟩
    rw [List.drop_length] at hp
    exact hp w' σ' H' (Wd.le.refl _) M' S'
theorem js_forP {g : Tg} {x0 : ME} {ms : List MS} {tg iter : Expr} {ss : List Stmt} (hpath : isPath x0 = true) (hns : notSetE iter = true) (hi : JE E N sc x0 iter) (hg : JG E N sc fs g tg) (hb : JSs E N sc fs ms ss) : JS E N sc fs (.forP g x0 ms) (.For tg iter ss [] pos) := fun X W K => ⟨fun pins s σ H D I h => by
  obtain ⟨w, sl, m, M, S, h⟩ := h
  have plain : (∀ r, execS E.p E.c (.forP g x0 ms) ⟨sl, m⟩ = r → r = execS E.p E.c (.for_ g (.seq x0) ms) ⟨sl, m⟩) → PostS E.g w W D (execS E.p E.c (.forP g x0 ms) ⟨sl, m⟩) → wpAny (model X.prog X.w) X.A (exec (Stmt.For tg iter ss [] pos) X.env) (SP X pins D) X.xe s := fun e h => (js_for (pos := pos) hns (ji_seq hi) hg hb X W K).run pins s σ H D I ⟨w, sl, m, M, S, by rw [← e _ rfl]; exact h⟩
  unfold execS at h
  split at h
  · rename_i n m' hp
    split at h
    · rename_i kvs e
      refine (PS.imp (t' := fun D' σ' H' => D' = D ∧ σ' = σ ∧ H' = H) (ps_lock (ps_for K.po K.C.calm (pi_keys (hi X W K.C K.tk)) (hg X K.C K.fn) (hb X W K) (noFold iter hns X.env))) fun D' σ' H' hh => ?_).run pins s σ H D I ⟨rfl, rfl, rfl⟩
      obtain ⟨rfl, rfl, rfl⟩ := hh
      obtain ⟨kvs', hk, r⟩ := M.ob n _ e
      have hn : n < w.len := M.lt e
      have hng := M.ng n _ e trivial
      refine ⟨w.ρ n, .dK kvs', hk, trivial, fun od => ?_⟩
      obtain ⟨le1, M1⟩ := M.lock e r od
      have S1 := S.mono le1
      refine ⟨_, sl, _, M1, S1, ?_⟩
      rw [(path_lk (E := E) (u := .dct kvs) (v := .ldct kvs) e rfl x0 _ _ hpath hp).2]
      intro w2 x H2 le2 M2 r2
      have g2 : w2.G (w.ρ n) = some (.frz od (.dK kvs')) := le2.gr _ _ upd_same
      have ρ2 : w2.ρ n = w.ρ n := le2.at_ n hn
      cases r2 with
      | ref _ hn2 =>
        refine ⟨w2.ρ n, od, rfl, .inl ⟨kvs', by rw [ρ2]; exact M2.gr _ _ g2, ?_⟩⟩
        refine for_tail (E := E) (X := X) (g := g) (ms := ms) (xs := kvs.map fun kv => keyD kv.1) (w1 := w2) (sl := sl) (m1 := m.set n (.ldct kvs)) M2 (S1.mono le2) (by rw [ρ2]; exact wk_keys (n := n) g2 (r.mono (le1.trans le2))) ?_
        generalize hR : forL (fun (x : R.D) (s : Sx) => (match bindT g x s.sl with | some sl => execSs E.p E.c ms ⟨sl, s.hp⟩ | none => .bad : Res Sx Fl)) (kvs.map fun kv => keyD kv.1) ⟨sl, m.set n (.ldct kvs)⟩ = R at h
        cases R with
        | bad => exact absurd h id
        | exn C p s => exact absurd h id
        | ok f s =>
          dsimp only at h
          split at h
          · rename_i kvs2 e2
            have fin : ∀ {w3 : Wd} {H3 : Hp}, w2.le w3 → Mem E.g w3 H3 s.hp → H3 (w.ρ n) = some (.frz od (.dK kvs')) ∧ ∃ w4, w.le w4 ∧ Mem E.g w4 (upd H3 (w.ρ n) (.dK kvs')) (s.hp.set n (.dct kvs2)) ∧ w3.lf w4 := fun {w3 H3} le3 M3 => by
              have g3 : w3.G (w.ρ n) = some (.frz od (.dK kvs')) := le3.gr _ _ g2
              have ρ3 : w3.ρ n = w.ρ n := (le3.at_ n (Nat.lt_of_lt_of_le hn le2.len)).trans ρ2
              have M4 := M3.unlock e2 (by rw [ρ3]; exact g3)
              rw [ρ3] at M4
              refine ⟨M3.gr _ _ g3, _, ⟨⟨?_, ?_, ?_⟩, fun a o q => ?_⟩, M4, ⟨fun _ _ h => h, Nat.le_refl _, fun _ _ => rfl⟩⟩
              · exact fun a o q => le3.fr _ _ (le2.fr _ _ (le1.fr _ _ q))
              · exact Nat.le_trans le2.len le3.len
              · exact fun k hk => (le3.at_ k (Nat.lt_of_lt_of_le hk le2.len)).trans (le2.at_ k hk)
              · show (if a = w.ρ n then none else w3.G a) = some o
                rw [if_neg fun z => by rw [z, hng] at q; cases q]
                exact le3.gr _ _ (le2.gr _ _ (le1.gr _ _ q))
            cases f with
            | nx =>
              intro w3 σ3 H3 le3 M3 S3
              obtain ⟨h1, w4, le4, M4, lf4⟩ := fin le3 M3
              exact ⟨h1, h w4 σ3 _ le4 M4 ⟨S3.len, fun i d hd => let ⟨v, hv, rv⟩ := S3.at_ i d hd; ⟨v, hv, rv.mono' lf4⟩⟩⟩
            | bk =>
              intro w3 σ3 H3 le3 M3 S3
              obtain ⟨h1, w4, le4, M4, lf4⟩ := fin le3 M3
              exact ⟨h1, h w4 σ3 _ le4 M4 ⟨S3.len, fun i d hd => let ⟨v, hv, rv⟩ := S3.at_ i d hd; ⟨v, hv, rv.mono' lf4⟩⟩⟩
            | ct =>
              intro w3 σ3 H3 le3 M3 S3
              obtain ⟨h1, w4, le4, M4, lf4⟩ := fin le3 M3
              exact ⟨h1, h w4 σ3 _ le4 M4 ⟨S3.len, fun i d hd => let ⟨v, hv, rv⟩ := S3.at_ i d hd; ⟨v, hv, rv.mono' lf4⟩⟩⟩
            | rt d =>
              intro w3 v3 H3 le3 M3 r3
              obtain ⟨h1, w4, le4, M4, lf4⟩ := fin le3 M3
              exact ⟨h1, h w4 v3 _ le4 M4 (r3.mono' lf4)⟩
          · exact absurd h id
    · rename_i kvs e
      refine (PS.imp (t' := fun D' σ' H' => D' = D ∧ σ' = σ ∧ H' = H) (ps_lock (ps_for K.po K.C.calm (pi_list (hi X W K.C K.tk)) (hg X K.C K.fn) (hb X W K) (noFold iter hns X.env))) fun D' σ' H' hh => ?_).run pins s σ H D I ⟨rfl, rfl, rfl⟩
      obtain ⟨rfl, rfl, rfl⟩ := hh
      obtain ⟨vs0, hk, r⟩ := M.ob n _ e
      have hn : n < w.len := M.lt e
      have hng := M.ng n _ e trivial
      refine ⟨w.ρ n, .lst vs0, hk, trivial, fun od => ?_⟩
      obtain ⟨le1, M1⟩ := M.lockL e r od
      have S1 := S.mono le1
      refine ⟨_, sl, _, M1, S1, ?_⟩
      rw [(path_lk (E := E) (u := .lst kvs) (v := .llst kvs) e rfl x0 _ _ hpath hp).2]
      intro w2 x H2 le2 M2 r2
      have g2 : w2.G (w.ρ n) = some (.frz od (.lst vs0)) := le2.gr _ _ upd_same
      have ρ2 : w2.ρ n = w.ρ n := le2.at_ n hn
      cases r2 with
      | ref _ hn2 =>
        rw [K.C.K]
        refine ⟨w2.ρ n, rfl, ⟨vs0, .inl (.inr ⟨od, by rw [ρ2]; exact M2.gr _ _ g2⟩)⟩, ?_⟩
        refine for_tail (E := E) (X := X) (g := g) (ms := ms) (xs := kvs) (w1 := w2) (sl := sl) (m1 := m.set n (.llst kvs)) M2 (S1.mono le2) (by rw [ρ2]; exact wk_listG g2 (r.mono (le1.trans le2))) ?_
        generalize hR : forL (fun (x : R.D) (s : Sx) => (match bindT g x s.sl with | some sl => execSs E.p E.c ms ⟨sl, s.hp⟩ | none => .bad : Res Sx Fl)) kvs ⟨sl, m.set n (.llst kvs)⟩ = R at h
        cases R with
        | bad => exact absurd h id
        | exn C p s => exact absurd h id
        | ok f s =>
          dsimp only at h
          split at h
          · rename_i kvs2 e2
            have fin : ∀ {w3 : Wd} {H3 : Hp}, w2.le w3 → Mem E.g w3 H3 s.hp → H3 (w.ρ n) = some (.frz od (.lst vs0)) ∧ ∃ w4, w.le w4 ∧ Mem E.g w4 (upd H3 (w.ρ n) (.lst vs0)) (s.hp.set n (.lst kvs2)) ∧ w3.lf w4 := fun {w3 H3} le3 M3 => by
              have g3 : w3.G (w.ρ n) = some (.frz od (.lst vs0)) := le3.gr _ _ g2
              have ρ3 : w3.ρ n = w.ρ n := (le3.at_ n (Nat.lt_of_lt_of_le hn le2.len)).trans ρ2
              have M4 := M3.unlockL e2 (by rw [ρ3]; exact g3)
              rw [ρ3] at M4
              refine ⟨M3.gr _ _ g3, _, ⟨⟨?_, ?_, ?_⟩, fun a o q => ?_⟩, M4, ⟨fun _ _ h => h, Nat.le_refl _, fun _ _ => rfl⟩⟩
              · exact fun a o q => le3.fr _ _ (le2.fr _ _ (le1.fr _ _ q))
              · exact Nat.le_trans le2.len le3.len
              · exact fun k hk => (le3.at_ k (Nat.lt_of_lt_of_le hk le2.len)).trans (le2.at_ k hk)
              · show (if a = w.ρ n then none else w3.G a) = some o
                rw [if_neg fun z => by rw [z, hng] at q; cases q]
                exact le3.gr _ _ (le2.gr _ _ (le1.gr _ _ q))
            cases f with
            | nx =>
              intro w3 σ3 H3 le3 M3 S3
              obtain ⟨h1, w4, le4, M4, lf4⟩ := fin le3 M3
              exact ⟨h1, h w4 σ3 _ le4 M4 ⟨S3.len, fun i d hd => let ⟨v, hv, rv⟩ := S3.at_ i d hd; ⟨v, hv, rv.mono' lf4⟩⟩⟩
            | bk =>
              intro w3 σ3 H3 le3 M3 S3
              obtain ⟨h1, w4, le4, M4, lf4⟩ := fin le3 M3
              exact ⟨h1, h w4 σ3 _ le4 M4 ⟨S3.len, fun i d hd => let ⟨v, hv, rv⟩ := S3.at_ i d hd; ⟨v, hv, rv.mono' lf4⟩⟩⟩
            | ct =>
              intro w3 σ3 H3 le3 M3 S3
              obtain ⟨h1, w4, le4, M4, lf4⟩ := fin le3 M3
              exact ⟨h1, h w4 σ3 _ le4 M4 ⟨S3.len, fun i d hd => let ⟨v, hv, rv⟩ := S3.at_ i d hd; ⟨v, hv, rv.mono' lf4⟩⟩⟩
            | rt d =>
              intro w3 v3 H3 le3 M3 r3
              obtain ⟨h1, w4, le4, M4, lf4⟩ := fin le3 M3
              exact ⟨h1, h w4 v3 _ le4 M4 (r3.mono' lf4)⟩
          · exact absurd h id
    · rename_i kvs e
      refine (PS.imp (t' := fun D' σ' H' => D' = D ∧ σ' = σ ∧ H' = H) (ps_lock (ps_for K.po K.C.calm (pi_keysX (hi X W K.C K.tk)) (hg X K.C K.fn) (hb X W K) (noFold iter hns X.env))) fun D' σ' H' hh => ?_).run pins s σ H D I ⟨rfl, rfl, rfl⟩
      obtain ⟨rfl, rfl, rfl⟩ := hh
      obtain ⟨kvs', hk, r⟩ := M.ob n _ e
      have hn : n < w.len := M.lt e
      have hng := M.ng n _ e trivial
      have eW : X.w = E.g.W := K.C.w
      rw [eW]
      refine ⟨w.ρ n, tcO E.g.W (w.ρ n) kvs', hk, trivial, fun od => ?_⟩
      obtain ⟨le1, M1⟩ := M.lockT e r od
      have S1 := S.mono le1
      refine ⟨_, sl, _, M1, S1, ?_⟩
      rw [(path_lk (E := E) (u := .tct kvs) (v := .ltct kvs) e rfl x0 _ _ hpath hp).2]
      intro w2 x H2 le2 M2 r2
      have g2 : w2.G (w.ρ n) = some (.frz od (tcO E.g.W (w.ρ n) kvs')) := le2.gr _ _ upd_same
      have ρ2 : w2.ρ n = w.ρ n := le2.at_ n hn
      cases r2 with
      | ref _ hn2 =>
        refine ⟨w2.ρ n, od, rfl, .inr ⟨kvs', by rw [ρ2]; exact M2.gr _ _ g2, ?_⟩⟩
        refine for_tail (E := E) (X := X) (g := g) (ms := ms) (xs := kvs.map fun kv => kv.1) (w1 := w2) (sl := sl) (m1 := m.set n (.ltct kvs)) M2 (S1.mono le2) (by rw [ρ2]; exact wk_keysX g2 (r.mono (le1.trans le2))) ?_
        generalize hR : forL (fun (x : R.D) (s : Sx) => (match bindT g x s.sl with | some sl => execSs E.p E.c ms ⟨sl, s.hp⟩ | none => .bad : Res Sx Fl)) (kvs.map fun kv => kv.1) ⟨sl, m.set n (.ltct kvs)⟩ = R at h
        cases R with
        | bad => exact absurd h id
        | exn C p s => exact absurd h id
        | ok f s =>
          dsimp only at h
          split at h
          · rename_i kvs2 e2
            have fin : ∀ {w3 : Wd} {H3 : Hp}, w2.le w3 → Mem E.g w3 H3 s.hp → H3 (w.ρ n) = some (.frz od (tcO E.g.W (w.ρ n) kvs')) ∧ ∃ w4, w.le w4 ∧ Mem E.g w4 (upd H3 (w.ρ n) (tcO E.g.W (w.ρ n) kvs')) (s.hp.set n (.tct kvs2)) ∧ w3.lf w4 := fun {w3 H3} le3 M3 => by
              have g3 : w3.G (w.ρ n) = some (.frz od (tcO E.g.W (w.ρ n) kvs')) := le3.gr _ _ g2
              have ρ3 : w3.ρ n = w.ρ n := (le3.at_ n (Nat.lt_of_lt_of_le hn le2.len)).trans ρ2
              have M4 := M3.unlockT e2 (by rw [ρ3]; exact g3)
              rw [ρ3] at M4
              refine ⟨M3.gr _ _ g3, _, ⟨⟨?_, ?_, ?_⟩, fun a o q => ?_⟩, M4, ⟨fun _ _ h => h, Nat.le_refl _, fun _ _ => rfl⟩⟩
              · exact fun a o q => le3.fr _ _ (le2.fr _ _ (le1.fr _ _ q))
              · exact Nat.le_trans le2.len le3.len
              · exact fun k hk => (le3.at_ k (Nat.lt_of_lt_of_le hk le2.len)).trans (le2.at_ k hk)
              · show (if a = w.ρ n then none else w3.G a) = some o
                rw [if_neg fun z => by rw [z, hng] at q; cases q]
                exact le3.gr _ _ (le2.gr _ _ (le1.gr _ _ q))
            cases f with
            | nx =>
              intro w3 σ3 H3 le3 M3 S3
              obtain ⟨h1, w4, le4, M4, lf4⟩ := fin le3 M3
              exact ⟨h1, h w4 σ3 _ le4 M4 ⟨S3.len, fun i d hd => let ⟨v, hv, rv⟩ := S3.at_ i d hd; ⟨v, hv, rv.mono' lf4⟩⟩⟩
            | bk =>
              intro w3 σ3 H3 le3 M3 S3
              obtain ⟨h1, w4, le4, M4, lf4⟩ := fin le3 M3
              exact ⟨h1, h w4 σ3 _ le4 M4 ⟨S3.len, fun i d hd => let ⟨v, hv, rv⟩ := S3.at_ i d hd; ⟨v, hv, rv.mono' lf4⟩⟩⟩
            | ct =>
              intro w3 σ3 H3 le3 M3 S3
              obtain ⟨h1, w4, le4, M4, lf4⟩ := fin le3 M3
              exact ⟨h1, h w4 σ3 _ le4 M4 ⟨S3.len, fun i d hd => let ⟨v, hv, rv⟩ := S3.at_ i d hd; ⟨v, hv, rv.mono' lf4⟩⟩⟩
            | rt d =>
              intro w3 v3 H3 le3 M3 r3
              obtain ⟨h1, w4, le4, M4, lf4⟩ := fin le3 M3
              exact ⟨h1, h w4 v3 _ le4 M4 (r3.mono' lf4)⟩
          · exact absurd h id
    · exact absurd h id
  · rename_i xs m' hp
    refine plain (fun r hr => ?_) ?_
    · rw [← hr]; simp only [execS, evalI, hp, Res.bind_ok, up_ok]
    · simp only [execS, hp]; exact h
  · rename_i xs m' hp
    refine plain (fun r hr => ?_) ?_
    · rw [← hr]; simp only [execS, evalI, hp, Res.bind_ok, up_ok]
    · simp only [execS, hp]; exact h
  · rename_i xs m' hp
    refine plain (fun r hr => ?_) ?_
    · rw [← hr]; simp only [execS, evalI, hp, Res.bind_ok, up_ok]
    · simp only [execS, hp]; exact h
  · exact absurd h id⟩
theorem je_lk {o e0 : ME} {ex : Expr} (h : JE E N sc e0 ex) : JE E N sc (.lk o e0) ex := fun X W C tk => ⟨fun pins s σ H Q I hh => by
  obtain ⟨w, sl, m, M, S, hh⟩ := hh
  unfold evalE at hh
  split at hh
  · rename_i n m' hp
    split at hh
    · rename_i kvs e
      obtain ⟨vs0, hk, r⟩ := M.ob n _ e
      have hn : n < w.len := M.lt e
      have hng := M.ng n _ e trivial
      refine (pe_lock (h X W C tk)).run pins s σ H Q I ⟨w.ρ n, .lst vs0, hk, trivial, fun od => ?_⟩
      obtain ⟨le1, M1⟩ := M.lockL e r od
      refine ⟨_, sl, _, M1, S.mono le1, ?_⟩
      cases qe : evalE E.p E.c e0 sl (m.set n (.llst kvs)) with
      | bad => rw [qe] at hh; exact absurd hh id
      | exn Ce p m1 => rw [qe] at hh; exact absurd hh id
      | ok d h' =>
        rw [qe] at hh
        dsimp only at hh
        split at hh
        · rename_i kvs2 e2
          intro w3 v H3 le3 M3 rv
          have g3 : w3.G (w.ρ n) = some (.frz od (.lst vs0)) := le3.gr _ _ upd_same
          have ρ3 : w3.ρ n = w.ρ n := le3.at_ n hn
          have M4 := M3.unlockL e2 (by rw [ρ3]; exact g3)
          rw [ρ3] at M4
          refine ⟨M3.gr _ _ g3, hh ⟨w3.F, w3.ρ, w3.len, fun a => if a = w.ρ n then none else w3.G a⟩ v _ ⟨⟨fun a o q => le3.fr _ _ (le1.fr _ _ q), le3.len, fun k hk => le3.at_ k hk⟩, fun a o q => ?_⟩ M4 (Rv.mono' (w := w3) (w' := ⟨w3.F, w3.ρ, w3.len, fun a => if a = w.ρ n then none else w3.G a⟩) ⟨fun _ _ h => h, Nat.le_refl _, fun _ _ => rfl⟩ rv)⟩
          show (if a = w.ρ n then none else w3.G a) = some o
          rw [if_neg fun z => by rw [z, hng] at q; cases q]
          exact le3.gr _ _ (le1.gr _ _ q)
        · exact absurd hh id
    · rename_i kvs e
      obtain ⟨vs0, hk, r⟩ := M.ob n _ e
      have hn : n < w.len := M.lt e
      have hng := M.ng n _ e trivial
      refine (pe_lock (h X W C tk)).run pins s σ H Q I ⟨w.ρ n, .dK vs0, hk, trivial, fun od => ?_⟩
      obtain ⟨le1, M1⟩ := M.lock e r od
      refine ⟨_, sl, _, M1, S.mono le1, ?_⟩
      cases qe : evalE E.p E.c e0 sl (m.set n (.ldct kvs)) with
      | bad => rw [qe] at hh; exact absurd hh id
      | exn Ce p m1 => rw [qe] at hh; exact absurd hh id
      | ok d h' =>
        rw [qe] at hh
        dsimp only at hh
        split at hh
        · rename_i kvs2 e2
          intro w3 v H3 le3 M3 rv
          have g3 : w3.G (w.ρ n) = some (.frz od (.dK vs0)) := le3.gr _ _ upd_same
          have ρ3 : w3.ρ n = w.ρ n := le3.at_ n hn
          have M4 := M3.unlock e2 (by rw [ρ3]; exact g3)
          rw [ρ3] at M4
          refine ⟨M3.gr _ _ g3, hh ⟨w3.F, w3.ρ, w3.len, fun a => if a = w.ρ n then none else w3.G a⟩ v _ ⟨⟨fun a o q => le3.fr _ _ (le1.fr _ _ q), le3.len, fun k hk => le3.at_ k hk⟩, fun a o q => ?_⟩ M4 (Rv.mono' (w := w3) (w' := ⟨w3.F, w3.ρ, w3.len, fun a => if a = w.ρ n then none else w3.G a⟩) ⟨fun _ _ h => h, Nat.le_refl _, fun _ _ => rfl⟩ rv)⟩
          show (if a = w.ρ n then none else w3.G a) = some o
          rw [if_neg fun z => by rw [z, hng] at q; cases q]
          exact le3.gr _ _ (le1.gr _ _ q)
        · exact absurd hh id
    · rename_i kvs e
      obtain ⟨vs0, hk, r⟩ := M.ob n _ e
      have hn : n < w.len := M.lt e
      have hng := M.ng n _ e trivial
      refine (pe_lock (h X W C tk)).run pins s σ H Q I ⟨w.ρ n, tcO E.g.W (w.ρ n) vs0, hk, trivial, fun od => ?_⟩
      obtain ⟨le1, M1⟩ := M.lockT e r od
      refine ⟨_, sl, _, M1, S.mono le1, ?_⟩
      cases qe : evalE E.p E.c e0 sl (m.set n (.ltct kvs)) with
      | bad => rw [qe] at hh; exact absurd hh id
      | exn Ce p m1 => rw [qe] at hh; exact absurd hh id
      | ok d h' =>
        rw [qe] at hh
        dsimp only at hh
        split at hh
        · rename_i kvs2 e2
          intro w3 v H3 le3 M3 rv
          have g3 : w3.G (w.ρ n) = some (.frz od (tcO E.g.W (w.ρ n) vs0)) := le3.gr _ _ upd_same
          have ρ3 : w3.ρ n = w.ρ n := le3.at_ n hn
          have M4 := M3.unlockT e2 (by rw [ρ3]; exact g3)
          rw [ρ3] at M4
          refine ⟨M3.gr _ _ g3, hh ⟨w3.F, w3.ρ, w3.len, fun a => if a = w.ρ n then none else w3.G a⟩ v _ ⟨⟨fun a o q => le3.fr _ _ (le1.fr _ _ q), le3.len, fun k hk => le3.at_ k hk⟩, fun a o q => ?_⟩ M4 (Rv.mono' (w := w3) (w' := ⟨w3.F, w3.ρ, w3.len, fun a => if a = w.ρ n then none else w3.G a⟩) ⟨fun _ _ h => h, Nat.le_refl _, fun _ _ => rfl⟩ rv)⟩
          show (if a = w.ρ n then none else w3.G a) = some o
          rw [if_neg fun z => by rw [z, hng] at q; cases q]
          exact le3.gr _ _ (le1.gr _ _ q)
        · exact absurd hh id
    · exact absurd hh id
  · exact (h X W C tk).run pins s σ H Q I ⟨w, sl, m, M, S, hh⟩
  · exact absurd hh id⟩
theorem js_lks {o : ME} {ms : MS} {st : Stmt} (h1 : JS E N sc fs ms st) : JS E N sc fs (.lks o ms) st := fun X W K => ⟨fun pins s σ H D I h => by
  obtain ⟨w, sl, m, M, S, h⟩ := h
  unfold execS at h
  split at h
  · rename_i n m' hp
    split at h
    · rename_i kvs e
      refine (PS.imp (t' := fun D' σ' H' => D' = D ∧ σ' = σ ∧ H' = H) (ps_lock (h1 X W K)) fun D' σ' H' hh => ?_).run pins s σ H D I ⟨rfl, rfl, rfl⟩
      obtain ⟨rfl, rfl, rfl⟩ := hh
      obtain ⟨kvs', hk, r⟩ := M.ob n _ e
      have hn : n < w.len := M.lt e
      have hng := M.ng n _ e trivial
      refine ⟨w.ρ n, .lst kvs', hk, trivial, fun od => ?_⟩
      obtain ⟨le1, M1⟩ := M.lockL e r od
      refine ⟨_, sl, _, M1, S.mono le1, ?_⟩
      generalize hR : execS E.p E.c ms ⟨sl, m.set n (.llst kvs)⟩ = R at h ⊢
      have g1 : (w.wg (upd w.G (w.ρ n) (.frz od (.lst kvs')))).G (w.ρ n) = some (.frz od (.lst kvs')) := upd_same
      cases R with
      | bad => exact absurd h id
      | exn C p s => exact absurd h id
      | ok f s =>
        dsimp only at h
        split at h
        · rename_i kvs2 e2
          have fin : ∀ {w3 : Wd} {H3 : Hp}, (w.wg (upd w.G (w.ρ n) (.frz od (.lst kvs')))).le w3 → Mem E.g w3 H3 s.hp → H3 (w.ρ n) = some (.frz od (.lst kvs')) ∧ ∃ w4, w.le w4 ∧ Mem E.g w4 (upd H3 (w.ρ n) (.lst kvs')) (s.hp.set n (.lst kvs2)) ∧ w3.lf w4 := fun {w3 H3} le3 M3 => by
            have g3 : w3.G (w.ρ n) = some (.frz od (.lst kvs')) := le3.gr _ _ g1
            have ρ3 : w3.ρ n = w.ρ n := le3.at_ n hn
            have M4 := M3.unlockL e2 (by rw [ρ3]; exact g3)
            rw [ρ3] at M4
            refine ⟨M3.gr _ _ g3, _, ⟨⟨?_, ?_, ?_⟩, fun a o q => ?_⟩, M4, ⟨fun _ _ h => h, Nat.le_refl _, fun _ _ => rfl⟩⟩
            · exact fun a o q => le3.fr _ _ (le1.fr _ _ q)
            · exact le3.len
            · exact fun k hk => le3.at_ k hk
            · show (if a = w.ρ n then none else w3.G a) = some o
              rw [if_neg fun z => by rw [z, hng] at q; cases q]
              exact le3.gr _ _ (le1.gr _ _ q)
          cases f with
          | nx =>
            intro w3 σ3 H3 le3 M3 S3
            obtain ⟨h1, w4, le4, M4, lf4⟩ := fin le3 M3
            exact ⟨h1, h w4 σ3 _ le4 M4 ⟨S3.len, fun i d hd => let ⟨v, hv, rv⟩ := S3.at_ i d hd; ⟨v, hv, rv.mono' lf4⟩⟩⟩
          | bk =>
            intro w3 σ3 H3 le3 M3 S3
            obtain ⟨h1, w4, le4, M4, lf4⟩ := fin le3 M3
            exact ⟨h1, h w4 σ3 _ le4 M4 ⟨S3.len, fun i d hd => let ⟨v, hv, rv⟩ := S3.at_ i d hd; ⟨v, hv, rv.mono' lf4⟩⟩⟩
          | ct =>
            intro w3 σ3 H3 le3 M3 S3
            obtain ⟨h1, w4, le4, M4, lf4⟩ := fin le3 M3
            exact ⟨h1, h w4 σ3 _ le4 M4 ⟨S3.len, fun i d hd => let ⟨v, hv, rv⟩ := S3.at_ i d hd; ⟨v, hv, rv.mono' lf4⟩⟩⟩
          | rt d =>
            intro w3 v3 H3 le3 M3 r3
            obtain ⟨h1, w4, le4, M4, lf4⟩ := fin le3 M3
            exact ⟨h1, h w4 v3 _ le4 M4 (r3.mono' lf4)⟩
        · exact absurd h id
    · exact absurd h id
  · exact (h1 X W K).run pins s σ H D I ⟨w, sl, m, M, S, h⟩
  · exact absurd h id⟩
theorem js_no {st : Stmt} : JS E N sc fs .no st := fun X W K => ⟨fun pins s σ H D I h => by
  obtain ⟨w, sl, m, M, S, h⟩ := h
  unfold execS at h
  exact absurd h id⟩
theorem js_dput {o i a : ME} {eo ei ea : Expr} {p : Pos} (ho : JE E N sc o eo) (hi : JE E N sc i ei) (ha : JE E N sc a ea) : JS E N sc fs (.dput o i a) (.Assign [.Subscript eo ei p] ea pos) := fun X W K => by
  refine PS.imp (ps_tput (by have : X.A.units + 64 < cLine := K.C.room.units; omega) (ho X W K.C K.tk) (hi X W K.C K.tk) (ha X W K.C K.tk) (by cases ea <;> rfl)) fun D σ H h => ?_
  obtain ⟨w, sl, m, M, S, h⟩ := h
  unfold execS at h
  refine up_bind M S h fun d m1 w1 v H1 le1 M1 S1 r1 h1 => ?_
  refine up_bind M1 S1 h1 fun y m2 w2 u H2 le2 M2 S2 r2 h2 => ?_
  refine up_bind M2 S2 h2 fun z m3 w3 t H3 le3 M3 S3 r3 h3 => ?_
  split at h3
  · rename_i m4 e
    unfold dputD at e
    split at e
    · rename_i n k hk
      split at e
      · rename_i kvs en
        split at e
        · rename_i hz
          cases e
          replace r2 := r2.mono le3
          cases r2 with
          | ref _ hn =>
            obtain ⟨kvs', hH, rr⟩ := M3.ob n _ en
            have rp := rr.put (k := k) ((r1.mono le2).mono le3)
            rw [isKey_rel r3 hk]
            refine ⟨w3.ρ n, rfl, .inl ⟨_, DPut.k hH (by rw [← rr.length]; exact sl_szOk hz), ?_⟩⟩
            exact h3 w3 σ _ (Wd.le.refl _) (M3.write en trivial trivial ⟨_, upd_same, rp⟩) S3
        · cases e
      · cases e
    · rename_i n hk
      split at e
      · rename_i kvs k en hn
        split at e
        · rename_i hz
          cases e
          replace r2 := r2.mono le3
          cases r2 with
          | ref _ hn2 =>
            obtain ⟨xs, hH, rr⟩ := M3.ob n _ en
            obtain ⟨b, eb, ky⟩ := nkT_rel M3 r3 hn
            subst eb
            have rp := rr.put hn r3 ((r1.mono le2).mono le3)
            have eW : X.w = E.g.W := K.C.w
            refine ⟨w3.ρ n, rfl, .inr ⟨b, xs, k, rfl, by rw [eW]; exact hH, fun z hz => by rw [K.C.K]; exact rr.keys M3 z hz, by rw [K.C.K]; exact ky, by rw [← rr.length]; exact sl_szOk hz, ?_⟩⟩
            rw [eW]
            exact h3 w3 σ _ (Wd.le.refl _) (M3.write en trivial trivial ⟨_, upd_same, rp⟩) S3
        · cases e
      · cases e
    · cases e
  · exact absurd h3 id
theorem dput_k {g : Gm} {w : Wd} {H : Hp} {m m' : Mm} {x y z : D} {xv yv zv : V} {k : Key} (M : Mem g w H m) (rx : Rv g w x xv) (ry : Rv g w y yv) (rz : Rv g w z zv) (hk : isKey y = some k) (e : dputD x y z m = some m') : ∃ p H', xv = .ref p ∧ DPut H p yv zv H' ∧ Mem g w H' m' := by
  unfold dputD at e
  split at e
  · rename_i n k' hk'
    split at e
    · rename_i kvs en
      split at e
      · rename_i hz
        cases e
        cases rx with
        | ref _ hn =>
          obtain ⟨kvs', hH, rr⟩ := M.ob n _ en
          rw [isKey_rel ry hk']
          exact ⟨w.ρ n, _, rfl, DPut.k hH (by rw [← rr.length]; exact sl_szOk hz), M.write en trivial trivial ⟨_, upd_same, rr.put (k := k') rz⟩⟩
      · cases e
    · cases e
  · rename_i n hk'
    rw [hk] at hk'
    cases hk'
  · cases e
theorem js_augd {o i : ME} {eo ei : Expr} {p : Pos} {op : Op} (hp : plainIxB ei = true) (hop : augOp op = true) (ho : JE E N sc o eo) (hi : JE E N sc i ei) (ha : JE E N sc a ea) : JS E N sc fs (.augd o i op a) (.AugAssign (.Subscript eo ei p) op.py ea pos) := fun X W K => by
  have hst : ∀ ov iv new, augStore ei ov iv new = (do holding [new, ov, iv] (setItem ov iv new); release [new, ov, iv] []; pure .next) := by
    intro ov iv new
    cases ei <;> first | rfl | cases hp
  refine PS.imp (ps_daug (by have : X.A.units + 64 < cLine := K.C.room.units; omega) (ho X W K.C K.tk) (hi X W K.C K.tk) (ha X W K.C K.tk) (in_aug hop) hst) fun D σ H h => ?_
  obtain ⟨w, sl, m, M, S, h⟩ := h
  unfold execS at h
  refine up_bind M S h fun d m1 w1 v H1 le1 M1 S1 r1 h1 => ?_
  refine up_bind M1 S1 h1 fun y m2 w2 u H2 le2 M2 S2 r2 h2 => ?_
  split at h2
  · rename_i z k ez ek
    obtain ⟨q, oo, ep, g1, g2, _⟩ := atD_rel M2 (r1.mono le2) r2 ez
    obtain ⟨v', ev, rv⟩ := g2 z rfl
    subst ev
    refine ⟨q, v', ep, g1, up_bind M2 S2 h2 fun t m3 w3 tv H3 le3 M3 S3 r3 h3 => ?_⟩
    split at h3
    · rename_i z2 ez2
      obtain ⟨i1, i2, rfl, rfl, rfl, rfl, rfl⟩ := augD_rel (rv.mono le3) r3 ez2
      refine ⟨i1, i2, rfl, rfl, ?_⟩
      split at h3
      · rename_i m4 e4
        obtain ⟨q', H', eq', dp, M4⟩ := dput_k M3 ((r1.mono le2).mono le3) (r2.mono le3) (.int _) ek e4
        rw [ep] at eq'
        cases eq'
        exact ⟨H', dp, h3 w3 σ _ (Wd.le.refl _) M4 S3⟩
      · exact absurd h3 id
    · exact absurd h3 id
  · exact absurd h2 id
theorem js_while {fuel : Nat} {k : ME} {ek : Expr} {ms : List MS} {ss : List Stmt} (hk : JT E N sc k ek) (hb : JSs E N sc fs ms ss) : JS E N sc fs (.while_ fuel k ms) (.While ek ss [] pos) := fun X W K => by
  refine PS.imp (ps_while K.po (hk X W K.C K.tk) (hb X W K)) fun D σ H h => ?_
  obtain ⟨w, sl, m, M, S, h⟩ := h
  unfold execS at h
  generalize hF : (fun (s : Sx) => up s.sl (evalE E.p E.c k s.sl s.hp) fun x h => (match truthD h x with
      | some true => (execSs E.p E.c ms ⟨s.sl, h⟩).bind fun r s => .ok (some r) s
      | some false => .ok none ⟨s.sl, h⟩
      | none => .bad : Res Sx (Option Fl))) = F at h
  refine ⟨fun n σ' H' => ∃ w' sl' m', Mem E.g w' H' m' ∧ Slr E.g w' sl' σ' ∧ PostS E.g w' W D (whileL F n ⟨sl', m'⟩), ⟨fuel, w, sl, m, M, S, h⟩, ?_⟩
  rintro n σ' H' ⟨w', sl', m', M', S', hp⟩
  cases n with
  | zero => exact absurd hp id
  | succ n =>
    have e : (F ⟨sl', m'⟩).bind (fun r s => (match r with
        | none => .ok .nx s
        | some .nx => whileL F n s
        | some .ct => whileL F n s
        | some .bk => .ok .nx s
        | some (.rt d) => .ok (.rt d) s : Res Sx Fl)) = up sl' (evalE E.p E.c k sl' m') fun x h => match truthD h x with
          | some b => (fun (b : Bool) h => if b = true then (execSs E.p E.c ms ⟨sl', h⟩).bind fun r s => (match r with
              | .nx => whileL F n s
              | .ct => whileL F n s
              | .bk => .ok .nx s
              | .rt d => .ok (.rt d) s : Res Sx Fl) else .ok .nx ⟨sl', h⟩) b h
          | none => .bad := by
      rw [← hF]
      dsimp only
      cases evalE E.p E.c k sl' m' with
      | bad => rfl
      | exn C p h => rfl
      | ok x h =>
        simp only [up_ok]
        cases truthD h x with
        | none => rfl
        | some b =>
          cases b with
          | false => rfl
          | true =>
            dsimp only
            cases execSs E.p E.c ms ⟨sl', h⟩ with
            | bad => rfl
            | exn C p s => rfl
            | ok r s => cases r <;> rfl
    have e2 : whileL F (n + 1) ⟨sl', m'⟩ = _ := e
    rw [e2] at hp
    refine test_bind M' S' hp fun b m1 w1 H1 le1 M1 S1 h3 => ?_
    cases b with
    | false => exact h3 w1 σ' H1 (Wd.le.refl _) M1 S1
    | true =>
      rw [if_pos rfl]
      refine ⟨fun σ2 H2 => ∃ w' sl' m', Mem E.g w' H2 m' ∧ Slr E.g w' sl' σ2 ∧ PostS E.g w' W D (whileL F n ⟨sl', m'⟩), fun σ2 H2 hn => ⟨n, Nat.lt_succ_self _, hn⟩, w1, sl', m1, M1, S1, ?_⟩
      rw [if_pos rfl] at h3
      cases q : execSs E.p E.c ms ⟨sl', m1⟩ with
      | bad => rw [q] at h3; exact absurd h3 id
      | exn C p s => rw [q] at h3; exact h3
      | ok f s =>
        rw [q, Res.bind_ok] at h3
        cases f with
        | nx => exact fun w3 σ3 H3 le3 M3 S3 => ⟨w3, s.sl, s.hp, M3, S3, PostS.mono le3 h3⟩
        | ct => exact fun w3 σ3 H3 le3 M3 S3 => ⟨w3, s.sl, s.hp, M3, S3, PostS.mono le3 h3⟩
        | bk => exact h3
        | rt d => exact h3
end R
namespace R
open PySem PySem.Spec PyProof.Rows PySem.W L2
theorem kvs_uniq : ∀ {ks ls : List Key} {us : List Value}, KVs ks us → KVs ls us → ks = ls
  | _, _, _, .nil, .nil => rfl
  | _, _, _, .int a, .int b => by rw [kvs_uniq a b]
  | _, _, _, .str a, .str b => by rw [kvs_uniq a b]
/-- a row key in the heap -/
def IsRow (h : Heap) (v : Value) (ks : List Key) : Prop := ∃ a o xs n, v = .ref a ∧ h.get? a = some o ∧ o.cls = .type "tuple" ∧ o.data = .seq xs n ∧ KVs ks xs.toList ∧ keyOk ks = true
theorem isRow_uniq {h : Heap} {v : Value} {ks ls : List Key} (a : IsRow h v ks) (b : IsRow h v ls) : ks = ls := by
  obtain ⟨p, o, xs, n, rfl, h1, _, h3, h4, _⟩ := a
  obtain ⟨q, o', ys, n', e, g1, _, g3, g4, _⟩ := b
  cases e
  rw [h1] at g1; cases g1
  rw [h3] at g3; cases g3
  exact kvs_uniq h4 g4
noncomputable def rowKind (h : Heap) : PyProof.Rows.KeyKind where
  toKeyOrd := listOrd itemOrd
  keyOf v := open Classical in if z : ∃ ks, IsRow h v ks then some (toksK z.choose) else none
  dflt := ([] : List Tk)
theorem rowKind_some {h : Heap} {v : Value} {ks : List Key} (a : IsRow h v ks) : (rowKind h).keyOf v = some (toksK ks) := by
  have z : ∃ ks, IsRow h v ks := ⟨ks, a⟩
  have e : (rowKind h).keyOf v = some (toksK z.choose) := by
    show (open Classical in if z : ∃ ks, IsRow h v ks then some (toksK z.choose) else none) = _
    rw [dif_pos z]
  rw [e, isRow_uniq z.choose_spec a]
theorem rowKind_inv {h : Heap} {v : Value} {a : List Tk} (e : (rowKind h).keyOf v = some a) : ∃ ks, IsRow h v ks ∧ a = toksK ks := by
  by_cases z : ∃ ks, IsRow h v ks
  · have e2 : (rowKind h).keyOf v = some (toksK z.choose) := by
      show (open Classical in if z : ∃ ks, IsRow h v ks then some (toksK z.choose) else none) = _
      rw [dif_pos z]
    rw [e2] at e
    cases e
    exact ⟨_, z.choose_spec, rfl⟩
  · have e2 : (rowKind h).keyOf v = none := by
      show (open Classical in if z : ∃ ks, IsRow h v ks then some (toksK z.choose) else none) = _
      rw [dif_neg z]; rfl
    rw [e2] at e; cases e
section
variable {prog : Program} {w0 : World} {A : Around} {E0 : Value → Shared → Prop} {s : Shared}
theorem cpsNe {x y : Str} (h : ¬ x = y) : x.cps.toList ≠ y.cps.toList := fun l => h (by
  have c : x.cps = y.cps := Array.toList_inj.mp l
  cases x; cases y
  simp only [Str.mk.injEq]
  exact c)
theorem row_lex {b fin : Bool} {Q : Bool → Shared → Prop} : ∀ (ks ls : List Key) (us vs : List Value) (i : Nat), KVs ks us → KVs ls vs → rowK ks = true → rowK ls = true → fin = decide (us.length < vs.length) →
    Q (PyProof.Rows.lexLt itemOrd (toksK ks) (toksK ls)) s → KatLex prog w0 A b fin Q (us.zip vs) i s
  | [], [], _, _, i, .nil, .nil, _, _, hf, h => by
    subst hf
    exact kat_nil h
  | [], k :: ls, _, vs, i, .nil, r, _, _, hf, h => by
    have z : 0 < vs.length := by rw [← r.len]; simp
    have e : fin = true := by rw [hf]; exact decide_eq_true z
    subst e
    rw [List.zip_nil_left]
    exact kat_nil h
  | k :: ks, [], us, _, i, r, .nil, _, _, hf, h => by
    have e : fin = false := by rw [hf]; exact decide_eq_false (Nat.not_lt_zero _)
    subst e
    rw [List.zip_nil_right]
    exact kat_nil h
  | .inl a :: k2 :: ks, .inl c :: l2 :: ls, _, _, i, .int (t := t) (us := us) r1, .int (t := u) (us := vs) r2, h1, h2, hf, h => by
    rw [List.zip_cons_cons]
    refine kat_cons (wpAny_eqBool_int ?_)
    refine kat_go (fun e => kat_yes ?_) (fun e => kat_no ?_)
    · have e : a = c := by simpa using e
      subst e
      have h : Q (PyProof.Rows.lexLt itemOrd (.inl a :: toksK (k2 :: ks)) (.inl a :: toksK (l2 :: ls))) s := h
      rw [lex_self] at h
      cases r1 with
      | @int x t1 _ us r1 =>
        cases r2 with
        | @int n t2 _ vs r2 =>
          simp only [rowK, Bool.and_eq_true] at h1 h2
          rw [List.zip_cons_cons]
          refine kat_cons (wpAny_eqBool_int ?_)
          have h : Q (PyProof.Rows.lexLt itemOrd (.inl x :: toksK ks) (.inl n :: toksK ls)) s := h
          refine kat_go (fun e => kat_yes ?_) (fun e => kat_no ?_)
          · have e : x = n := by simpa using e
            subst e
            rw [lex_self] at h
            exact row_lex ks ls us vs (i + 1 + 1) r1 r2 h1.2 h2.2 (by rw [hf]; simp only [List.length_cons, Nat.add_lt_add_iff_right]) h
          · have e : ¬ x = n := by simpa using e
            rw [lex_diff (fun z => e (Sum.inl.inj z))] at h
            exact oneLt_any_int h
        | @str n t2 _ vs r2 =>
          simp only [rowK, Bool.and_eq_true, decide_eq_true_eq] at h1 h2
          omega
      | @str x t1 _ us r1 =>
        cases r2 with
        | @int n t2 _ vs r2 =>
          simp only [rowK, Bool.and_eq_true, decide_eq_true_eq] at h1 h2
          omega
        | @str n t2 _ vs r2 =>
          simp only [rowK, Bool.and_eq_true] at h1 h2
          rw [List.zip_cons_cons]
          refine kat_cons (wpAny_eqBool_str ?_)
          have h : Q (PyProof.Rows.lexLt itemOrd (.inr x.cps.toList :: toksK ks) (.inr n.cps.toList :: toksK ls)) s := h
          refine kat_go (fun e => kat_yes ?_) (fun e => kat_no ?_)
          · have e : x = n := of_decide_eq_true e
            subst e
            rw [lex_self] at h
            exact row_lex ks ls us vs (i + 1 + 1) r1 r2 h1.2 h2.2 (by rw [hf]; simp only [List.length_cons, Nat.add_lt_add_iff_right]) h
          · have e : ¬ x = n := of_decide_eq_false e
            rw [lex_diff (fun z => cpsNe e (Sum.inr.inj z))] at h
            exact oneLt_any_str h
    · have e : ¬ a = c := by simpa using e
      have h : Q (PyProof.Rows.lexLt itemOrd (.inl a :: toksK (k2 :: ks)) (.inl c :: toksK (l2 :: ls))) s := h
      rw [lex_diff (fun z => e (Sum.inl.inj z))] at h
      exact oneLt_any_int h
  | [.inl a], _ :: _, _, _, i, _, _, h1, _, _, _ => by simp [rowK] at h1
  | .inr a :: _, _ :: _, _, _, i, _, _, h1, _, _, _ => by simp [rowK] at h1
  | .inl a :: k2 :: ks, [.inl c], _, _, i, _, _, _, h2, _, _ => by simp [rowK] at h2
  | .inl a :: k2 :: ks, .inr c :: _, _, _, i, _, _, _, h2, _, _ => by simp [rowK] at h2
theorem row_first {h : Heap} : ∀ {vs : List Value}, (∀ v ∈ vs, ∃ ks, IsRow h v ks) → ∃ fs, KatTups h vs fs ∧ fs.length = vs.length ∧ ∀ f ∈ fs, ∃ i t, f = Value.int i t
  | [], _ => ⟨[], KatTups.nil, rfl, fun f hf => by cases hf⟩
  | v :: vs, hv => by
    obtain ⟨fs, a1, a2, a3⟩ := row_first fun x hx => hv x (List.mem_cons_of_mem _ hx)
    obtain ⟨ks, p, o, xs, n, rfl, h1, h2, h3, h4, h5⟩ := hv v List.mem_cons_self
    unfold keyOk at h5
    rw [Bool.and_eq_true] at h5
    generalize hus : xs.toList = us at h4
    cases h4 with
    | nil => simp at h5
    | str r => simp [rowK] at h5
    | @int i t ks us r =>
      have e : xs[0]? = some (.int i t) := by rw [← Array.getElem?_toList, hus]; rfl
      refine ⟨.int i t :: fs, KatTups.cons h1 h2 h3 e a1, by simp [a2], fun f hf => ?_⟩
      rcases List.mem_cons.mp hf with rfl | hf
      · exact ⟨i, t, rfl⟩
      · exact a3 f hf
theorem sorts_rows {vs : List Value} (hv : ∀ v ∈ vs, ∃ ks, IsRow s.heap v ks) : SortsAt prog w0 A s (rowKind s.heap) vs := by
  refine ⟨fun v hm => ?_, tuples' (Value.type "int" != Value.type "tuple"), ?_, fun h2 E Q hq => ?_⟩
  · obtain ⟨ks, z⟩ := hv v hm
    exact ⟨_, rowKind_some z⟩
  · intro E x y a b Q ha hb hq
    obtain ⟨ks, ⟨p, o, xs, n, rfl, h1, h2, h3, h4, h5⟩, rfl⟩ := rowKind_inv ha
    obtain ⟨ls, ⟨q, o', ys, n', rfl, g1, g2, g3, g4, g5⟩, rfl⟩ := rowKind_inv hb
    unfold keyOk at h5 g5
    rw [Bool.and_eq_true] at h5 g5
    exact kat_lt h1 h3 g1 g3 (row_lex ks ls _ _ 0 h4 g4 h5.1 g5.1 (by rw [Array.length_toList, Array.length_toList]) hq)
  · obtain ⟨fs, a1, a2, a3⟩ := row_first hv
    refine kat_kind (T := Value.type "int") a1 (by rw [a2]; omega) (fun v hm => ?_) rfl hq
    obtain ⟨i, t, rfl⟩ := a3 v hm
    exact Looks.of_pure rfl
end
end R
namespace R
open PySem PySem.Spec PyProof.Rows PySem.W L2
variable {E : En} {N : List Str} {sc : Scope}
/-- what stands before the turn i: the list that is sorted is empty (at a), its keys stand at k -/
structure SrkI (E : En) (X : Cx) (pins : List (Addr × Obj)) (σ : L2.St) (w : Wd) (oa : Obj) (a k : Addr) (f : Nat) (xs : List D) (vs : List V) (Rm : Res Mm (List (D × List Tk))) (i : Nat) (s' : Shared) : Prop where
  ex : ∃ (H' : Hp) (w' : Wd) (m' : Mm) (kA : Array Value) (e : Nat) (kss : List (List Key)),
    Inv X pins σ H' s' ∧ w.le w' ∧ w'.G a = some (.frz oa (.ext fun h => h.get? a = some oa)) ∧ Mem E.g w' H' m' ∧ FpOk X pins H' k ∧ s'.heap.get? k = some (seqObj "list" kA e) ∧
    EachIs (fun u ks => ∃ p, u = Value.ref p ∧ SqT E.g.K w'.F p (ks.map kV) ∧ keyOk ks = true) kA.toList kss ∧ kss.length = i ∧ i ≤ xs.length ∧
    Rm = (keyL E.c f (xs.drop i) m').bind fun ps h => .ok ((xs.take i).zip (kss.map toksK) ++ ps) h
theorem EachIs.imp {α β : Type} {R R' : α → β → Prop} (k : ∀ a b, R a b → R' a b) : ∀ {as : List α} {bs : List β}, EachIs R as bs → EachIs R' as bs
  | _, _, .nil => .nil
  | _, _, .cons h t => .cons (k _ _ h) (EachIs.imp k t)
theorem frs_fp {X : Cx} {pins : List (Addr × Obj)} {σ : L2.St} {H : Hp} {s : Shared} {b : Addr} (I : Inv X pins σ H s) (h : FpOk X pins H b) : b ∉ frs X.stack := fun z =>
  (List.mem_cons.mp (I.stkSub b z)).elim h.2.1 h.2.2.1
theorem heap_put {h : Heap} {a : Addr} {o u : Obj} (e : h.get? a = some o) (hu : u.alive = true) : (h.update a fun _ => u).get? a = some u := by
  have h1 := ((Heap.get?_eq_some h a _).mp e).1
  exact (Heap.get?_eq_some _ _ _).mpr ⟨by rw [Heap.objs_update_self, h1]; rfl, hu⟩
def rSrk (E : En) (f : Nat) (fa : Addr) (obj : Bool) : List V → List V → Hp → VK → Prop := fun vs zs H Q => zs = [.ref fa] ∧ ∃ v w m d xs xw, vs = [v] ∧ Mem E.g w H m ∧ Rv E.g w d v ∧ lstOf m d = some xs ∧
  PostE E.g w xw Q ((keyL E.c f xs m).bind fun ps h => mkL obj (srtK ps) h)
theorem srk_step {X : Cx} {pins : List (Addr × Obj)} {σ : L2.St} {w : Wd} {oa : Obj} {a k fa : Addr} {f : Nat} {xs : List D} {vs : List V} {its : List Value} {ps : List (D × List Tk)} {mE : Mm} {fd : FuncData} {pps : List Str}
    (F : FnG X.prog X.w X.K X.mg X.base (L2.CX X.prog X.w) E.lv fa fd pps (spR E f)) (hb : Binds X.K fd pps []) (hr : RoomG (E.lv + 1) X.A) (hz : its.length ≤ sizeLine) (rv : Vals vs its) (rx : Rvs E.g w xs vs)
    {j : Nat} {x : Value} {s' : Shared} (hx : its[j]? = some x) (h : SrkI E X pins σ w oa a k f xs vs (.ok ps mE) j s') {Er : Value → Shared → Prop} :
    wpAny (model X.prog X.w) X.A.in1.in1 (call (.ref fa) [x]) (fun v s'' => wpAny (model X.prog X.w) X.A.in1.in1 (Builtin.List.listUpdate (.ref k) (·.push v)) (fun _ s3 => SrkI E X pins σ w oa a k f xs vs (.ok ps mE) (j + 1) s3) Er s'') (fun _ _ => False) s' := by
  obtain ⟨H', w', m', kA, e, kss, I, le, hG, M, fp, gk, each, hl, hi, hR⟩ := h
  have hj : j < its.length := (List.getElem?_eq_some_iff.mp hx).1
  have l1 := rv.length
  have l2 := rx.length
  have hjx : j < xs.length := by omega
  have ed : xs.drop j = xs[j] :: xs.drop (j + 1) := List.drop_eq_getElem_cons hjx
  rw [ed, keyL] at hR
  obtain ⟨v, hv, r1⟩ := rx.get (List.getElem?_eq_getElem hjx)
  obtain ⟨u, hu, ru⟩ := rv.get hv
  rw [hx] at hu
  cases hu
  cases q : E.c f [xs[j]] m' with
  | bad => rw [q] at hR; cases hR
  | exn Ce p m2 => rw [q] at hR; cases hR
  | ok d m2 =>
    rw [q] at hR
    cases d with
    | tup ds =>
      dsimp only at hR
      cases ek : keysD ds with
      | none => rw [ek] at hR; cases hR
      | some ks =>
        rw [ek] at hR
        dsimp only at hR
        by_cases ok : keyOk ks = true
        · rw [if_pos ok] at hR
          have room : RoomG E.lv X.A.in1.in1 := ⟨⟨hr.hd, by have := hr.dp; show X.A.depth + 3 * E.lv + 5 < _; omega, by have := hr.un; show X.A.units + 1 + 1 + 16 * E.lv + 200 < _; omega⟩, by first | exact hr.gd | simpa [Around.in1] using hr.gd⟩
          have bnd := hb s' [x] I.kIn (by rw [List.append_nil]; exact (F.len [v] H' (fun v2 H2 => ∃ w2, w'.le w2 ∧ Mem E.g w2 H2 m2 ∧ Rv E.g w2 (.tup ds) v2) (fun _ _ _ => False) ⟨w', m', [xs[j]], M, .cons (r1.mono le) .nil, by rw [q]; exact fun w2 v2 H2 le2 M2 r2 => ⟨w2, le2, M2, r2⟩⟩))
          rw [List.append_nil] at bnd
          refine wpAny_call (codeAny_mono (F.run X.A.in1.in1 X.stack s' H' ⟨[x], []⟩ [x] [v] (fun v2 H2 => ∃ w2, w'.le w2 ∧ Mem E.g w2 H2 m2 ∧ Rv E.g w2 (.tup ds) v2) (fun _ _ _ => False) room I.env0.in1.in1 bnd (.cons ru .nil) ⟨w', m', [xs[j]], M, .cons (r1.mono le) .nil, by rw [q]; exact fun w2 v2 H2 le2 M2 r2 => ⟨w2, le2, M2, r2⟩⟩) fun r s'' hq => ?_)
          cases r with
          | error er =>
            obtain ⟨_, _, _, _, _, _, _, _, _, _, _, _, z⟩ := hq
            exact z.elim
          | ok fl =>
            cases fl with
            | ret u2 =>
              obtain ⟨v2, H2, os, bare, un, hok, rv2, w2, le2, M2, r2⟩ := hq
              have I2 : Inv X pins σ H2 s'' := I.call' os un hok bare (fun b z => absurd z (by simp))
              have gk2 := un.keep k _ gk fp.1 (frs_fp I fp) (by simp)
              have fp2 : FpOk X pins H2 k := ⟨un.free k _ gk fp.1 (by simp), fp.2⟩
              have lk : kA.size = j := by
                have := each.length
                rw [Array.length_toList, hl] at this
                exact this
              refine listUpdate_at gk2 rfl ?_ (by omega) (by rw [Array.size_push]; omega)
              have sb := Heap.SameBut.update s''.heap k (Obj.mapSeq (·.push u2))
              have I3 := I2.turnedL (t' := s''.toks) (h' := s''.heap.update k (Obj.mapSeq (·.push u2))) (ch := [k]) (fun b o hb e => (sb.2 b (by simpa using hb)).trans e) (fun b hb => by rw [List.mem_singleton.mp hb]; exact fp2)
              cases r2 with
              | tup hs rs =>
                rw [keys_rel ek rs] at hs
                cases rv2
                refine ⟨H2, w2, m2, kA.push _, _, kss ++ [ks], I3, le.trans le2, le2.gr _ _ hG, M2, fp2, get?_update_seq gk2 _, ?_, by rw [List.length_append, hl]; rfl, hjx, ?_⟩
                · rw [Array.toList_push]
                  refine each_snoc ⟨_, rfl, hs.sq, ok⟩ (EachIs.imp (fun u ks ⟨p, h1, h2, h3⟩ => ⟨p, h1, sqT_mono le2.fr h2, h3⟩) each)
                · rw [hR]
                  have et : xs.take (j + 1) = xs.take j ++ [xs[j]] := by rw [List.take_add_one, List.getElem?_eq_getElem hjx]; rfl
                  have ez : (xs.take (j + 1)).zip ((kss ++ [ks]).map toksK) = (xs.take j).zip (kss.map toksK) ++ [(xs[j], toksK ks)] := by
                    rw [et, List.map_append, List.zip_append (by rw [List.length_take, List.length_map, hl]; omega)]; rfl
                  rw [ez]
                  cases keyL E.c f (xs.drop (j + 1)) m2 with
                  | ok r h => simp only [Res.bind_ok, List.append_assoc, List.cons_append, List.nil_append]
                  | exn _ _ _ => rfl
                  | bad => rfl
            | next => exact hq.elim
            | brk => exact hq.elim
            | cont => exact hq.elim
        · rw [if_neg ok] at hR; cases hR
    | _ => cases hR
theorem out_e1 {g : Gm} {w : Wd} : ∀ {xs : List D} {vs : List V} {its : List Value} {kss : List (List Key)}, Rvs g w xs vs → Vals vs its → kss.length = xs.length → EachIs (fun (u : Value) (p : D × List Tk) => ∃ v, RelV v u ∧ Rv g w p.1 v) its (xs.zip (kss.map toksK))
  | _, _, _, _, .nil, .nil, _ => .nil
  | _, _, _, [], .cons h r, .cons h2 rv, hl => absurd hl (by simp)
  | _, _, _, ks :: kss, .cons h r, .cons h2 rv, hl => .cons ⟨_, h2, h⟩ (out_e1 r rv (by simpa using hl))
/-- the items' values in the order of their keys -/
theorem out_rel {g : Gm} {w : Wd} {h : Heap} {xs : List D} {vs : List V} {its kA : List Value} {kss : List (List Key)} (rx : Rvs g w xs vs) (rv : Vals vs its) (ek : EachIs (fun u ks => IsRow h u ks) kA kss) (hl : kss.length = xs.length) :
    ∃ outV, Vals outV (sortVals (rowKind h) false kA its) ∧ Rvs g w (srtK (xs.zip (kss.map toksK))) outV := by
  have e2 : ∀ {kA : List Value} {kss : List (List Key)} {xs : List D}, EachIs (fun u ks => IsRow h u ks) kA kss → kss.length = xs.length → EachIs (fun (u : Value) (p : D × List Tk) => (rowKind h).keyOf u = some p.2) kA (xs.zip (kss.map toksK)) := by
    intro kA kss xs r
    induction r generalizing xs with
    | nil =>
      intro hl
      cases xs with
      | nil => exact .nil
      | cons _ _ => simp at hl
    | cons h r ih =>
      intro hl
      cases xs with
      | nil => simp at hl
      | cons x xs => exact .cons (rowKind_some h) (ih (by simpa using hl))
  have e3 := sortVals_each (κ := rowKind h) (rev := false) (fun p : D × List Tk => p.2) (out_e1 rx rv hl) (e2 ek hl)
  have e4 : ∀ {us : List Value} {ps : List (D × List Tk)}, EachIs (fun (u : Value) (p : D × List Tk) => ∃ v, RelV v u ∧ Rv g w p.1 v) us ps → ∃ outV, Vals outV us ∧ Rvs g w (ps.map (·.1)) outV := by
    intro us ps r
    induction r with
    | nil => exact ⟨[], .nil, .nil⟩
    | cons h r ih =>
      obtain ⟨v, h1, h2⟩ := h
      obtain ⟨o, q1, q2⟩ := ih
      exact ⟨v :: o, .cons h1 q1, .cons h2 q2⟩
  exact e4 e3
theorem keyL_exn {c : Calls} {f : Nat} {Ce : Nat} {p : Option D} {mm : Mm} : ∀ (xs : List D) (m : Mm), keyL c f xs m ≠ .exn Ce p mm
  | [], m => fun e => by cases e
  | x :: xs, m => fun e => by
    rw [keyL] at e
    cases q1 : c f [x] m with
    | bad => rw [q1] at e; cases e
    | exn _ _ _ => rw [q1] at e; cases e
    | ok d h2 =>
      rw [q1] at e
      cases d with
      | tup ds =>
        dsimp only at e
        cases q2 : keysD ds with
        | none => rw [q2] at e; cases e
        | some ks =>
          rw [q2] at e
          dsimp only at e
          by_cases ok : keyOk ks = true
          · rw [if_pos ok] at e
            cases q : keyL c f xs h2 with
            | ok r h3 => rw [q] at e; cases e
            | bad => rw [q] at e; cases e
            | exn a b c' =>
              rw [q] at e
              cases e
              exact keyL_exn xs h2 q
          · rw [if_neg ok] at e; cases e
      | _ => cases e
theorem cr_srk {X : Cx} {W : WX} (C : Cok E N sc X) {f : Nat} {fa : Addr} {obj : Bool} (hF : FnR E f fa) : CallRK X (.builtin "sorted") [Str.ofString "key"] (rSrk E f fa obj) := by
  intro pins s σ H vs0 zs us ws Q I rs rz h
  obtain ⟨rfl, v, w, m, d, xs, xw, rfl, M, rd, ex, hP⟩ := h
  obtain ⟨fd, pps, hb, F⟩ := C.fn hF
  obtain ⟨l, vs, rfl, hq, rx⟩ := lstOf_rel M rd ex
  obtain ⟨u, rfl, ru⟩ := rs.one
  cases ru
  obtain ⟨z, rfl, rz2⟩ := rz.one
  obtain rfl : z = Value.ref fa := rz2
  obtain ⟨its, rv, hl, hz⟩ := I.list (by rw [C.K]; exact hq)
  have hz2 : its.length ≤ sizeLine := by rw [← rv.length]; exact hz
  cases hR : keyL E.c f xs m with
  | bad => rw [hR] at hP; exact absurd hP id
  | exn Ce p mm =>
    exact absurd hR (keyL_exn _ _)
  | ok psE mE =>
    rw [hR, Res.bind_ok] at hP
    have al : ∀ e, (seqObj "list" #[] e).alive = true := fun _ => rfl
    show wpAny (model X.prog X.w) X.A (call (.builtin "sorted") [.ref l] [(Str.ofString "key", .ref fa)]) _ _ _
    refine sorted_of_sort hl.isList hz2 (ksk_s1 _ _) (fun x => ksk_l1 _ _) fun E' => ?_
    rw [ksk_t1]
    have ha := copyHeap_at s.heap its
    have old1 : ∀ b o, s.heap.get? b = some o → (copyHeap s.heap its).get? b = some o := fun b o q => copyHeap_old q
    generalize copyHeap s.heap its = h1 at ha old1 ⊢
    obtain ⟨e1, ho1⟩ : ∃ e1, (h1.update (s.heap.objs.size + 1) (Obj.mapSeq fun _ => (#[] : Array Value))).get? (s.heap.objs.size + 1) = some (seqObj "list" #[] e1) := ⟨_, get?_update_seq ha fun _ => #[]⟩
    unfold ksk_tree
    refine wpAny_bind (listItems_at ha rfl ?_)
    refine wpAny_bind (listUpdate_at ha rfl ?_ (by rw [List.size_toArray]; exact hz2) (Nat.zero_le _))
    refine wpAny_bind (seqEpoch_at ho1 rfl ?_)
    refine wpAny_bind (wpAny_newTuple ?_ (by show its.length ≤ _; exact hz2))
    refine wpAny_bind (wpAny_newList ?_ (Nat.zero_le _))
    refine wpAny_holding ?_
    dsimp only
    generalize hh2 : h1.update (s.heap.objs.size + 1) (Obj.mapSeq fun _ => (#[] : Array Value)) = h2 at ho1 ⊢
    have old2 : ∀ b o, s.heap.get? b = some o → h2.get? b = some o := fun b o q => by
      rw [← hh2, Heap.get?_update_ne _ _ _ _ (Nat.ne_of_lt (Nat.lt_succ_of_lt (Heap.lt_size q)))]
      exact old1 b o q
    have big2 : s.heap.objs.size + 1 < h2.objs.size := Heap.lt_size ho1
    generalize ha' : s.heap.objs.size + 1 = a at ho1 big2 ⊢
    have hna : H a = none := I.hok.fresh (by omega)
    have hsz3 : (h2.push (seqObj "tuple" its.toArray 0)).objs.size = h2.objs.size + 1 := size_push' _ _
    generalize hk : (h2.push (seqObj "tuple" its.toArray 0)).objs.size = k at *
    have I1 : Inv X pins σ (upd H a (.frz (seqObj "list" #[] e1) (.ext fun h => h.get? a = some (seqObj "list" #[] e1)))) { s with heap := h2, toks := s.toks } := I.laid (t' := s.toks) old2 (by omega) ⟨ho1, ho1, ⟨_, ho1⟩, fun h1 h2 q k => k _ q⟩
    have I2 : Inv X pins σ (upd H a (.frz (seqObj "list" #[] e1) (.ext fun h => h.get? a = some (seqObj "list" #[] e1)))) { s with heap := (h2.push (seqObj "tuple" its.toArray 0)).push (seqObj "list" #[] 0), toks := s.toks } := I1.kept (t' := s.toks) fun b o q => Heap.get?_push_of_some _ (Heap.get?_push_of_some _ q)
    obtain ⟨le1, M1⟩ := M.beside (o := .frz (seqObj "list" #[] e1) (.ext fun h => h.get? a = some (seqObj "list" #[] e1))) hna
    have gk : ((h2.push (seqObj "tuple" its.toArray 0)).push (seqObj "list" #[] 0)).get? k = some (seqObj "list" #[] 0) := by rw [← hk]; exact Heap.get?_push_size _ rfl
    have hka : k ≠ a := by omega
    have fpk : FpOk X pins (upd H a (.frz (seqObj "list" #[] e1) (.ext fun h => h.get? a = some (seqObj "list" #[] e1)))) k := I.fpOk (by omega) (by rw [upd_ne hka]; exact I.hok.fresh (by omega))
    have lv := rv.length
    have lx := rx.length
    have nofr : ∀ o' u', X.H_0 a ≠ some (.frz o' u') := fun o' u' q => by
      have q := I.base.frzs a o' u' q
      rw [hna] at q; cases q
    unfold ksk_rest
    refine wpAny_bind (wpAny_rule ?_)
    first
      | rw [List.forIn_toArray]
      | (rw [← Array.forIn_toList]; simp only [List.toList_toArray])
      | rw [← Array.forIn_toList]
    refine wpAny_bind (ksk_fold (fun i s' => SrkI E X pins σ w (seqObj "list" #[] e1) a k f xs vs (.ok psE mE) i s') its 0 _ ?start ?step ?done)
    case start =>
      exact ⟨_, _, m, #[], 0, [], I2, le1, upd_same, M1, fpk, gk, .nil, rfl, Nat.zero_le _, by rw [List.drop_zero, hR, Res.bind_ok]; rfl⟩
    case step =>
      intro j x s' hx hs
      simp only [Nat.zero_add] at hs ⊢
      refine wpAny_bind (wpAny_attempt (wpAny_mono (srk_step (Er := E') F hb C.room hz2 rv rx hx hs) (fun v s'' hv => ?_) fun _ _ hF => hF.elim))
      dsimp only
      exact wpAny_bind (wpAny_mono hv (fun _ s3 h3 => wpAny_pure ⟨rfl, h3⟩) fun _ _ e => e)
    case done =>
      intro s' hs
      simp only [Nat.zero_add] at hs
      obtain ⟨H', w', m', kA, e, kss, I', le', hG, M', fp', gk', each, hkl, hi, hRR⟩ := hs
      have exl : its.length = xs.length := by omega
      rw [exl, List.drop_length, List.take_length] at hRR
      simp only [keyL, Res.bind_ok, List.append_nil, Res.ok.injEq] at hRR
      obtain ⟨rfl, rfl⟩ := hRR
      refine wpAny_bind (listItems_at gk' rfl ?_)
      have hHa : H' a = some (.frz (seqObj "list" #[] e1) (.ext fun h => h.get? a = some (seqObj "list" #[] e1))) := M'.gr _ _ hG
      have ga : s'.heap.get? a = some (seqObj "list" #[] e1) := (I'.hok a _ hHa).1
      have rows : EachIs (fun u ks => IsRow s'.heap u ks) kA.toList kss := EachIs.imp (fun u ks ⟨p, h1, h2, h3⟩ => by
        obtain ⟨us, q1, ⟨o, q2, q3, n, q4⟩, _⟩ := I'.tuple (by rw [C.K]; exact sqT_mono M'.fr h2)
        exact ⟨p, o, _, n, h1, q2, q3, q4, kvs_of q1, h3⟩) each
      have ksz : kA.size = its.length := by
        have := rows.length
        rw [Array.length_toList] at this
        omega
      obtain ⟨h1, b1, b2⟩ := restrict s'.heap fun b => decide (b ≠ k)
      have kp : KeepsBut a h1 s'.heap := fun b o hb q => by
        by_cases z : b = k
        · rw [b2 b (by simp [z])] at q; cases q
        · rw [b1 b (by simp [z])] at q; exact q
      refine keyH_end (κ := rowKind s'.heap) (h₁ := h1) kp (b2 k (by simp)) gk' ga hka (sorts_rows fun u hu => by
        obtain ⟨ks, hks, z⟩ := rows.left u hu
        exact ⟨ks, z⟩) ksz hz2 fun h5 tk c keep5 ga5 => ⟨rfl, ?_⟩
      obtain ⟨outV, ov, orl⟩ := out_rel (rx.mono le') rv rows (by omega)
      have hlo : (sortVals (rowKind s'.heap) false kA.toList its).length = its.length := sortVals_length false (by rw [Array.length_toList]; exact ksz)
      -- the two lists' objects are new
      have Iu := I'.unlock hHa nofr
      have put : (h5.update a fun _ => seqObj "list" #[] e1).get? a = some (seqObj "list" #[] e1) := heap_put ga5 (al _)
      have I5 : Inv X pins σ (upd H' a (.ext fun h => h.get? a = some (seqObj "list" #[] e1))) { s' with heap := h5.update a fun _ => seqObj "list" #[] e1, toks := tk } := Iu.turnedL (t' := tk) (ch := [k]) (fun b o hb q => by
        have hb : b ≠ k := by simpa using hb
        by_cases z : b = a
        · rw [z, ga] at q
          cases q
          rw [z]; exact put
        · rw [Heap.get?_update_ne _ _ _ _ z]
          exact keep5 b o z (by rw [b1 b (by simp [hb])]; exact q)) (fun b hb => by
        rw [List.mem_singleton.mp hb]
        exact ⟨by rw [upd_ne hka]; exact fp'.1, fp'.2⟩)
      have I6 : Inv X pins σ (upd (upd H' a (.ext fun h => h.get? a = some (seqObj "list" #[] e1))) a (.lst outV)) { s' with heap := h5, toks := tk } := I5.write (x := a) (e := a) (t' := tk) (h' := h5) (by rw [upd_same]; exact trivial) (.inl rfl) (fun b u hb q => by
        rw [Heap.get?_update_ne _ _ _ _ hb] at q
        exact q) ⟨_, ga5⟩ ⟨by rw [ov.length, hlo]; exact hz2, _, c, ov, ga5⟩
      rw [upd_upd] at I6
      have Mo := M'.turned (o := .lst outV) hG not_tcL
      refine ⟨.ref a, _, I6, rfl, ?_⟩
      refine mk_end (w' := w'.wg (upd w'.G a (.lst outV))) hP ?_ (fun b o q => ?_) Mo upd_same (orl.mono' (lf_G w' _))
      · exact ⟨le'.fr, le'.len, le'.at_⟩
      · have nb : b ≠ a := fun z => by
          rw [z] at q
          rw [M.gr _ _ q] at hna; cases hna
        exact ⟨nb, by
          show upd w'.G a _ b = _
          rw [upd_ne nb]; exact le'.gr _ _ q⟩
theorem je_srk (G : Gok E) {f : Nat} {x : Str} {obj : Bool} {o : ME} {eo : Expr} {p p2 kpos pos : Pos} (hf : E.cf.fnm f = some x) (hg : glB sc "sorted" = true) (hgx : glB sc x = true) (hn : nmOk x = true) (hs : notStar eo = true) (ho : JE E N sc o eo) :
    JE E N sc (.srk obj o f) (.Call (.Name "sorted" p) [eo] [⟨some "key", .Name x p2, kpos⟩] pos) := fun X W C tk => by
  obtain ⟨fa, hm, hk, hF⟩ := G.fn f x hf
  have hmS : X.mg "sorted" = none := by rw [C.mg]; exact G.blt .sorted_
  have hs2 : notStars [eo] = true := by unfold notStars; simp [hs]
  refine PE.imp (pe_callBK (id := "sorted") (cr_srk (W := W) (obj := obj) C hF) (C.gl hg) hmS (Bt.boot .sorted_) (pa_cons (hs := starEach_of hs) (ho X W C tk) pa_nil) (pk_cons (pe_glob (v := .ref fa) (gl_of (by rw [C.sc]; exact hgx)) (by rw [C.mg]; exact hm) rfl (nmOk_of hn).1) pk_nil)
    (by decide +kernel) (by decide +kernel) (by rw [starEach_of hs]; rfl) (plain_of hs2)) fun σ H Q h => ?_
  obtain ⟨w, sl, m, M, S, h⟩ := h
  unfold evalE at h
  show rdE E W o σ H _
  refine rd_bind M S h fun d m1 w1 v H1 le1 M1 S1 r1 h1 => ?_
  split at h1
  · rename_i xs e
    exact ⟨rfl, v, w1, m1, d, xs, _, rfl, M1, r1, e, h1⟩
  · exact absurd h1 id
end R
namespace R
open PySem PySem.Spec PyProof.Rows L2
section
open PySem.W PySem.Calls
variable {prog : Program} {w : World} {A : Around} {E : Value → Shared → Prop} {s : Shared} {K : Frag} {x D : Addr} {ox : Obj} {od : Option Obj}
theorem fo_cls (T : ExcC K D) : findObj K D od "__class__" = some (.bind (.builtin "getset_descriptor.__get__") (.builtin "object.__class__")) := by
  obtain ⟨cd, c1, c2⟩ := any_some T.hd
  have t1 := T.ha; have t2 := T.hn; have t3 := T.ht
  simp only [findObj, c1, t1, t2, t3, Option.bind_some]
theorem ex_cls {Q : Option Value → Shared → Prop} (T : ExcC K D) (X : K.In s.heap) (I : InstAt s.heap x ox D od) (h : Q (some (.ref D)) { s with toks := s.toks + 1 }) : wpAny (model prog w) A (getAttr? (.ref x) "__class__") Q E s := by
  obtain ⟨hp, g, d, t, os⟩ := s
  have a1 := I.type (M := model prog w); have a2 := looks_findIn (M := model prog w) X T.hg
  have a3 := looks_findIn (M := model prog w) X T.hk; have a4 := looks_find (M := model prog w) X I (fo_cls T)
  have a5 : Looks (model prog w) hp (isInstance (.ref x) (.type "BaseException")) true := a1.andThen (looks_subIn X T.hs)
  have b2 : (Value.builtin "BaseException.__getattribute__" == Value.builtin "object.__getattribute__") = false := by decide +kernel
  have b1 : (onTheHeap (Value.ref D) && Value.builtin "BaseException.__getattribute__" == Value.builtin "object.__getattribute__") = false := by rw [b2, Bool.and_false]
  unfold getAttr? getAttrBy? getAttrBy
  refine wpAny_bind (wpAny_mkText (wpAny_bind (wpAny_attempt (wpAny_holding (wpAny_bind (a1.at (wpAny_bind (a2.at ?_))))))))
  show wpAny _ _ (ite ((onTheHeap (Value.ref D) && Value.builtin "BaseException.__getattribute__" == Value.builtin "object.__getattribute__") = true) _ _) _ _ _
  rw [if_neg (by rw [b1]; exact Bool.false_ne_true)]
  unfold getAttrByItsOwn hookBefore
  refine wpAny_bind ?_; rw [if_pos (show onTheHeap (Value.ref D) = true from rfl)]
  refine a3.at (wpAny_bind (wpAny_attempt (wpAny_holding ?_)))
  unfold callGetattribute
  rw [if_neg (by show ¬ (false && onTheHeap (Value.builtin "BaseException.__getattribute__")) = true; decide)]
  unfold boundAndCalled; rw [PySem.F.excAttr_ValueError.ga.bind (.ref x)]
  refine wpAny_bind (wpAny_pure ?_)
  show wpAny _ _ (PySem.call (.builtin "BaseException.__getattribute__") [.ref x, .str "__class__" t]) _ _ _
  refine wpAny_call (codeAny_call_builtin PySem.F.excAttr_ValueError.ga.plain PySem.F.entry_bexc_ga (@check_slot (model prog w) _ _ ⟨hp, g, d, t + 1, os⟩ "BaseException.__getattribute__" "BaseException" "__getattribute__" (.ref x) [.str "__class__" t] [] _ (by decide +kernel) (by decide +kernel) a5 (PySem.F.args_bexc_ga (.ref x) (.str "__class__" t)) ?_))
  unfold Builtin.«object.__getattribute__»
  refine wpAny_bind (wpAny_of_eq (a := ((Value.ref x : Value), [Value.str "__class__" t])) (by first | rfl | (simp only [slotArgs] <;> rfl)) (wpAny_bind (wpAny_pure (wpAny_bind (a1.at (wpAny_bind (a4.at ?_)))))))
  show wpAny _ _ (bind (holding [Value.builtin "object.__class__"] (PySem.call (.builtin "getset_descriptor.__get__") [.builtin "object.__class__", .ref x, .ref D])) ret) _ _ _
  refine wpAny_bind (wpAny_holding (wpAny_call (class_get (s := ⟨hp, g, d, t + 1, os⟩) (ox := ox) (od := od) X I T.hm (wpAny_pure ?_))))
  show wpAny _ _ (handedOut (.ref D)) _ _ _
  rw [handedOut_of (v := .ref D) rfl]
  first
    | exact wpAny_pure (wpAny_pure h) | exact wpAny_pure h
    | exact wpAny_pure (wpAny_bind (wpAny_pure (wpAny_pure h)))
theorem ex_kit (T : ExcC K D) : KitX K (.ref x) (.ref D) (fun h => InstAt h x ox D od) := by
  obtain ⟨cd, hc, _⟩ := any_some T.hd
  have hl : ∃ c d sl, K.lookup D = some ⟨c, d, .cls cd, sl⟩ := by
    unfold clsIn at hc
    split at hc
    · rename_i c d cd' sl ho
      cases hc
      exact ⟨c, d, sl, ho⟩
    · cases hc
  obtain ⟨c, d, sl, ho⟩ := hl
  refine ⟨fun _ _ _ I => I.type, fun _ _ X _ A' Q' E' s' k q => ?_, fun h tp dd its n sl' X htp => ?_, fun X I k => ex_cls T X I k⟩
  · unfold isType loadHead
    exact wpAny_bind (wpAny_loadPart (k _ _ (X _ _ ho)) (wpAny_pure q))
  · refine Bool.eq_false_iff.mpr fun q => ?_
    have e : D = tp := Value.ref.inj (beq_iff_eq.mp q)
    subst e
    have z := (X _ _ ho).symm.trans htp
    cases z
end
variable {E : En} {N : List Str} {sc : Scope} {fs : Str → Bool} {a b : ME} {ea eb : Expr} {pos : Pos}
theorem js_rse (G : Gok E) {j : Nat} {x m : Str} {k : Nat} {p p2 p3 : Pos} (h1 : E.cf.xnl[j]? = some (some x)) (hj : j ≠ 1) (hg : glB sc x = true) :
    JS E N sc fs (.rse j) (.Raise (some (.Call (.Name x p) [.Constant (.str m) k p2] [] p3)) none pos) := fun X W K => by
  obtain ⟨hx, hm, hdb, he⟩ := G.exn j x h1
  have c := G.exc j hx
  refine PS.imp (ps_raise K.C.calm K.tk (pmk_own PySem.F.excBase_ValueError (by rw [K.C.K]; exact he hj) (by rw [K.C.mg]; exact hm) (by rw [K.C.K]; exact c.kC) (raises_own (by rw [K.C.K]; exact c.hs) (by rw [K.C.K]; exact c.tC)) (K.C.gl hg) hdb)) fun D σ H h => ?_
  obtain ⟨w, sl, m', M, S, h⟩ := h
  unfold execS at h
  exact h w σ _ none H (Wd.le.refl _) M S ⟨rfl, hx, rfl⟩
theorem js_rsp (G : Gok E) {j : Nat} {x : Str} {p p3 : Pos} (h0 : E.cf.rfn = some j) (h1 : E.cf.xnl[j]? = some (some x)) (hg : glB sc x = true) (hs : notStar ea = true) (ha : JE E N sc a ea) :
    JS E N sc fs (.rsp j a) (.Raise (some (.Call (.Name x p) [ea] [] p3)) none pos) := fun X W K => by
  obtain ⟨hx, hm, hdb, he⟩ := G.exn j x h1
  have P := G.rfd j x h0 h1 X K.C.K K.C.mg K.C.P K.C.w K.C.base (K.C.room.mono (by omega))
  refine PS.imp (ps_raise K.C.calm K.tk (P ea _ p p3 (K.C.gl hg) (starEach_of hs) (ha X W K.C K.tk))) fun D σ H h => ?_
  obtain ⟨w, sl, m', M, S, h⟩ := h
  unfold execS at h
  refine up_bind M S h fun d m1 w1 v H1 le1 M1 S1 r1 h1 => fun dd hd => ?_
  split at h1
  · rename_i hp
    obtain ⟨le2, M2⟩ := M1.laid (p := dd) (o := .xd [("problem", v)]) hd
    exact h1 _ σ _ (some dd) _ le2 M2 (S1.mono le2) ⟨rfl, hx, dd, v, rfl, upd_same, r1.mono le2, hp⟩
  · exact absurd h1 id
/-- a suite's context: the error at x -/
structure Hok (E : En) (N : List Str) (sc : Scope) (X : Cx) (x : Addr) (oe : Obj) (cls : Value) (d : Option Addr) : Prop where
  C : Qok E N sc X
  nd : X.N.Nodup
  ex : ∃ X0 pn, X = Cx.suite X0 x ((x, oe) :: pn)
  z : Zc cls d oe
  f : ∃ vs, oe.data = .fields vs
def xw0 : XW := fun _ _ _ => False
def rdH {α β : Type} (Rl : Wd → α → β → Prop) (E : En) (nm : Option Nat) (x : Addr) (cls : Value) (d : Option Addr) (C : Nat) (q : Option D) (f : List (Option D) → Mm → Res Mm α) : L2.St → Hp → (β → Hp → Prop) → Prop := fun σ H Q =>
  ∃ w sl m, Mem E.g w H m ∧ Slr E.g w sl σ ∧ XR E.g w C q cls d ∧ (∀ i, nm = some i → σ[i]? = some (some (.ref x))) ∧ Post Rl E.g w xw0 Q (f sl m)
def JH (E : En) (N : List Str) (sc : Scope) (nm : Option Nat) (he : HE) (e : Expr) : Prop := ∀ (X : Cx) (x : Addr) (oe : Obj) (cls : Value) (d : Option Addr) (C : Nat) (q : Option D), Hok E N sc X x oe cls d → PE X e (rdH (Rv E.g) E nm x cls d C q (evalH E.p E.c C q he))
def JHs (E : En) (N : List Str) (sc : Scope) (nm : Option Nat) (he : List HE) (e : List Expr) : Prop := ∀ (X : Cx) (x : Addr) (oe : Obj) (cls : Value) (d : Option Addr) (C : Nat) (q : Option D), Hok E N sc X x oe cls d → PA X e (rdH (Rvs E.g) E nm x cls d C q (evalHs E.p E.c C q he))
def evalHT (p : Pg) (c : Calls) (C : Nat) (q : Option D) (e : HE) (sl : List (Option D)) (h : Mm) : Res Mm Bool := (evalH p c C q e sl h).bind fun x h => match truthD h x with | some b => .ok b h | none => .bad
def JHT (E : En) (N : List Str) (sc : Scope) (nm : Option Nat) (he : HE) (e : Expr) : Prop := ∀ (X : Cx) (x : Addr) (oe : Obj) (cls : Value) (d : Option Addr) (C : Nat) (q : Option D), Hok E N sc X x oe cls d → PT X e (rdH (fun _ (a b : Bool) => a = b) E nm x cls d C q (evalHT E.p E.c C q he))
section
variable {nm : Option Nat} {x : Addr} {cls : Value} {d : Option Addr} {C : Nat} {q : Option D} {he hf : HE}
theorem XR.mono {g : Gm} {w w' : Wd} {C : Nat} {p : Option D} {cls : Value} {dx : Option Addr} (le : w.le w') (h : XR g w C p cls dx) : XR g w' C p cls dx := h.to (fun _ _ t => tupS_mono le.fr t) fun _ _ t => le.fr _ _ t
theorem rdh_bind {α β γ δ : Type} {Rl : Wd → α → β → Prop} {Rl' : Wd → γ → δ → Prop} {σ : L2.St} {H : Hp} {Q : β → Hp → Prop} {Q' : δ → Hp → Prop} {w : Wd} {sl : List (Option D)} {m : Mm} {r : List (Option D) → Mm → Res Mm γ} {f : γ → Mm → Res Mm α}
    (M : Mem E.g w H m) (S : Slr E.g w sl σ) (xr : XR E.g w C q cls d) (hn : ∀ i, nm = some i → σ[i]? = some (some (.ref x))) (h : Post Rl E.g w xw0 Q ((r sl m).bind f))
    (k : ∀ y m' w' v H', w.le w' → Mem E.g w' H' m' → Slr E.g w' sl σ → XR E.g w' C q cls d → Rl' w' y v → Post Rl E.g w' xw0 Q (f y m') → Q' v H') : rdH Rl' E nm x cls d C q r σ H Q' :=
  ⟨w, sl, m, M, S, xr, hn, Post.bind h fun y m' _ w' v H' le M' rv p => k y m' w' v H' le M' (S.mono le) (xr.mono le) rv p⟩
theorem jh_q {me : ME} {e : Expr} (h : JQ E N sc me e) : JH E N sc nm (.q me) e := fun X x oe cls d C q K => PE.imp (h X (fun _ _ _ _ => False) K.C takes0) fun σ H Q ⟨w, sl, m, M, S, _, _, p⟩ => by
  refine ⟨w, sl, m, M, S, ?_⟩
  unfold evalH at p
  cases q1 : evalE E.p E.c me sl m with
  | ok y m1 => rw [q1] at p; exact p
  | exn C p1 m1 => rw [q1] at p; exact absurd p id
  | bad => rw [q1] at p; exact absurd p id
theorem jh_var {i : Nat} {n : Str} {p : Pos} (h1 : N[i]? = some n) (h2 : visB sc n = true) (h3 : nmOk n = true) {X : Cx} {oe : Obj} (K : Hok E N sc X x oe cls d) : PE X (.Name n p) (fun σ H Q => σ[i]? = some (some (.ref x)) ∧ Q (.ref x) H) :=
  PE.imp (pe_var (X := X) (i := i) (by rw [K.C.Ns]; exact h1) (by rw [K.C.sc]; exact vis_of h2) (nmOk_of h3).1 (nmOk_of h3).2) fun σ H Q h => ⟨_, h.1, h.2⟩
/-- isinstance of the error -/
def rIsX (E : En) (C : Nat) (q : Option D) (x : Addr) (cls : Value) (d : Option Addr) : List V → Hp → VK → Prop := fun xs H Q => ∃ (w : Wd) (m : Mm) (c : V) (cv : Value) (b : Bool), Mem E.g w H m ∧ XR E.g w C q cls d ∧ xs = [.ref x, c] ∧ (∀ u, RelV c u → u = cv) ∧ PySem.W.kitOne E.g.K (.ref (E.g.xad C)) cv = some b ∧ Q (.bl b) H
theorem call_isX (G : Gok E) {X : Cx} {oe : Obj} (KK : Hok E N sc X x oe cls d) : CallR X (.builtin "isinstance") (rIsX E C q x cls d) := by
  have hKx := KK.C.K
  obtain ⟨X0, pn, rfl⟩ := KK.ex
  intro pins s σ H xs us Q I r h
  obtain ⟨w, m, c, cv, b, M, xr, rfl, hcv, e, hq⟩ := h
  obtain ⟨u1, u2, rfl, r1, r2⟩ := vals2 r
  cases (show u1 = Value.ref x from r1)
  cases hcv _ r2
  obtain ⟨hget, _⟩ := I.pin (x, oe) (List.mem_append.mpr (.inl List.mem_cons_self))
  obtain ⟨vs, hv⟩ := KK.f
  obtain ⟨ec, ecl, ex⟩ := xr
  obtain ⟨z1, z2⟩ := KK.z
  have T : ExcC (Cx.suite X0 x ((x, oe) :: pn)).K (E.g.xad C) := by rw [hKx]; exact (G.exc C ecl).toExcC
  have fin : ∀ tk, EP (Cx.suite X0 x ((x, oe) :: pn)) pins σ Q (.bool b) { s with toks := tk } := fun tk => ⟨.bl b, H, I.kept (t' := tk) fun _ _ z => z, rfl, hq⟩
  have hno : PySem.W.notCls oe = true := by
    unfold PySem.W.notCls
    rw [hv] <;> rfl
  have e' : PySem.W.kitOne (Cx.suite X0 x ((x, oe) :: pn)).K (.ref (E.g.xad C)) cv = some b := by rw [hKx]; exact e
  obtain ⟨od, J⟩ : ∃ od, PySem.W.InstAt s.heap x oe (E.g.xad C) od := by
    cases q with
    | none =>
      have ed : d = none := ex
      subst ed
      exact ⟨none, hget, by rw [z1]; exact ec, hno, by rw [z2]; trivial⟩
    | some y =>
      obtain ⟨dd, v, rfl, hF, _⟩ := ex
      have hx : ObjOk (Cx.suite X0 x ((x, oe) :: pn)).prog (Cx.suite X0 x ((x, oe) :: pn)).w H s.heap dd (.xd [("problem", v)]) := I.hok dd _ (M.fr _ _ hF)
      obtain ⟨mA, ⟨od, es, ep, ho, _⟩, _⟩ := hx
      exact ⟨some od, hget, by rw [z1]; exact ec, hno, by rw [z2]; exact ho⟩
  exact PySem.W.kia_one (ex_kit T) I.kIn J e' (fun z => nomatch z) fin
theorem jh_is0 (G : Gok E) {i : Nat} {n y : Str} {p1 p2 p3 : Pos} {cv : Value} {c : V} {bb : Nat → Bool} (hn : nm = some i) (h1 : N[i]? = some n) (h2 : visB sc n = true) (h3 : nmOk n = true) (hg : glB sc "isinstance" = true)
    (hc : ∀ X, Qok E N sc X → PE X (.Name y p3) (tC c)) (hcv : ∀ u, RelV c u → u = cv) (hk : ∀ C ∈ E.g.xs, PySem.W.kitOne E.g.K (.ref (E.g.xad C)) cv = some (bb C)) (hev : ∀ C q sl m, evalH E.p E.c C q he sl m = .ok (.bl (bb C)) m) :
    JH E N sc nm he (.Call (.Name "isinstance" p1) [.Name n p2, .Name y p3] [] pos) := fun X x oe cls d C q K => by
  have hm : X.mg "isinstance" = none := by rw [K.C.mg]; exact G.isi
  refine PE.imp (pe_callB (call_isX (C := C) (q := q) G K) (gl_of (by rw [K.C.sc]; exact hg)) hm (by decide +kernel) (pa_cons (hs := rfl) (jh_var (p := p2) h1 h2 h3 K) (pa_cons (hc X K.C) pa_nil)) (by decide +kernel) (by decide +kernel) rfl rfl) fun σ H Q h => ?_
  obtain ⟨w, sl, m, M, S, xr, hs, p⟩ := h
  rw [hev] at p
  exact ⟨hs i hn, w, m, c, cv, bb C, M, xr, rfl, hcv, hk C xr.2.1, ok_same p M (.bl _)⟩
theorem jh_isx (G : Gok E) {i j : Nat} {n y : Str} {p1 p2 p3 : Pos} (hn : nm = some i) (h1 : N[i]? = some n) (h2 : visB sc n = true) (h3 : nmOk n = true) (hg : glB sc "isinstance" = true) (hy : E.cf.xnl[j]? = some (some y)) (hgy : glB sc y = true) :
    JH E N sc nm (.isx j) (.Call (.Name "isinstance" p1) [.Name n p2, .Name y p3] [] pos) := by
  obtain ⟨hx, hm, hdb, _⟩ := G.exn j y hy
  refine jh_is0 G hn h1 h2 h3 hg (c := .ref (E.g.xad j)) (cv := .ref (E.g.xad j)) (bb := fun C => exSub C j) (fun X C => pe_glob (gl_of (by rw [C.sc]; exact hgy)) (by rw [C.mg]; exact hm) (show RelV (.ref (E.g.xad j)) (.ref (E.g.xad j)) from rfl) hdb) (fun u r => r) (fun C hC => ?_) fun C q sl m => by unfold evalH; rfl
  have c := G.exc j hx
  obtain ⟨cd, hcd, _⟩ := PySem.W.any_some c.hd
  have hs := G.exo C j hC hx
  unfold PySem.W.kitOne
  by_cases e : (Value.ref (E.g.xad C) == Value.ref (E.g.xad j)) = true
  · rw [if_pos e]
    have e2 : E.g.xad C = E.g.xad j := Value.ref.inj (beq_iff_eq.mp e)
    have hjj := G.exo j j hx hx
    rw [e2] at hs
    rw [hjj] at hs
    rw [← Option.some.inj hs]
    simp [exSub]
  · rw [if_neg e]
    unfold PySem.W.kitCls
    dsimp only
    rw [if_pos (by rw [hcd, c.tC]; rfl)]
    exact hs
theorem jh_isb (G : Gok E) {i : Nat} {n : Str} {p1 p2 p3 : Pos} (hn : nm = some i) (h1 : N[i]? = some n) (h2 : visB sc n = true) (h3 : nmOk n = true) (hg : glB sc "isinstance" = true) (hgy : glB sc "ValueError" = true) :
    JH E N sc nm .isb (.Call (.Name "isinstance" p1) [.Name n p2, .Name "ValueError" p3] [] pos) := by
  refine jh_is0 G hn h1 h2 h3 hg (c := .ty "ValueError") (cv := .type "ValueError") (bb := fun C => true) (fun X C => pe_bltn (gl_of (by rw [C.sc]; exact hgy)) (by rw [C.mg]; exact G.vae) PyProof.Rows.Boot.«ValueError» (show RelV (.ty "ValueError") (.type "ValueError") from rfl) (by decide +kernel) (by decide +kernel)) (fun u r => r) (fun C hC => ?_) fun C q sl m => by unfold evalH; rfl
  unfold PySem.W.kitOne
  rw [if_neg (by simp)]
  unfold PySem.W.kitCls
  dsimp only
  rw [if_pos (by decide +kernel)]
  exact (G.exc C hC).vC
/-- e.problem -/
theorem jh_prob (G : Gok E) {i : Nat} {n : Str} {p1 : Pos} (hn : nm = some i) (h1 : N[i]? = some n) (h2 : visB sc n = true) (h3 : nmOk n = true) :
    JH E N sc nm .prob (.Attribute (.Name n p1) "problem" pos) := fun X x oe cls d C q K => ⟨fun pins s σ H Q I h => by
  obtain ⟨w, sl, m, M, S, xr, hs, p⟩ := h
  unfold evalH at p
  cases q with
  | none => exact absurd p id
  | some y =>
    have hv := jh_var (p := p1) h1 h2 h3 K
    have hKx := K.C.K
    have hz := K.z
    have hf := K.f
    obtain ⟨ec, ecl, dd, v, ed, hF, rv, hp⟩ := xr
    have c := G.exc C ecl
    obtain ⟨X0, pn, rfl⟩ := K.ex
    have T : XfC X0.K (E.g.xad C) := by
      rw [show X0.K = E.g.K from hKx]
      exact ⟨c.hg, c.hk, c.hs, c.hd⟩
    refine (pe_xf T (by rw [show X0.K = E.g.K from hKx]; exact c.pC) hz hf hv).run pins s σ H Q I ?_
    exact ⟨hs i hn, rfl, ec, dd, _, v, ed, M.fr _ _ hF, rfl, ok_same p M rv⟩⟩
theorem jhs_nil : JHs E N sc nm [] [] := fun X x oe cls d C q K => PA.imp pa_nil fun σ H Q ⟨w, sl, m, M, S, _, _, h⟩ => by
  unfold evalHs at h
  exact h w [] H (Wd.le.refl _) M .nil
theorem jhs_cons {es : List HE} {ees : List Expr} (ha : JH E N sc nm he ea) (hst : notStar ea = true) (hr : JHs E N sc nm es ees) : JHs E N sc nm (he :: es) (ea :: ees) := fun X x oe cls d C q K => by
  refine PA.imp (pa_cons (ha X x oe cls d C q K) (hr X x oe cls d C q K) (starEach_of hst)) fun σ H Q h => ?_
  obtain ⟨w, sl, m, M, S, xr, hn, h⟩ := h
  unfold evalHs at h
  refine rdh_bind M S xr hn h fun y m1 w1 v H1 le1 M1 S1 x1 r1 h1 => ?_
  refine rdh_bind M1 S1 x1 hn h1 fun ds m2 w2 vs H2 le2 M2 S2 x2 r2 h2 => ?_
  exact h2 w2 _ H2 (Wd.le.refl _) M2 (.cons (r1.mono le2) r2)
theorem jh_tup {es : List HE} {ees : List Expr} {k : Nat} (h : JHs E N sc nm es ees) : JH E N sc nm (.tup es) (.Tuple ees k pos) := fun X x oe cls d C q K => by
  refine PE.imp (pe_tupS (h X x oe cls d C q K)) fun σ H Q h => ?_
  obtain ⟨w, sl, m, M, S, xr, hn, h⟩ := h
  unfold evalH at h
  refine rdh_bind M S xr hn h fun y m1 w1 v H1 le1 M1 S1 x1 r1 h1 => ?_
  exact mkT_post h1 M1 r1
theorem jh_lst {es : List HE} {ees : List Expr} {obj : Bool} (h : JHs E N sc nm es ees) : JH E N sc nm (.lst obj es) (.List ees pos) := fun X x oe cls d C q K => by
  refine PE.imp (pe_lst (h X x oe cls d C q K)) fun σ H Q h => ?_
  obtain ⟨w, sl, m, M, S, xr, hn, h⟩ := h
  unfold evalH at h
  refine rdh_bind M S xr hn h fun y m1 w1 v H1 le1 M1 S1 x1 r1 h1 => ?_
  exact mkL_post h1 M1 r1
theorem jh_not (ha : JH E N sc nm he ea) : JH E N sc nm (.not_ he) (.UnaryOp .Not ea pos) := fun X x oe cls d C q K => by
  refine PE.imp (pe_notT (ha X x oe cls d C q K)) fun σ H Q h => ?_
  obtain ⟨w, sl, m, M, S, xr, hn, h⟩ := h
  unfold evalH at h
  refine rdh_bind M S xr hn h fun y m1 w1 v H1 le1 M1 S1 x1 r1 h1 => ?_
  split at h1
  · rename_i b e
    exact ⟨b, by rw [K.C.K]; exact truthD_rel M1 r1 e, ok_same h1 M1 (.bl _)⟩
  · exact absurd h1 id
theorem jh_bop1 {conj : Bool} (ha : JH E N sc nm he ea) : JH E N sc nm (.bop conj [he]) (.BoolOp (boOp conj) [ea] pos) := fun X x oe cls d C q K => by
  refine PE.imp (pe_one (ha X x oe cls d C q K)) fun σ H Q h => ?_
  obtain ⟨w, sl, m, M, S, xr, hn, h⟩ := h
  refine ⟨w, sl, m, M, S, xr, hn, ?_⟩
  unfold evalH evalHB at h
  exact h
theorem jh_bop {conj : Bool} {es : List HE} {eb : Expr} {ees : List Expr} (ha : JH E N sc nm he ea) (hb : JH E N sc nm (.bop conj (hf :: es)) (.BoolOp (boOp conj) (eb :: ees) pos)) :
    JH E N sc nm (.bop conj (he :: hf :: es)) (.BoolOp (boOp conj) (ea :: eb :: ees) pos) := fun X x oe cls d C q K => by
  have core : ∀ (σ : L2.St) (H : Hp) (Q : VK), rdH (Rv E.g) E nm x cls d C q (evalH E.p E.c C q (.bop conj (he :: hf :: es))) σ H Q → rdH (Rv E.g) E nm x cls d C q (evalH E.p E.c C q he) σ H fun y H1 => ∃ k, TruV X.K y H1 k ∧ if k = conj then rdH (Rv E.g) E nm x cls d C q (evalH E.p E.c C q (.bop conj (hf :: es))) σ H1 Q else Q y H1 := by
    intro σ H Q h
    obtain ⟨w, sl, m, M, S, xr, hn, h⟩ := h
    unfold evalH evalHB at h
    refine rdh_bind M S xr hn h fun y m1 w1 v H1 le1 M1 S1 x1 r1 h1 => ?_
    split at h1
    · rename_i k e
      refine ⟨k, by rw [K.C.K]; exact truthD_rel M1 r1 e, ?_⟩
      by_cases hk : k = conj
      · rw [if_pos hk] at h1 ⊢
        exact ⟨w1, sl, m1, M1, S1, x1, hn, by unfold evalH; exact h1⟩
      · rw [if_neg hk] at h1 ⊢
        exact ok_same h1 M1 r1
    · exact absurd h1 id
  have up : ∀ (σ : L2.St) (H : Hp) (Q Q' : VK), (∀ v H, Q v H → Q' v H) → rdH (Rv E.g) E nm x cls d C q (evalH E.p E.c C q he) σ H Q → rdH (Rv E.g) E nm x cls d C q (evalH E.p E.c C q he) σ H Q' := fun σ H Q Q' k ⟨w, sl, m, M, S, xr, hn, h⟩ => ⟨w, sl, m, M, S, xr, hn, Post.imp k h⟩
  cases conj with
  | true => exact PE.imp (pe_andT (ha X x oe cls d C q K) (hb X x oe cls d C q K)) fun σ H Q h => up σ H _ _ (fun v H1 ⟨k, t, r⟩ => ⟨k, t, r⟩) (core σ H Q h)
  | false =>
    refine PE.imp (pe_orT (ha X x oe cls d C q K) (hb X x oe cls d C q K)) fun σ H Q h => up σ H _ _ (fun v H1 ⟨k, t, r⟩ => ⟨k, t, ?_⟩) (core σ H Q h)
    cases k with
    | true => exact r
    | false => exact r
theorem jht_val (ha : JH E N sc nm he ea) (h : plainTest ea = true) : JHT E N sc nm he ea := fun X x oe cls d C q K => by
  refine PT.imp (pt_truth (ha X x oe cls d C q K) (plain_isTrue h)) fun σ H Q h => ?_
  obtain ⟨w, sl, m, M, S, xr, hn, h⟩ := h
  refine rdh_bind (f := fun x h => match truthD h x with | some b => .ok b h | none => .bad) M S xr hn h fun y m1 w1 v H1 le1 M1 S1 x1 r1 h1 => ?_
  split at h1
  · rename_i b e
    exact ⟨b, by rw [K.C.K]; exact truthD_rel M1 r1 e, h1 w1 b H1 (Wd.le.refl _) M1 rfl⟩
  · exact absurd h1 id
theorem jht_not (ha : JHT E N sc nm he ea) : JHT E N sc nm (.not_ he) (.UnaryOp .Not ea pos) := fun X x oe cls d C q K => by
  refine PT.imp (pt_not (ha X x oe cls d C q K)) fun σ H Q h => ?_
  obtain ⟨w, sl, m, M, S, xr, hn, h⟩ := h
  refine ⟨w, sl, m, M, S, xr, hn, ?_⟩
  show Post _ _ _ _ _ (evalHT E.p E.c C q he sl m)
  have h : Post _ _ _ _ _ ((evalH E.p E.c C q (.not_ he) sl m).bind _) := h
  unfold evalH at h
  unfold evalHT
  cases q1 : evalH E.p E.c C q he sl m with
  | bad => rw [q1] at h; exact absurd h id
  | exn C p m1 => rw [q1] at h; exact h
  | ok y m1 =>
    rw [q1, Res.bind_ok] at h
    rw [Res.bind_ok]
    cases q2 : truthD m1 y with
    | none => rw [q2] at h; exact absurd h id
    | some b =>
      rw [q2] at h
      intro w1 v H1 le1 M1 r1
      subst r1
      exact h w1 (!b) H1 le1 M1 rfl
def JHW (E : En) (N : List Str) (sc : Scope) (nm : Option Nat) (conj : Bool) (es : List HE) (ees : List Expr) (pos : Pos) : Prop := ∀ (X : Cx) (x : Addr) (oe : Obj) (cls : Value) (d : Option Addr) (C : Nat) (q : Option D), Hok E N sc X x oe cls d → PW X (.BoolOp (boOp conj) ees pos) (rdH (fun _ (a b : Bool) => a = b) E nm x cls d C q (evalHT E.p E.c C q (.bop conj es)))
theorem jhw_one {conj : Bool} (ha : JHT E N sc nm he ea) : JHW E N sc nm conj [he] [ea] pos := fun X x oe cls d C q K => by
  have up : ∀ (σ : L2.St) (H : Hp) (Q : Bool → Hp → Prop), rdH (fun _ (a b : Bool) => a = b) E nm x cls d C q (evalHT E.p E.c C q (.bop conj [he])) σ H Q → rdH (fun _ (a b : Bool) => a = b) E nm x cls d C q (evalHT E.p E.c C q he) σ H Q := fun σ H Q ⟨w, sl, m, M, S, xr, hn, h⟩ => ⟨w, sl, m, M, S, xr, hn, by
    unfold evalHT at h ⊢
    unfold evalH evalHB at h
    exact h⟩
  cases conj with
  | true => exact ⟨fun wh pins s σ H Q I h => (pw_and1 (ha X x oe cls d C q K)).run wh pins s σ H Q I (up σ H Q h)⟩
  | false => exact ⟨fun wh pins s σ H Q I h => (pw_or1 (ha X x oe cls d C q K)).run wh pins s σ H Q I (up σ H Q h)⟩
theorem jhw_cons {conj : Bool} {es : List HE} {eb : Expr} {ees : List Expr} (ha : JHT E N sc nm he ea) (hb : JHW E N sc nm conj (hf :: es) (eb :: ees) pos) : JHW E N sc nm conj (he :: hf :: es) (ea :: eb :: ees) pos := fun X x oe cls d C q K => by
  have core : ∀ (σ : L2.St) (H : Hp) (Q : Bool → Hp → Prop), rdH (fun _ (a b : Bool) => a = b) E nm x cls d C q (evalHT E.p E.c C q (.bop conj (he :: hf :: es))) σ H Q → rdH (fun _ (a b : Bool) => a = b) E nm x cls d C q (evalHT E.p E.c C q he) σ H fun k H1 => if k = conj then rdH (fun _ (a b : Bool) => a = b) E nm x cls d C q (evalHT E.p E.c C q (.bop conj (hf :: es))) σ H1 Q else Q k H1 := by
    intro σ H Q h
    obtain ⟨w, sl, m, M, S, xr, hn, h⟩ := h
    refine ⟨w, sl, m, M, S, xr, hn, ?_⟩
    have h : Post _ _ _ _ _ ((evalH E.p E.c C q (.bop conj (he :: hf :: es)) sl m).bind _) := h
    unfold evalH evalHB at h
    show Post _ _ _ _ _ (evalHT E.p E.c C q he sl m)
    unfold evalHT
    cases q1 : evalH E.p E.c C q he sl m with
    | bad => rw [q1] at h; exact absurd h id
    | exn C p m1 => rw [q1] at h; exact h
    | ok y m1 =>
      rw [q1, Res.bind_ok] at h
      rw [Res.bind_ok]
      cases q2 : truthD m1 y with
      | none => rw [q2] at h; exact absurd h id
      | some k =>
        rw [q2] at h
        intro w1 v H1 le1 M1 r1
        subst r1
        dsimp only at h
        by_cases hk : k = conj
        · rw [if_pos hk] at h ⊢
          refine ⟨w1, sl, m1, M1, S.mono le1, xr.mono le1, hn, Post.mono le1 ?_⟩
          show Post _ _ _ _ _ ((evalH E.p E.c C q (.bop conj (hf :: es)) sl m1).bind _)
          unfold evalH
          exact h
        · rw [if_neg hk, Res.bind_ok, q2] at h
          rw [if_neg hk]
          exact h w1 k H1 le1 M1 rfl
  have up : ∀ (σ : L2.St) (H : Hp) (Q Q' : Bool → Hp → Prop), (∀ v H, Q v H → Q' v H) → rdH (fun _ (a b : Bool) => a = b) E nm x cls d C q (evalHT E.p E.c C q he) σ H Q → rdH (fun _ (a b : Bool) => a = b) E nm x cls d C q (evalHT E.p E.c C q he) σ H Q' := fun σ H Q Q' k ⟨w, sl, m, M, S, xr, hn, h⟩ => ⟨w, sl, m, M, S, xr, hn, Post.imp k h⟩
  cases conj with
  | true => exact ⟨fun wh pins s σ H Q I h => (pw_and (ha X x oe cls d C q K) (hb X x oe cls d C q K)).run wh pins s σ H Q I (up σ H _ _ (fun k H1 r => by cases k <;> exact r) (core σ H Q h))⟩
  | false => exact ⟨fun wh pins s σ H Q I h => (pw_or (ha X x oe cls d C q K) (hb X x oe cls d C q K)).run wh pins s σ H Q I (up σ H _ _ (fun k H1 r => by cases k <;> exact r) (core σ H Q h))⟩
theorem JHW.jht {conj : Bool} {es : List HE} {ees : List Expr} (h : JHW E N sc nm conj es ees pos) : JHT E N sc nm (.bop conj es) (.BoolOp (boOp conj) ees pos) := fun X x oe cls d C q K => (h X x oe cls d C q K).pt
def PostH (g : Gm) (w : Wd) (nm : Option Nat) (x : Addr) (D : Ends) : Res Sx Fl → Prop
  | .ok .nx s => ∀ w' σ' H', w.le w' → Mem g w' H' s.hp → Slr g w' s.sl σ' → (∀ i, nm = some i → σ'[i]? = some (some (.ref x))) → D.nx σ' H'
  | .ok (.rt d) s => ∀ w' v H', w.le w' → Mem g w' H' s.hp → Rv g w' d v → D.rt v H'
  | _ => False
theorem PostH.mono {g : Gm} {w w' : Wd} {D : Ends} (le : w.le w') : ∀ {r : Res Sx Fl}, PostH g w nm x D r → PostH g w' nm x D r
  | .ok .nx _, h => fun u s H' l => h u s H' (le.trans l)
  | .ok (.rt _) _, h => fun u s H' l => h u s H' (le.trans l)
  | .ok .bk _, h => h
  | .ok .ct _, h => h
  | .exn _ _ _, h => h
  | .bad, h => h
def rdHS (E : En) (nm : Option Nat) (x : Addr) (cls : Value) (d : Option Addr) (C : Nat) (q : Option D) (f : Sx → Res Sx Fl) : TS := fun D σ H =>
  ∃ w sl m, Mem E.g w H m ∧ Slr E.g w sl σ ∧ XR E.g w C q cls d ∧ (∀ i, nm = some i → σ[i]? = some (some (.ref x))) ∧ PostH E.g w nm x D (f ⟨sl, m⟩)
def JHS (E : En) (N : List Str) (sc : Scope) (nm : Option Nat) (hs : HS) (st : Stmt) : Prop := ∀ (X : Cx) (x : Addr) (oe : Obj) (cls : Value) (d : Option Addr) (C : Nat) (q : Option D), Hok E N sc X x oe cls d → PS X st (rdHS E nm x cls d C q (execH E.p E.c C q hs))
def JHSs (E : En) (N : List Str) (sc : Scope) (nm : Option Nat) (hs : List HS) (st : List Stmt) : Prop := ∀ (X : Cx) (x : Addr) (oe : Obj) (cls : Value) (d : Option Addr) (C : Nat) (q : Option D), Hok E N sc X x oe cls d → PSs X st (rdHS E nm x cls d C q (execHs E.p E.c C q hs))
theorem uph_bind {α β : Type} {Rl : Wd → α → β → Prop} {D : Ends} {σ : L2.St} {H : Hp} {Q' : β → Hp → Prop} {w : Wd} {sl : List (Option R.D)} {m : Mm} {r : List (Option R.D) → Mm → Res Mm α} {f : α → Mm → Res Sx Fl}
    (M : Mem E.g w H m) (S : Slr E.g w sl σ) (xr : XR E.g w C q cls d) (hn : ∀ i, nm = some i → σ[i]? = some (some (.ref x))) (h : PostH E.g w nm x D (up sl (r sl m) f))
    (k : ∀ y m' w' v H', w.le w' → Mem E.g w' H' m' → Slr E.g w' sl σ → XR E.g w' C q cls d → Rl w' y v → PostH E.g w' nm x D (f y m') → Q' v H') : rdH Rl E nm x cls d C q r σ H Q' := by
  refine ⟨w, sl, m, M, S, xr, hn, ?_⟩
  cases e : r sl m with
  | ok y m1 =>
    rw [e] at h
    exact fun w' v H' le M' rv => k y m1 w' v H' le M' (S.mono le) (xr.mono le) rv (PostH.mono le h)
  | exn C1 p m1 => rw [e] at h; exact absurd h id
  | bad => rw [e] at h; exact h
theorem jhs_ret (ha : JH E N sc nm he ea) : JHS E N sc nm (.ret he) (.Return (some ea) pos) := fun X x oe cls d C q K => by
  refine PS.imp (ps_ret (ha X x oe cls d C q K)) fun D σ H h => ?_
  obtain ⟨w, sl, m, M, S, xr, hn, h⟩ := h
  unfold execH at h
  exact uph_bind M S xr hn h fun y m1 w1 v H1 le1 M1 S1 x1 r1 h1 => h1 w1 v H1 (Wd.le.refl _) M1 r1
theorem jhs_retn : JHS E N sc nm .retn (.Return none pos) := fun X x oe cls d C q K => PS.imp ps_retN fun D σ H h => by
  obtain ⟨w, sl, m, M, S, xr, hn, h⟩ := h
  unfold execH at h
  exact h w .non H (Wd.le.refl _) M .non
theorem jhs_pass : JHS E N sc nm .pass (.Pass pos) := fun X x oe cls d C q K => PS.imp ps_pass fun D σ H h => by
  obtain ⟨w, sl, m, M, S, xr, hn, h⟩ := h
  unfold execH at h
  exact h w σ H (Wd.le.refl _) M S hn
theorem jhs_ite {ms ns : List HS} {ss ts : List Stmt} (hk : JHT E N sc nm he ea) (h1 : JHSs E N sc nm ms ss) (h2 : JHSs E N sc nm ns ts) : JHS E N sc nm (.ite he ms ns) (.If ea ss ts pos) := fun X x oe cls d C q K => by
  refine PS.imp (ps_if (hk X x oe cls d C q K) (h1 X x oe cls d C q K) (h2 X x oe cls d C q K)) fun D σ H h => ?_
  obtain ⟨w, sl, m, M, S, xr, hn, h⟩ := h
  unfold execH at h
  refine ⟨w, sl, m, M, S, xr, hn, ?_⟩
  show Post _ _ _ _ _ (evalHT E.p E.c C q he sl m)
  unfold evalHT
  cases q1 : evalH E.p E.c C q he sl m with
  | bad => rw [q1] at h; exact absurd h id
  | exn C p m1 => rw [q1] at h; exact absurd h id
  | ok y m1 =>
    rw [q1, up_ok] at h
    rw [Res.bind_ok]
    cases q2 : truthD m1 y with
    | none => rw [q2] at h; exact absurd h id
    | some b =>
      rw [q2] at h
      intro w1 v H1 le1 M1 r1
      subst r1
      cases b with
      | true => exact ⟨w1, sl, m1, M1, S.mono le1, xr.mono le1, hn, PostH.mono le1 h⟩
      | false => exact ⟨w1, sl, m1, M1, S.mono le1, xr.mono le1, hn, PostH.mono le1 h⟩
theorem jhss_cons {ms : HS} {mss : List HS} {st : Stmt} {sts : List Stmt} (h1 : JHS E N sc nm ms st) (h2 : JHSs E N sc nm mss sts) : JHSs E N sc nm (ms :: mss) (st :: sts) := fun X x oe cls d C q K => by
  refine PSs.imp (pss_cons (h1 X x oe cls d C q K) (h2 X x oe cls d C q K)) fun D σ H h => ?_
  obtain ⟨w, sl, m, M, S, xr, hn, h⟩ := h
  refine ⟨w, sl, m, M, S, xr, hn, ?_⟩
  unfold execHs at h
  cases q1 : execH E.p E.c C q ms ⟨sl, m⟩ with
  | bad => rw [q1] at h; exact absurd h id
  | exn C p s => rw [q1] at h; exact h
  | ok f s =>
    rw [q1, Res.bind_ok] at h
    cases f with
    | nx => exact fun w' σ' H' le M' S' hn' => ⟨w', s.sl, s.hp, M', S', xr.mono le, hn', PostH.mono le h⟩
    | bk => exact h
    | ct => exact h
    | rt d => exact h
theorem jhss_nil : JHSs E N sc nm [] [] := fun X x oe cls d C q K => PSs.imp pss_nil fun D σ H h => by
  obtain ⟨w, sl, m, M, S, xr, hn, h⟩ := h
  unfold execHs at h
  exact h w σ H (Wd.le.refl _) M S hn
end
theorem Slr.unset {g : Gm} {w : Wd} {sl : List (Option D)} {σ : L2.St} (S : Slr g w sl σ) (i : Nat) (y : Option V) : Slr g w (sl.set i none) (σ.set i y) := by
  refine ⟨by rw [List.length_set, List.length_set]; exact S.len, fun j e h => ?_⟩
  by_cases q : i = j
  · subst q
    by_cases hi : i < sl.length
    · rw [List.getElem?_set_self hi] at h; cases h
    · rw [List.getElem?_eq_none (by simpa using hi)] at h; cases h
  · rw [List.getElem?_set_ne q] at h
    rw [List.getElem?_set_ne q]
    exact S.at_ j e h
theorem exm_is (G : Gok E) {C j : Nat} (hC : C ∈ E.g.xs) (hj : j ∈ E.g.xs) : PySem.W.exmOne E.g.K (.ref (E.g.xad C)) (.ref (E.g.xad j)) = some (exSub C j) :=
  PySem.W.exm_ref (G.exc j hj).hs (G.exc j hj).hd (G.exc j hj).tC (G.exo C j hC hj)
/-- the suite's end, told of the statement -/
theorem hd_end {g : Gm} {w : Wd} {W : WX} {D D' : Ends} {nm : Option Nat} {x : Addr} {r : Res Sx Fl} (h : PostS g w W D (match r with | .ok f t => .ok f ⟨unn nm t.sl, t.hp⟩ | _ => .bad))
    (h1 : ∀ w' sl σ' H', Slr g w' sl σ' → (∀ σ2, Slr g w' (unn nm sl) σ2 → D.nx σ2 H') → D'.nx σ' H') (h2 : ∀ v H', D.rt v H' → D'.rt v H') (hnb : ∀ s, r ≠ .ok .bk s ∧ r ≠ .ok .ct s) : PostH g w nm x D' r := by
  cases r with
  | bad => exact absurd h id
  | exn C p s => exact absurd h id
  | ok f s =>
    cases f with
    | nx => exact fun w' σ' H' le M' S' hn => h1 w' s.sl σ' H' S' fun σ2 S2 => h w' σ2 H' le M' S2
    | rt d => exact fun w' v H' le M' rv => h2 v H' (h w' v H' le M' rv)
    | bk => exact absurd rfl (hnb s).1
    | ct => exact absurd rfl (hnb s).2
mutual
theorem execH_nb {p : Pg} {c : Calls} {C : Nat} {q : Option D} : ∀ (hs : HS) (s : Sx) (t : Sx), execH p c C q hs s ≠ .ok .bk t ∧ execH p c C q hs s ≠ .ok .ct t
  | .ret e, s, t => by
    unfold execH
    cases evalH p c C q e s.sl s.hp <;> exact ⟨(fun z => nomatch z), (fun z => nomatch z)⟩
  | .retn, s, t => by
    unfold execH
    exact ⟨(fun z => nomatch z), (fun z => nomatch z)⟩
  | .pass, s, t => by
    unfold execH
    exact ⟨(fun z => nomatch z), (fun z => nomatch z)⟩
  | .ite k a b, s, t => by
    unfold execH
    cases evalH p c C q k s.sl s.hp with
    | bad => exact ⟨(fun z => nomatch z), (fun z => nomatch z)⟩
    | exn _ _ _ => exact ⟨(fun z => nomatch z), (fun z => nomatch z)⟩
    | ok y m1 =>
      rw [up_ok]
      cases truthD m1 y with
      | none => exact ⟨(fun z => nomatch z), (fun z => nomatch z)⟩
      | some b' =>
        cases b' with
        | true => exact execHs_nb a _ t
        | false => exact execHs_nb b _ t
theorem execHs_nb {p : Pg} {c : Calls} {C : Nat} {q : Option D} : ∀ (hs : List HS) (s : Sx) (t : Sx), execHs p c C q hs s ≠ .ok .bk t ∧ execHs p c C q hs s ≠ .ok .ct t
  | [], s, t => by
    unfold execHs
    exact ⟨(fun z => nomatch z), (fun z => nomatch z)⟩
  | h :: hs, s, t => by
    unfold execHs
    have k := execH_nb (p := p) (c := c) (C := C) (q := q) h s
    cases e : execH p c C q h s with
    | bad => exact ⟨(fun z => nomatch z), (fun z => nomatch z)⟩
    | exn _ _ _ => exact ⟨(fun z => nomatch z), (fun z => nomatch z)⟩
    | ok f u =>
      rw [Res.bind_ok]
      cases f with
      | nx => exact execHs_nb hs _ t
      | bk => exact absurd e (k u).1
      | ct => exact absurd e (k u).2
      | rt d => exact ⟨(fun z => nomatch z), (fun z => nomatch z)⟩
end
section
variable {body : List MS} {j : Nat} {hs : List HS} {ss suite : List Stmt} {b0 : Stmt} {y n : Str} {np pos' : Pos}
theorem Sok.tr {X : Cx} {W W' : WX} (K : Sok E N sc fs X W) {pn : List (Addr × Obj)} {xe : Value → Shared → Prop} (tk : Takes (X.tr pn xe) W') (po : PassesOwn (model X.prog X.w) X.A X.env xe) : Sok E N sc fs (X.tr pn xe) W' :=
  ⟨⟨⟨K.C.K, K.C.mg, K.C.P, K.C.w, K.C.base, K.C.Ns, K.C.sc, K.C.nd, K.C.uq⟩, K.C.room, K.C.calm⟩, K.fn, tk, po, K.kd, K.st, K.fr⟩
theorem Sok.hok {X : Cx} {W : WX} (K : Sok E N sc fs X W) {x : Addr} {oe : Obj} {cls : Value} {d : Option Addr} {pn : List (Addr × Obj)} (z : Zc cls d oe) (f : ∃ vs, oe.data = .fields vs) : Hok E N sc (Cx.suite X x ((x, oe) :: pn)) x oe cls d :=
  ⟨⟨K.C.K, K.C.mg, K.C.P, K.C.w, K.C.base, K.C.Ns, K.C.sc, K.C.nd, K.C.uq⟩, by show X.N.Nodup; rw [K.C.Ns]; exact K.C.nd, ⟨X, pn, rfl⟩, z, f⟩
/-- what a clause wishes, out of what R says of the whole statement -/
theorem try_wish (G : Gok E) {W : WX} {D : Ends} {nm : Option Nat} (hj : j ∈ E.g.xs) {r : Res Sx Fl} {w : Wd} (h : PostS E.g w W D (match r with
      | .exn C q s' => if exSub C j = true then (match execHs E.p E.c C q hs ⟨unn nm s'.sl, s'.hp⟩ with
        | .ok f t => .ok f ⟨unn nm t.sl, t.hp⟩
        | _ => .bad) else .exn C q s'
      | r => r)) {W' : WX}
    (k : ∀ w' C q sl m cls dx σ H, Mem E.g w' H m → Slr E.g w' sl σ → XR E.g w' C q cls dx → (exSub C j = true → PostS E.g w' W D (match execHs E.p E.c C q hs ⟨unn nm sl, m⟩ with | .ok f t => .ok f ⟨unn nm t.sl, t.hp⟩ | _ => .bad)) → (exSub C j = false → W cls dx σ H) → W' cls dx σ H) :
    PostS E.g w W' D r := by
  cases r with
  | bad => exact absurd h id
  | ok f s => cases f <;> exact h
  | exn C q s =>
    intro w' σ' cls dx H' le M' S' x
    refine k w' C q s.sl s.hp cls dx σ' H' M' S' x (fun e => ?_) fun e => ?_
    · have h : PostS E.g w W D (if exSub C j = true then _ else _) := h
      rw [if_pos e] at h
      exact PostS.mono le h
    · have h : PostS E.g w W D (if exSub C j = true then _ else _) := h
      rw [if_neg (by rw [e]; exact Bool.false_ne_true)] at h
      exact h w' σ' cls dx H' le M' S' x
theorem js_try (G : Gok E) (hy : E.cf.xnl[j]? = some (some y)) (hg : glB sc y = true) (hb : JSs E N sc fs body ss) (hh : JHSs E N sc none hs (b0 :: suite)) :
    JS E N sc fs (.try_ body j none hs) (.Try ss [.ExceptHandler (some (.Name y np)) none (b0 :: suite) pos'] [] [] pos) := fun X W K => by
  obtain ⟨hx, hm, hdb, _⟩ := G.exn j y hy
  refine PS.imp (ps_try_only (Wout := W) (tb := fun W' => rdSs E W' body) (ts := fun x cls d D σ H => ∃ C q, rdHS E none x cls d C q (execHs E.p E.c C q hs) D σ H) K.st K.fr ⟨K.C.gl hg, hdb, .inl (by rw [K.C.mg]; exact hm)⟩ K.tk (fun W' pn xe tk po => hb _ W' (K.tr tk po)) fun x oe cls d pn z f => ⟨fun pins s σ H D I h => ?_⟩) fun D σ H h => ?_
  · obtain ⟨C, q, h⟩ := h
    exact (hh _ x oe cls d C q (K.hok z f)).run pins s σ H D I h
  obtain ⟨w, sl, m, M, S, h⟩ := h
  unfold execS at h
  refine ⟨w, sl, m, M, S, try_wish G hx h fun w' C q sl' m' cls dx σ' H' M' S' x h1 h2 => ?_⟩
  refine ⟨exSub C j, ?_, fun e a ha => ?_, fun e => h2 e⟩
  · rw [K.C.K, x.1]
    exact exm_is G x.2.1 hx
  · exact ⟨C, q, w', sl', m', M', S', x, (fun i z => nomatch z), hd_end (D := D) (nm := none) (h1 e) (fun w2 sl2 σ2 H2 S2 k => k σ2 S2) (fun v H2 k => k) fun s => execHs_nb hs _ s⟩
theorem js_try_as (G : Gok E) {i : Nat} (hi : N[i]? = some n) (hl : sc.names.lookup n = some .local) (hy : E.cf.xnl[j]? = some (some y)) (hg : glB sc y = true) (hb : JSs E N sc fs body ss) (hh : JHSs E N sc (some i) hs (b0 :: suite)) :
    JS E N sc fs (.try_ body j (some i) hs) (.Try ss [.ExceptHandler (some (.Name y np)) (some n) (b0 :: suite) pos'] [] [] pos) := fun X W K => by
  obtain ⟨hx, hm, hdb, _⟩ := G.exn j y hy
  refine PS.imp (ps_try_as (i := i) (Wout := W) (tb := fun W' => rdSs E W' body) (ts := fun x cls d D σ H => ∃ (C : Nat) (q : Option R.D) (σ0 : L2.St), σ = σ0.set i (some (.ref x)) ∧ (σ[i]? = some (some (.ref x)) → rdHS E (some i) x cls d C q (execHs E.p E.c C q hs) D σ H)) K.st K.fr (by rw [K.C.Ns]; exact K.C.nd) (by rw [K.C.Ns]; exact hi) (by show X.env.scope.names.lookup n = _; rw [K.C.sc]; exact hl) ⟨K.C.gl hg, hdb, .inl (by rw [K.C.mg]; exact hm)⟩ K.tk (fun W' pn xe tk po => hb _ W' (K.tr tk po)) fun x oe cls d pn z f => ⟨fun pins s σ H D I h => ?_⟩) fun D σ H h => ?_
  · obtain ⟨C, q, σ0, e0, h⟩ := h
    refine (hh _ x oe cls d C q (K.hok z f)).run pins s σ H D I (h ?_)
    have l1 : σ.length = X.N.length := I.len
    have l2 : i < X.N.length := by rw [K.C.Ns]; exact (List.getElem?_eq_some_iff.mp hi).1
    rw [e0, List.length_set] at l1
    rw [e0, List.getElem?_set_self (by omega)]
  obtain ⟨w, sl, m, M, S, h⟩ := h
  unfold execS at h
  refine ⟨w, sl, m, M, S, try_wish G hx h fun w' C q sl' m' cls dx σ' H' M' S' x h1 h2 => ?_⟩
  refine ⟨exSub C j, ?_, fun e a ha => ?_, fun e => h2 e⟩
  · rw [K.C.K, x.1]
    exact exm_is G x.2.1 hx
  · refine ⟨C, q, σ', rfl, fun hs2 => ⟨w', sl'.set i none, m', M', S'.unset i _, x, fun i' z => ?_, hd_end (D := D) (nm := some i) (h1 e) (fun w2 sl2 σ2 H2 S2 k => k _ (S2.unset i none)) (fun v H2 k => k) fun s => execHs_nb hs _ s⟩⟩
    cases z
    exact hs2
end
end R
namespace R
open PySem PySem.Spec PyProof.Rows L2
def mConst : Cn → Const → Bool
  | .non, .none => true
  | .bl a, .bool b => decide (a = b)
  | .int i, .int j => decide (i = j)
  | .str x, .str y => decide (x = y)
  | _, _ => false
mutual
def mG (N : List Str) (sc : Scope) (fs : Str → Bool) : Tg → Expr → Bool
  | .nm i, .Name x _ => decide (N[i]? = some x) && locB sc fs x
  | .tp ts, .Tuple es _ _ => notStars es && mGs N sc fs ts es
  | _, _ => false
def mGs (N : List Str) (sc : Scope) (fs : Str → Bool) : List Tg → List Expr → Bool
  | [], [] => true
  | t :: ts, e :: es => notStar e && mG N sc fs t e && mGs N sc fs ts es
  | _, _ => false
end
def isTupE : Expr → Bool
  | .Tuple _ _ _ => true
  | _ => false
mutual
def mE (p : Pg) (cf : Cf) (N : List Str) : Bool → ME → Scope → Expr → Bool
  | t, .var i, sc, e => match e with
    | .Name x _ => decide (N[i]? = some x) && visB sc x && nmOk x
    | _ => false
  | t, .lit c, _, e => match e with
    | .Constant k _ _ => mConst c k
    | _ => false
  | t, .bin o _ a b, sc, e => match e with
    | .BinOp ea o' eb _ => decide (o' = o.py) && mE p cf N false a sc ea && mE p cf N false b sc eb
    | _ => false
  | t, .neg a, sc, e => match e with
    | .UnaryOp op ea _ => decide (op = .USub) && mE p cf N false a sc ea
    | _ => false
  | t, .cmp c a b, sc, e => match e with
    | .Compare ea [op] [eb] _ => decide (op = c.py) && mE p cf N false a sc ea && mE p cf N false b sc eb
    | _ => false
  | t, .isn ng a, sc, e => match e with
    | .Compare ea [op] [.Constant .none _ _] _ => decide (op = (if ng then .IsNot else .Is)) && mE p cf N false a sc ea
    | _ => false
  | t, .isi ty a, sc, e => match e with
    | .Call (.Name x _) [ea, .Name y _] [] _ => decide (x = "isinstance") && decide (y = Str.ofString ty.nm) && notStar ea && glB sc "isinstance" && glB sc (Str.ofString ty.nm) && mE p cf N false a sc ea
    | _ => false
  | t, .isit ty tu a, sc, e => match e with
    | .Call (.Name x _) [ea, .Tuple [.Name y _, .Name z _] _ _] [] _ => decide (x = "isinstance") && decide (y = Str.ofString ty.nm) && decide (z = Str.ofString tu.nm) && notStar ea && glB sc "isinstance" && glB sc (Str.ofString ty.nm) && glB sc (Str.ofString tu.nm) && mE p cf N false a sc ea
    | _ => false
  | t, .mem ng a b, sc, e => match e with
    | .Compare ea [op] [eb] _ => decide (op = memOp ng) && inOk ng eb && mE p cf N false a sc ea && mE p cf N false b sc eb
    | _ => false
  | t, .kcat i _ a, sc, e => match e with
    | .BinOp (.Name x _) op ea _ => (match cf.ctl[i]?, p.cns[i]? with | some (some y), some (.scr _) => decide (x = y) | _, _ => false) && decide (op = .Add) && glB sc x && nmOk x && mE p cf N false a sc ea
    | _ => false
  | t, .kidx i a, sc, e => match e with
    | .Call (.Attribute (.Name x _) m apos) [ea] [] pos => (match cf.ctl[i]?, p.cns[i]? with | some (some y), some (.tup _) => decide (x = y) | _, _ => false) && decide (m = "index") && glB sc x && nmOk x && notStar ea && (apos.endLine == pos.line) && mE p cf N false a sc ea
    | _ => false
  | t, .kd ks vs a, sc, e => match e with
    | .Subscript (.Dict es fs _) ea _ => mKd ks vs es fs && !es.isEmpty && decide (es.length ≤ 15) && noSlB ea && mE p cf N false a sc ea
    | _ => false
  | t, .dnew, sc, e => match e with
    | .Dict [] [] _ => true
    | _ => false
  | t, .tnew, sc, e => match e with
    | .Dict [] [] _ => true
    | _ => false
  | t, .dget2 o i a, sc, e => match e with
    | .Call (.Attribute eo m apos) [ei, ea] [] pos => decide (m = "get") && notSuper eo && notStar ei && notStar ea && (apos.endLine == pos.line) && mE p cf N false o sc eo && mE p cf N false i sc ei && mE p cf N false a sc ea
    | _ => false
  | t, .dsetd o i a, sc, e => match e with
    | .Call (.Attribute eo m apos) [ei, ea] [] pos => decide (m = "setdefault") && notSuper eo && notStar ei && notStar ea && (apos.endLine == pos.line) && mE p cf N false o sc eo && mE p cf N false i sc ei && mE p cf N false a sc ea
    | _ => false
  | t, .dget1 o i, sc, e => match e with
    | .Call (.Attribute eo m apos) [ei] [] pos => decide (m = "get") && notSuper eo && notStar ei && (apos.endLine == pos.line) && mE p cf N false o sc eo && mE p cf N false i sc ei
    | _ => false
  | t, .dpop2 o i a, sc, e => match e with
    | .Call (.Attribute eo m apos) [ei, ea] [] pos => decide (m = "pop") && notSuper eo && notStar ei && notStar ea && (apos.endLine == pos.line) && mE p cf N false o sc eo && mE p cf N false i sc ei && mE p cf N false a sc ea
    | _ => false
  | t, .ddis ks as, sc, e => match e with
    | .Dict es fs _ => !es.isEmpty && decide (es.length ≤ 15) && mDis p cf N ks as sc es fs
    | _ => false
  | t, .dupd o a, sc, e => match e with
    | .Call (.Attribute eo m apos) [ea] [] pos => decide (m = "update") && notSuper eo && notStar ea && (apos.endLine == pos.line) && mE p cf N false o sc eo && mE p cf N false a sc ea
    | _ => false
  | t, .dcop a, sc, e => match e with
    | .Call (.Name x _) [ea] [] _ => decide (x = "dict") && glB sc "dict" && notStar ea && mE p cf N false a sc ea
    | _ => false
  | _, .dsrt _ _, _, _ => false
  | _, .no, _, _ => false
  | _, .lk _ e0, sc, e => plainTest e && mE p cf N false e0 sc e
  | t, .makeD C, sc, e => match e with
    | .Call (.Name x _) [] [] _ => decide (cf.cnm C = some x) && (p.cls[C]?).isSome && glB sc x && nmOk x
    | _ => false
  | t, .srk _ o f, sc, e => match e with
    | .Call (.Name x _) [eo] [⟨some k, .Name y _, _⟩] _ => decide (x = "sorted") && decide (k = "key") && decide (cf.fnm f = some y) && glB sc "sorted" && glB sc y && nmOk y && notStar eo && mE p cf N false o sc eo
    | _ => false
  | t, .glb i, sc, e => match e with
    | .Name x _ => (match cf.ctl[i]?, p.cns[i]? with | some (some y), some _ => decide (x = y) | _, _ => false) && glB sc x && nmOk x
    | _ => false
  | t, .cmp2 k l a b c, sc, e => match e with
    | .Compare ea [o1, o2] [eb, ec] _ => decide (o1 = k.py) && decide (o2 = l.py) && mE p cf N false a sc ea && mE p cf N false b sc eb && mE p cf N false c sc ec
    | _ => false
  | t, .bop k es, sc, e => match e with
    | .BoolOp op ees _ => decide (op = boOp k) && mB p cf N t es sc ees
    | _ => false
  | t, .not_ a, sc, e => match e with
    | .UnaryOp op ea _ => decide (op = .Not) && mE p cf N t a sc ea
    | _ => false
  | t, .ife k a b, sc, e => match e with
    | .IfExp ek ea eb _ => !t && mE p cf N true k sc ek && mE p cf N false a sc ea && mE p cf N false b sc eb
    | _ => false
  | t, .call f es, sc, e => match e with
    | .Call (.Name x _) ees [] _ => decide (cf.fnm f = some x) && glB sc x && nmOk x && notStars ees && mEs p cf N es sc ees
    | _ => false
  | t, .make C es, sc, e => match e with
    | .Call (.Name x _) ees [] _ => decide (cf.cnm C = some x) && (p.cls[C]?).isSome && glB sc x && nmOk x && notStars ees && mEs p cf N es sc ees
    | _ => false
  | t, .meth o k es, sc, e => match e with
    | .Call (.Attribute eo m apos) ees [] pos => decide (m = cf.mnm k) && notSuper eo && notStars ees && decide (ees.length < 30) && (apos.endLine == pos.line) && mE p cf N false o sc eo && mEs p cf N es sc ees
    | _ => false
  | t, .blt b _ es, sc, e => match e with
    | .Call (.Name x _) ees [] _ => decide (x = b.nm) && glB sc b.nm && !ees.isEmpty && notStars ees && mEs p cf N es sc ees
    | _ => false
  | t, .bm b _ o es, sc, e => match e with
    | .Call (.Attribute eo m apos) ees [] pos => decide (m = b.nm) && notSuper eo && !ees.isEmpty && notStars ees && decide (ees.length < 30) && (apos.endLine == pos.line) && mE p cf N false o sc eo && mEs p cf N es sc ees
    | _ => false
  | t, .fld o f, sc, e => match e with
    | .Attribute eo x _ => decide (x = attOf cf.atl f) && decide (f < cf.natt) && notSuper eo && mE p cf N false o sc eo
    | _ => false
  | t, .idx a b, sc, e => match e with
    | .Subscript ea eb _ => plainIxB eb && mE p cf N false a sc ea && mE p cf N false b sc eb
    | _ => false
  | t, .slc _ a lo hi, sc, e => match e with
    | .Subscript ea (.Slice elo ehi none _) _ => mE p cf N false a sc ea && mO p cf N lo sc elo && mO p cf N hi sc ehi
    | _ => false
  | t, .rev _ a, sc, e => match e with
    | .Subscript ea (.Slice none none (some (.UnaryOp op (.Constant k _ _) _)) _) _ => decide (op = .USub) && decide (k = .int 1) && mE p cf N false a sc ea
    | _ => false
  | t, .lst _ es, sc, e => match e with
    | .List ees _ => notStars ees && mEs p cf N es sc ees
    | _ => false
  | t, .tup es, sc, e => match e with
    | .Tuple ees _ _ => notStars ees && mEs p cf N es sc ees
    | _ => false
  | t, .lc _ elt g it cond own, sc, e => match e with
    | .ListComp eelt [⟨tg, iter, ifs, as⟩] scope _ =>
    decide (as = 0) && own.all (fun i => decide (i < N.length)) && g.ix.all (fun i => own.contains i) && blkC N sc scope (ownOf N own) && notSetE iter && mI p cf N it sc tg iter && mG N (relS scope sc) (fun x => scope.names.lookup x == some .cell) g tg
      && mC p cf N cond (relS scope sc) ifs && mE p cf N false elt (relS scope sc) eelt
    | _ => false
  | t, .frz a, sc, e => !t && mE p cf N false a sc e
def mDis (p : Pg) (cf : Cf) (N : List Str) : List Str → List ME → Scope → List (Option Expr) → List Expr → Bool
  | [], [], _, [], [] => true
  | k :: ks, a :: as, sc, some (.Constant (.str x) _ _) :: es, f :: fs => decide (k = x) && mE p cf N false a sc f && mDis p cf N ks as sc es fs
  | _, _, _, _, _ => false
def mEs (p : Pg) (cf : Cf) (N : List Str) : List ME → Scope → List Expr → Bool
  | [], _, [] => true
  | a :: as, sc, e :: es => mE p cf N false a sc e && mEs p cf N as sc es
  | _, _, _ => false
def mB (p : Pg) (cf : Cf) (N : List Str) (t : Bool) : List ME → Scope → List Expr → Bool
  | [a], sc, [e] => mE p cf N t a sc e
  | a :: as, sc, e :: es => mE p cf N t a sc e && mB p cf N t as sc es
  | _, _, _ => false
def mO (p : Pg) (cf : Cf) (N : List Str) : Option ME → Scope → Option Expr → Bool
  | none, _, none => true
  | some a, sc, some e => mE p cf N false a sc e
  | _, _, _ => false
def mC (p : Pg) (cf : Cf) (N : List Str) : Option ME → Scope → List Expr → Bool
  | none, _, [] => true
  | some a, sc, [e] => mE p cf N true a sc e
  | _, _, _ => false
def mI (p : Pg) (cf : Cf) (N : List Str) : It → Scope → Expr → Expr → Bool
  | .seq a, sc, _, e => mE p cf N false a sc e
  | .rng1 a, sc, _, e => match e with
    | .Call (.Name x _) [ea] [] _ => decide (x = "range") && glB sc "range" && notStar ea && mE p cf N false a sc ea
    | _ => false
  | .rng2 a b, sc, _, e => match e with
    | .Call (.Name x _) [ea, eb] [] _ => decide (x = "range") && glB sc "range" && notStar ea && notStar eb && mE p cf N false a sc ea && mE p cf N false b sc eb
    | _ => false
  | .rng3 a b c, sc, _, e => match e with
    | .Call (.Name x _) [ea, eb, ec] [] _ => decide (x = "range") && glB sc "range" && notStar ea && notStar eb && notStar ec && mE p cf N false a sc ea && mE p cf N false b sc eb && mE p cf N false c sc ec
    | _ => false
  | .zip a b, sc, tg, e => match e with
    | .Call (.Name x _) [ea, eb] [] _ => isTupE tg && decide (x = "zip") && glB sc "zip" && notStar ea && notStar eb && mE p cf N false a sc ea && mE p cf N false b sc eb
    | _ => false
  | .enum a, sc, tg, e => match e with
    | .Call (.Name x _) [ea] [] _ => isTupE tg && decide (x = "enumerate") && glB sc "enumerate" && notStar ea && mE p cf N false a sc ea
    | _ => false
end
variable {E : En} {N : List Str}
mutual
theorem mG_ok {fs : Str → Bool} {sc : Scope} : ∀ (t : Tg) (e : Expr), mG N sc fs t e = true → JG E N sc fs t e
  | .nm i, e, h => by
    cases e <;> first
      | (simp only [mG, Bool.and_eq_true, decide_eq_true_eq] at h; exact jg_nm h.1 h.2)
      | (simp [mG] at h; done)
  | .tp ts, e, h => by
    cases e <;> first
      | (simp only [mG, Bool.and_eq_true] at h; exact jg_tp h.1 (mGs_len ts _ h.2) (mGs_ok ts _ h.2))
      | (simp [mG] at h; done)
theorem mGs_ok {fs : Str → Bool} {sc : Scope} : ∀ (ts : List Tg) (es : List Expr), mGs N sc fs ts es = true → JGs E N sc fs ts es
  | [], [], _ => jgs_nil
  | t :: ts, e :: es, h => by
    simp only [mGs, Bool.and_eq_true] at h
    exact jgs_cons h.1.1 (mG_ok t e h.1.2) (mGs_ok ts es h.2)
  | [], _ :: _, h => by simp [mGs] at h
  | _ :: _, [], h => by simp [mGs] at h
theorem mGs_len {fs : Str → Bool} {sc : Scope} : ∀ (ts : List Tg) (es : List Expr), mGs N sc fs ts es = true → ts.length = es.length
  | [], [], _ => rfl
  | t :: ts, e :: es, h => by
    simp only [mGs, Bool.and_eq_true] at h
    rw [List.length_cons, List.length_cons, mGs_len ts es h.2]
  | [], _ :: _, h => by simp [mGs] at h
  | _ :: _, [], h => by simp [mGs] at h
end
/-- a value, or a test -/
def JX (E : En) (N : List Str) (sc : Scope) (t : Bool) (me : ME) (e : Expr) : Prop := if t = true then JT E N sc me e else JE E N sc me e
theorem jx_plain {sc : Scope} {t : Bool} {me : ME} {e : Expr} (h : JE E N sc me e) (hp : plainTest e = true) : JX E N sc t me e := by
  unfold JX
  cases t with
  | true => rw [if_pos rfl]; exact jt_val h hp
  | false => rw [if_neg Bool.false_ne_true]; exact h
theorem jx_e {sc : Scope} {me : ME} {e : Expr} (h : JX E N sc false me e) : JE E N sc me e := h
theorem jx_t {sc : Scope} {me : ME} {e : Expr} (h : JX E N sc true me e) : JT E N sc me e := h
def JB (E : En) (N : List Str) (sc : Scope) (t conj : Bool) (es : List ME) (ees : List Expr) : Prop := ∀ pos : Pos, if t = true then (∀ X W, Cok E N sc X → Takes X W → PW X (.BoolOp (boOp conj) ees pos) (rdT E W (.bop conj es))) else JE E N sc (.bop conj es) (.BoolOp (boOp conj) ees pos)
theorem isTup_of {e : Expr} (h : isTupE e = true) : ∃ es k p, e = .Tuple es k p := by
  cases e <;> first | exact ⟨_, _, _, rfl⟩ | cases h
theorem mConst_ok {sc : Scope} {t : Bool} {c : Cn} {k : Const} {u : _} {p : _} (h : mConst c k = true) : JX E N sc t (.lit c) (.Constant k u p) := by
  cases c <;> cases k <;> first
    | exact jx_plain je_non rfl
    | (simp only [mConst, decide_eq_true_eq] at h; subst h; first | exact jx_plain je_bl rfl | exact jx_plain je_int rfl | exact jx_plain je_str rfl)
    | (simp [mConst] at h; done)
set_option maxHeartbeats 4000000 in
mutual
theorem mE_ok (G : Gok E) : ∀ (me : ME) (t : Bool) (sc : Scope) (e : Expr), mE E.p E.cf N t me sc e = true → JX E N sc t me e
  | .var i, t, sc, e, h => by
    simp only [mE] at h
    split at h
    · simp only [Bool.and_eq_true, decide_eq_true_eq] at h
      exact jx_plain (je_var h.1.1 h.1.2 h.2) rfl
    · cases h
  | .lit c, t, sc, e, h => by
    simp only [mE] at h
    split at h
    · exact mConst_ok h
    · cases h
  | .bin o obj a b, t, sc, e, h => by
    simp only [mE] at h
    split at h
    · simp only [Bool.and_eq_true, decide_eq_true_eq] at h
      obtain ⟨⟨h1, h2⟩, h3⟩ := h
      subst h1
      exact jx_plain (je_bin (mE_ok G a false sc _ h2) (mE_ok G b false sc _ h3) o obj) rfl
    · cases h
  | .neg a, t, sc, e, h => by
    simp only [mE] at h
    split at h
    · simp only [Bool.and_eq_true, decide_eq_true_eq] at h
      obtain ⟨h1, h2⟩ := h
      subst h1
      exact jx_plain (je_neg (mE_ok G a false sc _ h2)) rfl
    · cases h
  | .cmp c a b, t, sc, e, h => by
    simp only [mE] at h
    split at h
    · simp only [Bool.and_eq_true, decide_eq_true_eq] at h
      obtain ⟨⟨h1, h2⟩, h3⟩ := h
      subst h1
      have ja := jx_e (mE_ok G a false sc _ h2)
      have jb := jx_e (mE_ok G b false sc _ h3)
      unfold JX
      cases t with
      | true => rw [if_pos rfl]; exact jt_cmp ja jb c
      | false => rw [if_neg Bool.false_ne_true]; exact je_cmp ja jb c
    · cases h
  | .isn ng a, t, sc, e, h => by
    simp only [mE] at h
    split at h
    · simp only [Bool.and_eq_true, decide_eq_true_eq] at h
      obtain ⟨h1, h2⟩ := h
      have ja := jx_e (mE_ok G a false sc _ h2)
      unfold JX
      cases ng with
      | true =>
        rw [if_pos rfl] at h1
        subst h1
        cases t with
        | true => rw [if_pos rfl]; exact jt_isnn ja
        | false => rw [if_neg Bool.false_ne_true]; exact je_isnn ja
      | false =>
        rw [if_neg Bool.false_ne_true] at h1
        subst h1
        cases t with
        | true => rw [if_pos rfl]; exact jt_isn ja
        | false => rw [if_neg Bool.false_ne_true]; exact je_isn ja
    · cases h
  | .isi ty a, t, sc, e, h => by
    simp only [mE] at h
    split at h
    · simp only [Bool.and_eq_true, decide_eq_true_eq] at h
      obtain ⟨⟨⟨⟨⟨h1, h2⟩, h3⟩, h4⟩, h5⟩, h6⟩ := h
      subst h1
      subst h2
      exact jx_plain (je_isi G (jx_e (mE_ok G a false sc _ h6)) h3 h4 h5) rfl
    · cases h
  | .isit ty tu a, t, sc, e, h => by
    simp only [mE] at h
    split at h
    · simp only [Bool.and_eq_true, decide_eq_true_eq] at h
      obtain ⟨⟨⟨⟨⟨⟨⟨h1, h2⟩, h2'⟩, h3⟩, h4⟩, h5⟩, h5'⟩, h6⟩ := h
      subst h1
      subst h2
      subst h2'
      exact jx_plain (je_isit G (jx_e (mE_ok G a false sc _ h6)) h3 h4 h5 h5') rfl
    · cases h
  | .mem ng a b, t, sc, e, h => by
    simp only [mE] at h
    split at h
    · simp only [Bool.and_eq_true, decide_eq_true_eq] at h
      obtain ⟨⟨⟨h1, h0⟩, h2⟩, h3⟩ := h
      subst h1
      have ja := jx_e (mE_ok G a false sc _ h2)
      have jb := jx_e (mE_ok G b false sc _ h3)
      unfold JX
      cases t with
      | true => rw [if_pos rfl]; exact jt_mem ja jb h0
      | false => rw [if_neg Bool.false_ne_true]; exact je_mem ja jb h0
    · cases h
  | .kcat i obj a, t, sc, e, h => by
    simp only [mE] at h
    split at h
    · simp only [Bool.and_eq_true, decide_eq_true_eq] at h
      obtain ⟨⟨⟨⟨h1, h2⟩, h3⟩, h4⟩, h5⟩ := h
      subst h2
      split at h1
      · rename_i y xs e1 e2
        have h1 := of_decide_eq_true h1
        subst h1
        exact jx_plain (je_kcat G e1 e2 h3 h4 (jx_e (mE_ok G a false sc _ h5))) rfl
      · cases h1
    · cases h
  | .kidx i a, t, sc, e, h => by
    simp only [mE] at h
    split at h
    · simp only [Bool.and_eq_true, decide_eq_true_eq] at h
      obtain ⟨⟨⟨⟨⟨⟨h1, h2⟩, h3⟩, h4⟩, h5⟩, h6⟩, h7⟩ := h
      subst h2
      split at h1
      · rename_i y xs e1 e2
        have h1 := of_decide_eq_true h1
        subst h1
        exact jx_plain (je_kidx G e1 e2 h3 h4 h5 h6 (jx_e (mE_ok G a false sc _ h7))) rfl
      · cases h1
    · cases h
  | .kd ks vs a, t, sc, e, h => by
    simp only [mE] at h
    split at h
    · simp only [Bool.and_eq_true, decide_eq_true_eq, Bool.not_eq_true'] at h
      obtain ⟨⟨⟨⟨h1, h2⟩, h3⟩, h4⟩, h5⟩ := h
      exact jx_plain (je_kd h1 h2 h3 h4 (jx_e (mE_ok G a false sc _ h5))) rfl
    · cases h
  | .dnew, t, sc, e, h => by
    simp only [mE] at h
    split at h
    · exact jx_plain je_dnew rfl
    · cases h
  | .tnew, t, sc, e, h => by
    simp only [mE] at h
    split at h
    · exact jx_plain je_tnew rfl
    · cases h
  | .dget2 o i a, t, sc, e, h => by
    simp only [mE] at h
    split at h
    · simp only [Bool.and_eq_true, decide_eq_true_eq] at h
      obtain ⟨⟨⟨⟨⟨⟨⟨h1, h2⟩, h3⟩, h4⟩, h5⟩, h6⟩, h7⟩, h8⟩ := h
      subst h1
      exact jx_plain (je_dget2 h2 h3 h4 h5 (jx_e (mE_ok G o false sc _ h6)) (jx_e (mE_ok G i false sc _ h7)) (jx_e (mE_ok G a false sc _ h8))) rfl
    · cases h
  | .dsetd o i a, t, sc, e, h => by
    simp only [mE] at h
    split at h
    · simp only [Bool.and_eq_true, decide_eq_true_eq] at h
      obtain ⟨⟨⟨⟨⟨⟨⟨h1, h2⟩, h3⟩, h4⟩, h5⟩, h6⟩, h7⟩, h8⟩ := h
      subst h1
      exact jx_plain (je_dsetd h2 h3 h4 h5 (jx_e (mE_ok G o false sc _ h6)) (jx_e (mE_ok G i false sc _ h7)) (jx_e (mE_ok G a false sc _ h8))) rfl
    · cases h
  | .dget1 o i, t, sc, e, h => by
    simp only [mE] at h
    split at h
    · simp only [Bool.and_eq_true, decide_eq_true_eq] at h
      obtain ⟨⟨⟨⟨⟨h1, h2⟩, h3⟩, h5⟩, h6⟩, h7⟩ := h
      subst h1
      exact jx_plain (je_dget1 h2 h3 h5 (jx_e (mE_ok G o false sc _ h6)) (jx_e (mE_ok G i false sc _ h7))) rfl
    · cases h
  | .dpop2 o i a, t, sc, e, h => by
    simp only [mE] at h
    split at h
    · simp only [Bool.and_eq_true, decide_eq_true_eq] at h
      obtain ⟨⟨⟨⟨⟨⟨⟨h1, h2⟩, h3⟩, h4⟩, h5⟩, h6⟩, h7⟩, h8⟩ := h
      subst h1
      exact jx_plain (je_dpop2 h2 h3 h4 h5 (jx_e (mE_ok G o false sc _ h6)) (jx_e (mE_ok G i false sc _ h7)) (jx_e (mE_ok G a false sc _ h8))) rfl
    · cases h
  | .ddis ks as, t, sc, e, h => by
    simp only [mE] at h
    split at h
    · simp only [Bool.and_eq_true, decide_eq_true_eq, Bool.not_eq_true'] at h
      obtain ⟨⟨h1, h2⟩, h3⟩ := h
      exact jx_plain (je_ddis (mDis_ok G ks as sc _ _ h3) h1 h2) rfl
    · cases h
  | .dupd o a, t, sc, e, h => by
    simp only [mE] at h
    split at h
    · simp only [Bool.and_eq_true, decide_eq_true_eq] at h
      obtain ⟨⟨⟨⟨⟨h1, h2⟩, h3⟩, h5⟩, h6⟩, h7⟩ := h
      subst h1
      exact jx_plain (je_dupd h2 h3 h5 (jx_e (mE_ok G o false sc _ h6)) (jx_e (mE_ok G a false sc _ h7))) rfl
    · cases h
  | .dcop a, t, sc, e, h => by
    simp only [mE] at h
    split at h
    · simp only [Bool.and_eq_true, decide_eq_true_eq] at h
      obtain ⟨⟨⟨h1, h2⟩, h3⟩, h4⟩ := h
      subst h1
      exact jx_plain (je_dcop G h2 h3 (jx_e (mE_ok G a false sc _ h4))) rfl
    · cases h
  | .dsrt _ _, t, sc, e, h => by simp [mE] at h
  | .no, t, sc, e, h => by simp [mE] at h
  | .lk o e0, t, sc, e, h => by
    simp only [mE, Bool.and_eq_true] at h
    exact jx_plain (je_lk (jx_e (mE_ok G e0 false sc _ h.2))) h.1
  | .makeD C, t, sc, e, h => by
    simp only [mE] at h
    split at h
    · simp only [Bool.and_eq_true, decide_eq_true_eq] at h
      obtain ⟨⟨⟨h1, h0⟩, h2⟩, h3⟩ := h
      obtain ⟨cd, hcd⟩ := Option.isSome_iff_exists.mp h0
      exact jx_plain (je_makeD G hcd h1 h2 h3) rfl
    · cases h
  | .srk obj o f, t, sc, e, h => by
    simp only [mE] at h
    split at h
    · simp only [Bool.and_eq_true, decide_eq_true_eq] at h
      obtain ⟨⟨⟨⟨⟨⟨⟨h1, h2⟩, h3⟩, h4⟩, h5⟩, h6⟩, h7⟩, h8⟩ := h
      subst h1
      subst h2
      exact jx_plain (je_srk G h3 h4 h5 h6 h7 (jx_e (mE_ok G o false sc _ h8))) rfl
    · cases h
  | .glb i, t, sc, e, h => by
    simp only [mE] at h
    split at h
    · rename_i x _
      simp only [Bool.and_eq_true] at h
      obtain ⟨⟨h1, h2⟩, h3⟩ := h
      split at h1
      · rename_i y k e1 e2
        have h1 := of_decide_eq_true h1
        subst h1
        exact jx_plain (je_glb G e1 e2 h2 h3) rfl
      · cases h1
    · cases h
  | .cmp2 k l a b c, t, sc, e, h => by
    simp only [mE] at h
    split at h
    · simp only [Bool.and_eq_true, decide_eq_true_eq] at h
      obtain ⟨⟨⟨⟨h1, h2⟩, h3⟩, h4⟩, h5⟩ := h
      subst h1
      subst h2
      have ja := jx_e (mE_ok G a false sc _ h3)
      have jb := jx_e (mE_ok G b false sc _ h4)
      have jc := jx_e (mE_ok G c false sc _ h5)
      unfold JX
      cases t with
      | true => rw [if_pos rfl]; exact jt_cmp2 ja jb jc k l
      | false => rw [if_neg Bool.false_ne_true]; exact je_cmp2 ja jb jc k l
    · cases h
  | .bop k es, t, sc, e, h => by
    simp only [mE] at h
    split at h
    · simp only [Bool.and_eq_true, decide_eq_true_eq] at h
      obtain ⟨h1, h2⟩ := h
      subst h1
      have j := mB_ok G es t k sc _ h2
      unfold JX
      cases t with
      | true => rw [if_pos rfl]; exact fun X W C tk => ((j _) X W C tk).pt
      | false => rw [if_neg Bool.false_ne_true]; exact j _
    · cases h
  | .not_ a, t, sc, e, h => by
    simp only [mE] at h
    split at h
    · simp only [Bool.and_eq_true, decide_eq_true_eq] at h
      obtain ⟨h1, h2⟩ := h
      subst h1
      have j := mE_ok G a t sc _ h2
      unfold JX at j ⊢
      cases t with
      | true => rw [if_pos rfl] at j ⊢; exact jt_not j
      | false => rw [if_neg Bool.false_ne_true] at j ⊢; exact je_not j
    · cases h
  | .ife k a b, t, sc, e, h => by
    simp only [mE] at h
    split at h
    · simp only [Bool.and_eq_true, Bool.not_eq_true'] at h
      obtain ⟨⟨⟨h1, h2⟩, h3⟩, h4⟩ := h
      subst h1
      exact je_ife (jx_t (mE_ok G k true sc _ h2)) (jx_e (mE_ok G a false sc _ h3)) (jx_e (mE_ok G b false sc _ h4))
    · cases h
  | .call f es, t, sc, e, h => by
    simp only [mE] at h
    split at h
    · rename_i x _ ees pos
      simp only [Bool.and_eq_true, decide_eq_true_eq] at h
      obtain ⟨⟨⟨⟨h1, h2⟩, h3⟩, h4⟩, h5⟩ := h
      have j := mEs_ok G es sc _ h5 h4
      cases ees with
      | nil =>
        cases es with
        | nil => exact jx_plain (je_call0 G h1 h2 h3) rfl
        | cons a as => simp [mEs] at h5
      | cons e0 ees => exact jx_plain (je_call G h1 h2 h3 h4 j) rfl
    · cases h
  | .make C es, t, sc, e, h => by
    simp only [mE] at h
    split at h
    · rename_i x _ ees pos
      simp only [Bool.and_eq_true, decide_eq_true_eq] at h
      obtain ⟨⟨⟨⟨⟨h1, h0⟩, h2⟩, h3⟩, h4⟩, h5⟩ := h
      obtain ⟨cd, hcd⟩ := Option.isSome_iff_exists.mp h0
      have j := mEs_ok G es sc _ h5 h4
      cases ees with
      | nil =>
        cases es with
        | nil => exact jx_plain (je_make0 G hcd h1 h2 h3) rfl
        | cons a as => simp [mEs] at h5
      | cons e0 ees => exact jx_plain (je_make G hcd h1 h2 h3 h4 j) rfl
    · cases h
  | .meth o k es, t, sc, e, h => by
    simp only [mE] at h
    split at h
    · rename_i eo m apos ees pos
      simp only [Bool.and_eq_true, decide_eq_true_eq] at h
      obtain ⟨⟨⟨⟨⟨⟨h1, h2⟩, h3⟩, h4⟩, h5⟩, h6⟩, h7⟩ := h
      subst h1
      have jo := jx_e (mE_ok G o false sc _ h6)
      have j := mEs_ok G es sc _ h7 h3
      cases ees with
      | nil =>
        cases es with
        | nil => exact jx_plain (je_meth0 G h2 h5 jo) rfl
        | cons a as => simp [mEs] at h7
      | cons e0 ees => exact jx_plain (je_meth G h2 h3 h4 h5 jo j) rfl
    · cases h
  | .blt b obj es, t, sc, e, h => by
    simp only [mE] at h
    split at h
    · rename_i x _ ees pos
      simp only [Bool.and_eq_true, decide_eq_true_eq, Bool.not_eq_true'] at h
      obtain ⟨⟨⟨⟨h1, h2⟩, h3⟩, h4⟩, h5⟩ := h
      subst h1
      have j := mEs_ok G es sc _ h5 h4
      cases ees with
      | nil => simp at h3
      | cons e0 ees => exact jx_plain (je_blt G h2 h4 j) rfl
    · cases h
  | .bm b obj o es, t, sc, e, h => by
    simp only [mE] at h
    split at h
    · rename_i eo m apos ees pos
      simp only [Bool.and_eq_true, decide_eq_true_eq, Bool.not_eq_true'] at h
      obtain ⟨⟨⟨⟨⟨⟨⟨h1, h2⟩, h3⟩, h4⟩, h5⟩, h6⟩, h7⟩, h8⟩ := h
      subst h1
      have jo := jx_e (mE_ok G o false sc _ h7)
      have j := mEs_ok G es sc _ h8 h4
      cases ees with
      | nil => simp at h3
      | cons e0 ees => exact jx_plain (je_bm h2 h4 h5 h6 jo j) rfl
    · cases h
  | .fld o f, t, sc, e, h => by
    simp only [mE] at h
    split at h
    · rename_i eo x pos
      simp only [Bool.and_eq_true, decide_eq_true_eq] at h
      obtain ⟨⟨⟨h1, h2⟩, h3⟩, h4⟩ := h
      subst h1
      have j := je_fld (pos := by assumption) G h3 h2 (jx_e (mE_ok G o false sc _ h4))
      rw [G.att] at j
      exact jx_plain j rfl
    · cases h
  | .idx a b, t, sc, e, h => by
    simp only [mE] at h
    split at h
    · simp only [Bool.and_eq_true] at h
      obtain ⟨⟨h1, h2⟩, h3⟩ := h
      exact jx_plain (je_idx (jx_e (mE_ok G a false sc _ h2)) (jx_e (mE_ok G b false sc _ h3)) h1) rfl
    · cases h
  | .slc obj a lo hi, t, sc, e, h => by
    simp only [mE] at h
    split at h
    · simp only [Bool.and_eq_true] at h
      obtain ⟨⟨h1, h2⟩, h3⟩ := h
      exact jx_plain (je_slc (jx_e (mE_ok G a false sc _ h1)) (mO_ok G lo sc _ h2) (mO_ok G hi sc _ h3)) rfl
    · cases h
  | .rev obj a, t, sc, e, h => by
    simp only [mE] at h
    split at h
    · simp only [Bool.and_eq_true, decide_eq_true_eq] at h
      obtain ⟨⟨h1, h2⟩, h3⟩ := h
      subst h1
      subst h2
      exact jx_plain (je_rev (jx_e (mE_ok G a false sc _ h3))) rfl
    · cases h
  | .lst obj es, t, sc, e, h => by
    simp only [mE] at h
    split at h
    · simp only [Bool.and_eq_true] at h
      exact jx_plain (je_lst (mEs_ok G es sc _ h.2 h.1)) rfl
    · cases h
  | .tup es, t, sc, e, h => by
    simp only [mE] at h
    split at h
    · simp only [Bool.and_eq_true] at h
      exact jx_plain (je_tup (mEs_ok G es sc _ h.2 h.1)) rfl
    · cases h
  | .lc obj elt g it cond own, t, sc, e, h => by
    simp only [mE] at h
    split at h
    · rename_i eelt tg iter ifs as scope pos
      simp only [Bool.and_eq_true, decide_eq_true_eq, List.all_eq_true] at h
      obtain ⟨⟨⟨⟨⟨⟨⟨⟨h1, h2⟩, h3⟩, h4⟩, h5⟩, h6⟩, h7⟩, h8⟩, h9⟩ := h
      subst h1
      refine jx_plain (je_lc h2 (fun i hi => by simpa using h3 i hi) h4 h5 (mI_ok G it sc _ _ h6) (mG_ok g _ h7) ?_ (jx_e (mE_ok G elt false _ _ h9))) rfl
      exact mC_ok G cond _ _ h8
    · cases h
  | .frz a, t, sc, e, h => by
    simp only [mE, Bool.and_eq_true, Bool.not_eq_true'] at h
    obtain ⟨h1, h2⟩ := h
    subst h1
    exact je_frz (jx_e (mE_ok G a false sc _ h2))
theorem mDis_ok (G : Gok E) : ∀ (ks : List Str) (as : List ME) (sc : Scope) (es : List (Option Expr)) (fs : List Expr), mDis E.p E.cf N ks as sc es fs = true → JD E N sc ks as es fs
  | [], [], sc, [], [], _ => jd_nil
  | k :: ks, a :: as, sc, some (.Constant (.str x) _ _) :: es, f :: fs, h => by
    simp only [mDis, Bool.and_eq_true, decide_eq_true_eq] at h
    obtain ⟨⟨h1, h2⟩, h3⟩ := h
    subst h1
    exact jd_cons (jx_e (mE_ok G a false sc _ h2)) (mDis_ok G ks as sc es fs h3)
  | [], [], sc, [], _ :: _, h => by simp [mDis] at h
  | [], [], sc, _ :: _, _, h => by simp [mDis] at h
  | [], _ :: _, sc, _, _, h => by simp [mDis] at h
  | _ :: _, [], sc, _, _, h => by simp [mDis] at h
  | _ :: _, _ :: _, sc, [], _, h => by simp [mDis] at h
  | _ :: _, _ :: _, sc, none :: _, _, h => by simp [mDis] at h
  | _ :: _, _ :: _, sc, some _ :: _, [], h => by simp [mDis] at h
  | k :: ks, a :: as, sc, some e0 :: es, f :: fs, h => by
    cases e0 <;> first
      | (rename_i c _ _; cases c <;> first
          | (simp [mDis] at h; done)
          | (simp only [mDis, Bool.and_eq_true, decide_eq_true_eq] at h
             obtain ⟨⟨h1, h2⟩, h3⟩ := h
             subst h1
             exact jd_cons (jx_e (mE_ok G a false sc _ h2)) (mDis_ok G ks as sc es fs h3)))
      | (simp [mDis] at h; done)
theorem mEs_ok (G : Gok E) : ∀ (es : List ME) (sc : Scope) (ees : List Expr), mEs E.p E.cf N es sc ees = true → notStars ees = true → JEs E N sc es ees
  | [], sc, [], _, _ => jes_nil
  | a :: as, sc, e :: es, h, hs => by
    simp only [mEs, Bool.and_eq_true] at h
    have hs2 : notStar e = true ∧ notStars es = true := by
      unfold notStars at hs ⊢
      simpa [List.all_cons, Bool.and_eq_true] using hs
    exact jes_cons (jx_e (mE_ok G a false sc e h.1)) hs2.1 (mEs_ok G as sc es h.2 hs2.2)
  | [], sc, _ :: _, h, _ => by simp [mEs] at h
  | _ :: _, sc, [], h, _ => by simp [mEs] at h
theorem mB_ok (G : Gok E) : ∀ (es : List ME) (t conj : Bool) (sc : Scope) (ees : List Expr), mB E.p E.cf N t es sc ees = true → JB E N sc t conj es ees
  | [], t, conj, sc, ees, h => by cases ees <;> simp [mB] at h
  | [a], t, conj, sc, ees, h => by
    rcases ees with _ | ⟨e, _ | ⟨e2, es⟩⟩
    · simp [mB] at h
    · simp only [mB] at h
      have j := mE_ok G a t sc e h
      intro pos
      unfold JX at j
      cases t with
      | true => rw [if_pos rfl] at j ⊢; exact jt_bop1 j
      | false => rw [if_neg Bool.false_ne_true] at j ⊢; exact je_bop1 j
    · simp [mB] at h
  | a :: b :: es, t, conj, sc, ees, h => by
    rcases ees with _ | ⟨e, _ | ⟨e2, ees⟩⟩
    · simp [mB] at h
    · simp [mB] at h
    · have h : (mE E.p E.cf N t a sc e && mB E.p E.cf N t (b :: es) sc (e2 :: ees)) = true := by simpa only [mB] using h
      rw [Bool.and_eq_true] at h
      have j := mE_ok G a t sc e h.1
      have jb := mB_ok G (b :: es) t conj sc _ h.2
      intro pos
      have jb := jb pos
      unfold JX at j
      cases t with
      | true => rw [if_pos rfl] at j jb ⊢; exact jt_bop j jb
      | false => rw [if_neg Bool.false_ne_true] at j jb ⊢; exact je_bop j jb
theorem mO_ok (G : Gok E) : ∀ (o : Option ME) (sc : Scope) (e : Option Expr), mO E.p E.cf N o sc e = true → JO E N sc o e
  | none, sc, none, _ => jo_none
  | some a, sc, some e, h => by
    simp only [mO] at h
    exact jo_some (jx_e (mE_ok G a false sc e h))
  | none, sc, some _, h => by simp [mO] at h
  | some _, sc, none, h => by simp [mO] at h
theorem mC_ok (G : Gok E) : ∀ (o : Option ME) (sc : Scope) (e : List Expr), mC E.p E.cf N o sc e = true → JC E N sc o e
  | none, sc, [], _ => jc_none
  | some a, sc, [e], h => by
    simp only [mC] at h
    exact jc_some (jx_t (mE_ok G a true sc e h))
  | none, sc, _ :: _, h => by simp [mC] at h
  | some _, sc, [], h => by simp [mC] at h
  | some _, sc, _ :: _ :: _, h => by simp [mC] at h
theorem mI_ok (G : Gok E) : ∀ (it : It) (sc : Scope) (tg e : Expr), mI E.p E.cf N it sc tg e = true → JI E N sc it tg e
  | .seq a, sc, tg, e, h => by
    simp only [mI] at h
    exact ji_seq (jx_e (mE_ok G a false sc e h))
  | .rng1 a, sc, tg, e, h => by
    simp only [mI] at h
    split at h
    · simp only [Bool.and_eq_true, decide_eq_true_eq] at h
      obtain ⟨⟨⟨h1, h2⟩, h3⟩, h4⟩ := h
      subst h1
      exact ji_rng1 G h2 h3 (jx_e (mE_ok G a false sc _ h4))
    · cases h
  | .rng2 a b, sc, tg, e, h => by
    simp only [mI] at h
    split at h
    · simp only [Bool.and_eq_true, decide_eq_true_eq] at h
      obtain ⟨⟨⟨⟨⟨h1, h2⟩, h3⟩, h4⟩, h6⟩, h7⟩ := h
      subst h1
      exact ji_rng2 G h2 h3 h4 (jx_e (mE_ok G a false sc _ h6)) (jx_e (mE_ok G b false sc _ h7))
    · cases h
  | .rng3 a b c, sc, tg, e, h => by
    simp only [mI] at h
    split at h
    · simp only [Bool.and_eq_true, decide_eq_true_eq] at h
      obtain ⟨⟨⟨⟨⟨⟨⟨h1, h2⟩, h3⟩, h4⟩, h5⟩, h6⟩, h7⟩, h8⟩ := h
      subst h1
      exact ji_rng3 G h2 h3 h4 h5 (jx_e (mE_ok G a false sc _ h6)) (jx_e (mE_ok G b false sc _ h7)) (jx_e (mE_ok G c false sc _ h8))
    · cases h
  | .zip a b, sc, tg, e, h => by
    simp only [mI] at h
    split at h
    · simp only [Bool.and_eq_true, decide_eq_true_eq] at h
      obtain ⟨⟨⟨⟨⟨⟨h0, h1⟩, h2⟩, h3⟩, h4⟩, h5⟩, h6⟩ := h
      subst h1
      obtain ⟨es, k, p, rfl⟩ := isTup_of h0
      exact ji_zip G h2 h3 h4 (jx_e (mE_ok G a false sc _ h5)) (jx_e (mE_ok G b false sc _ h6))
    · cases h
  | .enum a, sc, tg, e, h => by
    simp only [mI] at h
    split at h
    · simp only [Bool.and_eq_true, decide_eq_true_eq] at h
      obtain ⟨⟨⟨⟨h0, h1⟩, h2⟩, h3⟩, h4⟩ := h
      subst h1
      obtain ⟨es, k, p, rfl⟩ := isTup_of h0
      exact ji_enum G h2 h3 (jx_e (mE_ok G a false sc _ h4))
    · cases h
end
end R
namespace R
open PySem PySem.Spec PyProof.Rows L2
/-- quiet expressions -/
def xmQ (p : Pg) (cf : Cf) (N : List Str) : ME → Scope → Expr → Bool
  | .var i, sc, e => match e with
    | .Name x _ => decide (N[i]? = some x) && visB sc x && nmOk x
    | _ => false
  | .lit c, _, e => match e with
    | .Constant k _ _ => mConst c k
    | _ => false
  | .idx a b, sc, e => match e with
    | .Subscript ea eb _ => plainIxB eb && xmQ p cf N a sc ea && xmQ p cf N b sc eb
    | _ => false
  | .not_ a, sc, e => match e with
    | .UnaryOp op ea _ => decide (op = .Not) && xmQ p cf N a sc ea
    | _ => false
  | .cmp c a b, sc, e => match e with
    | .Compare ea [op] [eb] _ => decide (op = c.py) && xmQ p cf N a sc ea && xmQ p cf N b sc eb
    | _ => false
  | .blt b _ [a], sc, e => match e with
    | .Call (.Name x _) [ea] [] _ => decide (b = .len) && decide (x = b.nm) && glB sc b.nm && notStar ea && xmQ p cf N a sc ea
    | _ => false
  | _, _, _ => false
mutual
def xmH (p : Pg) (cf : Cf) (N : List Str) (nm : Option Nat) : HE → Scope → Expr → Bool
  | .q me, sc, e => xmQ p cf N me sc e
  | .isx j, sc, e => match e with
    | .Call (.Name f _) [.Name n _, .Name y _] [] _ => (match nm with | some i => decide (N[i]? = some n) | none => false) && decide (f = "isinstance") && visB sc n && nmOk n && glB sc "isinstance" && decide (cf.xnl[j]? = some (some y)) && glB sc y
    | _ => false
  | .isb, sc, e => match e with
    | .Call (.Name f _) [.Name n _, .Name y _] [] _ => (match nm with | some i => decide (N[i]? = some n) | none => false) && decide (f = "isinstance") && visB sc n && nmOk n && glB sc "isinstance" && decide (y = "ValueError") && glB sc "ValueError"
    | _ => false
  | .prob, sc, e => match e with
    | .Attribute (.Name n _) f _ => (match nm with | some i => decide (N[i]? = some n) | none => false) && decide (f = "problem") && visB sc n && nmOk n
    | _ => false
  | .tup es, sc, e => match e with
    | .Tuple ees _ _ => xmHs p cf N nm es sc ees
    | _ => false
  | .lst _ es, sc, e => match e with
    | .List ees _ => xmHs p cf N nm es sc ees
    | _ => false
  | .not_ a, sc, e => match e with
    | .UnaryOp op ea _ => decide (op = .Not) && xmH p cf N nm a sc ea
    | _ => false
  | .bop k es, sc, e => match e with
    | .BoolOp op ees _ => decide (op = boOp k) && xmHB p cf N nm es sc ees
    | _ => false
def xmHs (p : Pg) (cf : Cf) (N : List Str) (nm : Option Nat) : List HE → Scope → List Expr → Bool
  | [], _, [] => true
  | a :: as, sc, e :: es => notStar e && xmH p cf N nm a sc e && xmHs p cf N nm as sc es
  | _, _, _ => false
def xmHB (p : Pg) (cf : Cf) (N : List Str) (nm : Option Nat) : List HE → Scope → List Expr → Bool
  | [a], sc, [e] => xmH p cf N nm a sc e
  | a :: as, sc, e :: es => xmH p cf N nm a sc e && xmHB p cf N nm as sc es
  | _, _, _ => false
end
mutual
/-- .. as tests -/
def xmHT (p : Pg) (cf : Cf) (N : List Str) (nm : Option Nat) : HE → Scope → Expr → Bool
  | .not_ a, sc, e => match e with
    | .UnaryOp op ea _ => decide (op = .Not) && xmHT p cf N nm a sc ea
    | _ => false
  | .bop k es, sc, e => match e with
    | .BoolOp op ees _ => decide (op = boOp k) && xmHW p cf N nm es sc ees
    | _ => false
  | .isx j, sc, e => plainTest e && xmH p cf N nm (.isx j) sc e
  | .isb, sc, e => plainTest e && xmH p cf N nm .isb sc e
  | _, _, _ => false
def xmHW (p : Pg) (cf : Cf) (N : List Str) (nm : Option Nat) : List HE → Scope → List Expr → Bool
  | [a], sc, [e] => xmHT p cf N nm a sc e
  | a :: as, sc, e :: es => xmHT p cf N nm a sc e && xmHW p cf N nm as sc es
  | _, _, _ => false
end
mutual
def xmHS (p : Pg) (cf : Cf) (N : List Str) (sc : Scope) (nm : Option Nat) : HS → Stmt → Bool
  | .ret a, s => match s with
    | .Return (some ea) _ => xmH p cf N nm a sc ea
    | _ => false
  | .retn, s => match s with
    | .Return none _ => true
    | _ => false
  | .pass, s => match s with
    | .Pass _ => true
    | _ => false
  | .ite k a b, s => match s with
    | .If ek ss ts _ => xmHT p cf N nm k sc ek && xmHSs p cf N sc nm a ss && xmHSs p cf N sc nm b ts
    | _ => false
def xmHSs (p : Pg) (cf : Cf) (N : List Str) (sc : Scope) (nm : Option Nat) : List HS → List Stmt → Bool
  | [], [] => true
  | m :: ms, s :: ss => xmHS p cf N sc nm m s && xmHSs p cf N sc nm ms ss
  | _, _ => false
end
section
variable {E : En} {N : List Str} {nm : Option Nat}
theorem jq_len (G : Gok E) {sc : Scope} {obj : Bool} {a : ME} {ea : Expr} {p pos : Pos} (hg : glB sc Bt.len.nm = true) (hs : notStar ea = true) (ha : JQ E N sc a ea) : JQ E N sc (.blt .len obj [a]) (.Call (.Name Bt.len.nm p) [ea] [] pos) := fun X W C tk => by
  have hm : X.mg Bt.len.nm = none := by rw [C.mg]; exact G.blt .len
  have hsl : notStars [ea] = true := by unfold notStars; simp [hs]
  refine PE.imp (pe_callB (call_blt (X := X) (g := E.g) C.K C.w .len (.inr rfl) (fun z => by cases z) obj) (gl_of (by rw [C.sc]; exact hg)) hm (Bt.boot .len) (pa_cons (hs := starEach_of hs) (ha X W C tk) pa_nil) (by decide +kernel) (by decide +kernel) (starEach_of hs) rfl) fun σ H Q h => ?_
  obtain ⟨w, sl, m, M, S, h⟩ := h
  unfold evalE evalEs at h
  cases q : evalE E.p E.c a sl m with
  | bad => rw [q] at h; exact absurd h id
  | exn C p m1 => rw [q] at h; exact ⟨w, sl, m, M, S, by rw [q]; exact h⟩
  | ok d m1 =>
    rw [q] at h
    refine ⟨w, sl, m, M, S, ?_⟩
    rw [q]
    intro w1 v H1 le1 M1 r1
    unfold evalEs at h
    exact ⟨w1, m1, [d], _, M1, .cons r1 .nil, Post.mono le1 h⟩
theorem xmQ_ok (G : Gok E) : ∀ (me : ME) (sc : Scope) (e : Expr), xmQ E.p E.cf N me sc e = true → JQ E N sc me e
  | .var i, sc, e, h => by
    simp only [xmQ] at h
    split at h
    · simp only [Bool.and_eq_true, decide_eq_true_eq] at h
      exact jq_var h.1.1 h.1.2 h.2
    · cases h
  | .lit c, sc, e, h => by
    simp only [xmQ] at h
    split at h
    · rename_i k _ _
      cases c <;> cases k <;> first
        | exact jq_non
        | (simp only [mConst, decide_eq_true_eq] at h; subst h; first | exact jq_bl | exact jq_int | exact jq_str)
        | (simp [mConst] at h; done)
    · cases h
  | .idx a b, sc, e, h => by
    simp only [xmQ] at h
    split at h
    · simp only [Bool.and_eq_true] at h
      exact jq_idx (xmQ_ok G a sc _ h.1.2) (xmQ_ok G b sc _ h.2) h.1.1
    · cases h
  | .not_ a, sc, e, h => by
    simp only [xmQ] at h
    split at h
    · simp only [Bool.and_eq_true, decide_eq_true_eq] at h
      obtain ⟨h1, h2⟩ := h
      subst h1
      exact jq_not (xmQ_ok G a sc _ h2)
    · cases h
  | .cmp c a b, sc, e, h => by
    simp only [xmQ] at h
    split at h
    · simp only [Bool.and_eq_true, decide_eq_true_eq] at h
      obtain ⟨⟨h1, h2⟩, h3⟩ := h
      subst h1
      exact jq_cmp (xmQ_ok G a sc _ h2) (xmQ_ok G b sc _ h3) c
    · cases h
  | .blt b obj [a], sc, e, h => by
    simp only [xmQ] at h
    split at h
    · simp only [Bool.and_eq_true, decide_eq_true_eq] at h
      obtain ⟨⟨⟨⟨h1, h2⟩, h3⟩, h4⟩, h5⟩ := h
      subst h1
      subst h2
      exact jq_len G h3 h4 (xmQ_ok G a sc _ h5)
    · cases h
  | .bin _ _ _ _, _, _, h | .neg _, _, _, h | .isn _ _, _, _, h | .isi _ _, _, _, h | .isit _ _ _, _, _, h | .mem _ _ _, _, _, h | .glb _, _, _, h | .kcat _ _ _, _, _, h | .kidx _ _, _, _, h | .kd _ _ _, _, _, h
  | .dnew, _, _, h | .tnew, _, _, h | .dget2 _ _ _, _, _, h | .dsetd _ _ _, _, _, h | .dget1 _ _, _, _, h | .dpop2 _ _ _, _, _, h | .ddis _ _, _, _, h | .dupd _ _, _, _, h | .dcop _, _, _, h | .srk _ _ _, _, _, h | .dsrt _ _, _, _, h | .no, _, _, h | .makeD _, _, _, h | .lk _ _, _, _, h | .cmp2 _ _ _ _ _, _, _, h | .bop _ _, _, _, h
  | .ife _ _ _, _, _, h | .call _ _, _, _, h | .make _ _, _, _, h | .meth _ _ _, _, _, h | .bm _ _ _ _, _, _, h | .fld _ _, _, _, h | .slc _ _ _ _, _, _, h | .rev _ _, _, _, h | .lst _ _, _, _, h | .tup _, _, _, h | .lc _ _ _ _ _ _, _, _, h | .frz _, _, _, h => by
    simp [xmQ] at h
  | .blt b obj [], sc, e, h => by simp [xmQ] at h
  | .blt b obj (_ :: _ :: _), sc, e, h => by simp [xmQ] at h
theorem nm_some {nm : Option Nat} {f : Nat → Bool} (h : (match nm with | some i => f i | none => false) = true) : ∃ i, nm = some i ∧ f i = true := by
  cases nm with
  | none => cases h
  | some i => exact ⟨i, rfl, h⟩
mutual
theorem xmH_ok (G : Gok E) : ∀ (he : HE) (sc : Scope) (e : Expr), xmH E.p E.cf N nm he sc e = true → JH E N sc nm he e
  | .q me, sc, e, h => by
    simp only [xmH] at h
    exact jh_q (xmQ_ok G me sc e h)
  | .isx j, sc, e, h => by
    simp only [xmH] at h
    split at h
    · simp only [Bool.and_eq_true, decide_eq_true_eq] at h
      obtain ⟨⟨⟨⟨⟨⟨h1, h2⟩, h3⟩, h4⟩, h5⟩, h6⟩, h7⟩ := h
      obtain ⟨i, hi, h1⟩ := nm_some h1
      subst h2
      exact jh_isx G hi (of_decide_eq_true h1) h3 h4 h5 h6 h7
    · cases h
  | .isb, sc, e, h => by
    simp only [xmH] at h
    split at h
    · simp only [Bool.and_eq_true, decide_eq_true_eq] at h
      obtain ⟨⟨⟨⟨⟨⟨h1, h2⟩, h3⟩, h4⟩, h5⟩, h6⟩, h7⟩ := h
      obtain ⟨i, hi, h1⟩ := nm_some h1
      subst h2
      subst h6
      exact jh_isb G hi (of_decide_eq_true h1) h3 h4 h5 h7
    · cases h
  | .prob, sc, e, h => by
    simp only [xmH] at h
    split at h
    · simp only [Bool.and_eq_true, decide_eq_true_eq] at h
      obtain ⟨⟨⟨h1, h2⟩, h3⟩, h4⟩ := h
      obtain ⟨i, hi, h1⟩ := nm_some h1
      subst h2
      exact jh_prob G hi (of_decide_eq_true h1) h3 h4
    · cases h
  | .tup es, sc, e, h => by
    simp only [xmH] at h
    split at h
    · exact jh_tup (xmHs_ok G es sc _ h)
    · cases h
  | .lst _ es, sc, e, h => by
    simp only [xmH] at h
    split at h
    · exact jh_lst (xmHs_ok G es sc _ h)
    · cases h
  | .not_ a, sc, e, h => by
    simp only [xmH] at h
    split at h
    · simp only [Bool.and_eq_true, decide_eq_true_eq] at h
      obtain ⟨h1, h2⟩ := h
      subst h1
      exact jh_not (xmH_ok G a sc _ h2)
    · cases h
  | .bop k es, sc, e, h => by
    simp only [xmH] at h
    split at h
    · simp only [Bool.and_eq_true, decide_eq_true_eq] at h
      obtain ⟨h1, h2⟩ := h
      subst h1
      exact xmHB_ok G es k sc _ _ h2
    · cases h
theorem xmHs_ok (G : Gok E) : ∀ (es : List HE) (sc : Scope) (ees : List Expr), xmHs E.p E.cf N nm es sc ees = true → JHs E N sc nm es ees
  | [], sc, [], _ => jhs_nil
  | a :: as, sc, e :: es, h => by
    simp only [xmHs, Bool.and_eq_true] at h
    exact jhs_cons (xmH_ok G a sc e h.1.2) h.1.1 (xmHs_ok G as sc es h.2)
  | [], sc, _ :: _, h => by simp [xmHs] at h
  | _ :: _, sc, [], h => by simp [xmHs] at h
theorem xmHB_ok (G : Gok E) : ∀ (es : List HE) (conj : Bool) (sc : Scope) (ees : List Expr) (pos : Pos), xmHB E.p E.cf N nm es sc ees = true → JH E N sc nm (.bop conj es) (.BoolOp (boOp conj) ees pos)
  | [], conj, sc, ees, pos, h => by cases ees <;> simp [xmHB] at h
  | [a], conj, sc, ees, pos, h => by
    rcases ees with _ | ⟨e, _ | ⟨e2, es⟩⟩
    · simp [xmHB] at h
    · simp only [xmHB] at h
      exact jh_bop1 (xmH_ok G a sc e h)
    · simp [xmHB] at h
  | a :: b :: es, conj, sc, ees, pos, h => by
    rcases ees with _ | ⟨e, _ | ⟨e2, ees⟩⟩
    · simp [xmHB] at h
    · simp [xmHB] at h
    · have h : (xmH E.p E.cf N nm a sc e && xmHB E.p E.cf N nm (b :: es) sc (e2 :: ees)) = true := by simpa only [xmHB] using h
      rw [Bool.and_eq_true] at h
      exact jh_bop (xmH_ok G a sc e h.1) (xmHB_ok G (b :: es) conj sc _ pos h.2)
end
mutual
theorem xmHT_ok (G : Gok E) : ∀ (he : HE) (sc : Scope) (e : Expr), xmHT E.p E.cf N nm he sc e = true → JHT E N sc nm he e
  | .not_ a, sc, e, h => by
    simp only [xmHT] at h
    split at h
    · simp only [Bool.and_eq_true, decide_eq_true_eq] at h
      obtain ⟨h1, h2⟩ := h
      subst h1
      exact jht_not (xmHT_ok G a sc _ h2)
    · cases h
  | .bop k es, sc, e, h => by
    simp only [xmHT] at h
    split at h
    · simp only [Bool.and_eq_true, decide_eq_true_eq] at h
      obtain ⟨h1, h2⟩ := h
      subst h1
      exact (xmHW_ok G es k sc _ _ h2).jht
    · cases h
  | .isx j, sc, e, h => by
    simp only [xmHT, Bool.and_eq_true] at h
    exact jht_val (xmH_ok G _ sc e h.2) h.1
  | .isb, sc, e, h => by
    simp only [xmHT, Bool.and_eq_true] at h
    exact jht_val (xmH_ok G _ sc e h.2) h.1
  | .q _, sc, e, h => by simp [xmHT] at h
  | .prob, sc, e, h => by simp [xmHT] at h
  | .tup _, sc, e, h => by simp [xmHT] at h
  | .lst _ _, sc, e, h => by simp [xmHT] at h
theorem xmHW_ok (G : Gok E) : ∀ (es : List HE) (conj : Bool) (sc : Scope) (ees : List Expr) (pos : Pos), xmHW E.p E.cf N nm es sc ees = true → JHW E N sc nm conj es ees pos
  | [], conj, sc, ees, pos, h => by cases ees <;> simp [xmHW] at h
  | [a], conj, sc, ees, pos, h => by
    rcases ees with _ | ⟨e, _ | ⟨e2, es⟩⟩
    · simp [xmHW] at h
    · simp only [xmHW] at h
      exact jhw_one (xmHT_ok G a sc e h)
    · simp [xmHW] at h
  | a :: b :: es, conj, sc, ees, pos, h => by
    rcases ees with _ | ⟨e, _ | ⟨e2, ees⟩⟩
    · simp [xmHW] at h
    · simp [xmHW] at h
    · have h : (xmHT E.p E.cf N nm a sc e && xmHW E.p E.cf N nm (b :: es) sc (e2 :: ees)) = true := by simpa only [xmHW] using h
      rw [Bool.and_eq_true] at h
      exact jhw_cons (xmHT_ok G a sc e h.1) (xmHW_ok G (b :: es) conj sc _ pos h.2)
end
mutual
theorem xmHS_ok (G : Gok E) {sc : Scope} : ∀ (hs : HS) (st : Stmt), xmHS E.p E.cf N sc nm hs st = true → JHS E N sc nm hs st
  | .ret a, s, h => by
    simp only [xmHS] at h
    split at h
    · exact jhs_ret (xmH_ok G a sc _ h)
    · cases h
  | .retn, s, h => by
    simp only [xmHS] at h
    split at h
    · exact jhs_retn
    · cases h
  | .pass, s, h => by
    simp only [xmHS] at h
    split at h
    · exact jhs_pass
    · cases h
  | .ite k a b, s, h => by
    simp only [xmHS] at h
    split at h
    · simp only [Bool.and_eq_true] at h
      exact jhs_ite (xmHT_ok G k sc _ h.1.1) (xmHSs_ok G a _ h.1.2) (xmHSs_ok G b _ h.2)
    · cases h
theorem xmHSs_ok (G : Gok E) {sc : Scope} : ∀ (hs : List HS) (sts : List Stmt), xmHSs E.p E.cf N sc nm hs sts = true → JHSs E N sc nm hs sts
  | [], [], _ => jhss_nil
  | m :: ms, s :: ss, h => by
    simp only [xmHSs, Bool.and_eq_true] at h
    exact jhss_cons (xmHS_ok G m s h.1) (xmHSs_ok G ms ss h.2)
  | [], _ :: _, h => by simp [xmHSs] at h
  | _ :: _, [], h => by simp [xmHSs] at h
end
end
def isFrzv : MS → Bool
  | .frzv _ => true
  | .frzs _ => true
  | _ => false
def isLc : ME → Bool
  | .lc _ _ _ _ _ _ => true
  | _ => false
mutual
def mS (p : Pg) (cf : Cf) (N : List Str) (sc : Scope) (fs : Str → Bool) : MS → Stmt → Bool
  | .ex a, s => match s with
    | .Expr ea _ => notComp ea && mE p cf N false a sc ea
    | _ => false
  | .ret a, s => match s with
    | .Return (some ea) _ => mE p cf N false a sc ea
    | _ => false
  | .retn, s => match s with
    | .Return none _ => true
    | _ => false
  | .set i a, s => match s with
    | .Assign [.Name x pn] ea _ => decide (N[i]? = some x) && locB sc fs x && isComp2 ea && (!swapB sc x pn ea || isLc a) && mE p cf N false a sc ea
    | _ => false
  | .unp g a, s => match s with
    | .Assign [tg] ea _ => notStar tg && notComp ea && notTup ea && mG N sc fs g tg && mE p cf N false a sc ea
    | _ => false
  | .setf o f a, s => match s with
    | .Assign [.Attribute eo x _] ea _ => decide (x = attOf cf.atl f) && decide (f < cf.natt) && mE p cf N false o sc eo && mE p cf N false a sc ea
    | _ => false
  | .seti o i a, s => match s with
    | .Assign [.Subscript eo ei _] ea _ => plainIxB ei && mE p cf N false o sc eo && mE p cf N false i sc ei && mE p cf N false a sc ea
    | _ => false
  | .setsl o i k a, s => match s with
    | .Assign [.Subscript eo (.Slice (some ei) (some ek) none _) _] ea _ => mE p cf N false o sc eo && mE p cf N false i sc ei && mE p cf N false k sc ek && mE p cf N false a sc ea
    | _ => false
  | .aug i o a, s => match s with
    | .AugAssign (.Name x _) op ea _ => decide (op = o.py) && decide (N[i]? = some x) && locB sc fs x && augOp o && mE p cf N false a sc ea
    | _ => false
  | .augf o f op a, s => match s with
    | .AugAssign (.Attribute eo x _) op' ea _ => decide (op' = op.py) && decide (x = attOf cf.atl f) && decide (f < cf.natt) && notSuper eo && augOp op && mE p cf N false o sc eo && mE p cf N false a sc ea
    | _ => false
  | .augi o i op a, s => match s with
    | .AugAssign (.Subscript eo ei _) op' ea _ => decide (op' = op.py) && plainIxB ei && augOp op && mE p cf N false o sc eo && mE p cf N false i sc ei && mE p cf N false a sc ea
    | _ => false
  | .ite k a b, s => match s with
    | .If ek ss ts _ => mE p cf N true k sc ek && mSs p cf N sc fs a ss && mSs p cf N sc fs b ts
    | _ => false
  | .for_ g it b, s => match s with
    | .For tg iter ss [] _ => notSetE iter && mI p cf N it sc tg iter && mG N sc fs g tg && mSs p cf N sc fs b ss
    | _ => false
  | .while_ _ k b, s => match s with
    | .While ek ss [] _ => mE p cf N true k sc ek && mSs p cf N sc fs b ss
    | _ => false
  | .brk, s => match s with
    | .Break _ => true
    | _ => false
  | .cont, s => match s with
    | .Continue _ => true
    | _ => false
  | .pass, s => match s with
    | .Pass _ => true
    | _ => false
  | .frzv _, _ => false
  | .no, _ => true
  | .lks _ m, s => mS p cf N sc fs m s
  | .augd o i op a, s => match s with
    | .AugAssign (.Subscript eo ei _) op' ea _ => decide (op' = op.py) && plainIxB ei && augOp op && mE p cf N false o sc eo && mE p cf N false i sc ei && mE p cf N false a sc ea
    | _ => false
  | .rse j, s => match s with
    | .Raise (some (.Call (.Name x _) [.Constant (.str _) _ _] [] _)) none _ => decide (cf.xnl[j]? = some (some x)) && decide (j ≠ 1) && glB sc x
    | _ => false
  | .rsp j a, s => match s with
    | .Raise (some (.Call (.Name x _) [ea] [] _)) none _ => decide (cf.rfn = some j) && decide (cf.xnl[j]? = some (some x)) && glB sc x && notStar ea && mE p cf N false a sc ea
    | _ => false
  | .try_ b j nm hs, s => match s with
    | .Try ss [.ExceptHandler (some (.Name y _)) n (b0 :: suite) _] [] [] _ => decide (cf.xnl[j]? = some (some y)) && glB sc y && (match nm, n with | none, none => true | some i, some n => decide (N[i]? = some n) && decide (sc.names.lookup n = some .local) | _, _ => false) && mSs p cf N sc fs b ss && xmHSs p cf N sc nm hs (b0 :: suite)
    | _ => false
  | .dput o i a, s => match s with
    | .Assign [.Subscript eo ei _] ea _ => mE p cf N false o sc eo && mE p cf N false i sc ei && mE p cf N false a sc ea
    | _ => false
  | .forP g e b, s => match s with
    | .For tg iter ss [] _ => isPath e && notSetE iter && mE p cf N false e sc iter && mG N sc fs g tg && mSs p cf N sc fs b ss
    | _ => false
  | .frzs _, _ => false
def mSs (p : Pg) (cf : Cf) (N : List Str) (sc : Scope) (fs : Str → Bool) : List MS → List Stmt → Bool
  | [], [] => true
  | m :: ms, ss => if isFrzv m = true then mSs p cf N sc fs ms ss else match ss with
    | s :: ss => mS p cf N sc fs m s && mSs p cf N sc fs ms ss
    | [] => false
  | [], _ :: _ => false
end
variable {E : En} {N : List Str} {sc : Scope} {fs : Str → Bool}
theorem setc_ok (G : Gok E) {i : Nat} {x : Str} {pn pos : Pos} {a : ME} {ea : Expr} (h1 : N[i]? = some x) (hw : swapB sc x pn ea = true) (hl : isLc a = true) (h : mE E.p E.cf N false a sc ea = true) : JS E N sc fs (.set i a) (.Assign [.Name x pn] ea pos) := by
  cases a with
  | lc obj elt g it cond own =>
    simp only [mE] at h
    split at h
    · rename_i eelt tg iter ifs as scope cpos
      simp only [Bool.and_eq_true, decide_eq_true_eq, List.all_eq_true] at h
      obtain ⟨⟨⟨⟨⟨⟨⟨⟨q1, q2⟩, q3⟩, q4⟩, q5⟩, q6⟩, q7⟩, q8⟩, q9⟩ := h
      subst q1
      exact js_setc h1 hw q2 (fun i hi => by simpa using q3 i hi) q4 q5 (mI_ok G it sc _ _ q6) (mG_ok g _ q7) (mC_ok G cond _ _ q8) (jx_e (mE_ok G elt false _ _ q9))
    · cases h
  | _ => cases hl
set_option maxHeartbeats 4000000 in
mutual
theorem mS_ok (G : Gok E) : ∀ (ms : MS) (st : Stmt), mS E.p E.cf N sc fs ms st = true → JS E N sc fs ms st
  | .ex a, s, h => by
    simp only [mS] at h
    split at h
    · rw [Bool.and_eq_true] at h
      exact js_ex h.1 (jx_e (mE_ok G a false sc _ h.2))
    · cases h
  | .ret a, s, h => by
    simp only [mS] at h
    split at h
    · exact js_ret (jx_e (mE_ok G a false sc _ h))
    · cases h
  | .retn, s, h => by
    simp only [mS] at h
    split at h
    · exact js_retn
    · cases h
  | .set i a, s, h => by
    simp only [mS] at h
    split at h
    · rename_i x pn ea _
      simp only [Bool.and_eq_true, decide_eq_true_eq, Bool.or_eq_true, Bool.not_eq_true'] at h
      obtain ⟨⟨⟨⟨h1, h2⟩, h3⟩, h4⟩, h5⟩ := h
      by_cases q : swapB sc x pn ea = false
      · exact js_set h1 h2 h3 q (jx_e (mE_ok G a false sc _ h5))
      · rcases h4 with h4 | h4
        · exact absurd h4 q
        · exact setc_ok G h1 (by simpa using q) h4 h5
    · cases h
  | .unp g a, s, h => by
    simp only [mS] at h
    split at h
    · simp only [Bool.and_eq_true] at h
      obtain ⟨⟨⟨⟨h1, h2⟩, h3⟩, h4⟩, h5⟩ := h
      exact js_unp h1 h2 h3 (mG_ok g _ h4) (jx_e (mE_ok G a false sc _ h5))
    · cases h
  | .setf o f a, s, h => by
    simp only [mS] at h
    split at h
    · simp only [Bool.and_eq_true, decide_eq_true_eq] at h
      obtain ⟨⟨⟨h1, h2⟩, h3⟩, h4⟩ := h
      subst h1
      rw [← G.att]
      exact js_setf G h2 (jx_e (mE_ok G o false sc _ h3)) (jx_e (mE_ok G a false sc _ h4))
    · cases h
  | .seti o i a, s, h => by
    simp only [mS] at h
    split at h
    · simp only [Bool.and_eq_true] at h
      obtain ⟨⟨⟨h1, h2⟩, h3⟩, h4⟩ := h
      exact js_seti h1 (jx_e (mE_ok G o false sc _ h2)) (jx_e (mE_ok G i false sc _ h3)) (jx_e (mE_ok G a false sc _ h4))
    · cases h
  | .setsl o i k a, s, h => by
    simp only [mS] at h
    split at h
    · simp only [Bool.and_eq_true] at h
      obtain ⟨⟨⟨h2, h3⟩, h4⟩, h5⟩ := h
      exact js_setsl (jx_e (mE_ok G o false sc _ h2)) (jx_e (mE_ok G i false sc _ h3)) (jx_e (mE_ok G k false sc _ h4)) (jx_e (mE_ok G a false sc _ h5))
    · cases h
  | .aug i o a, s, h => by
    simp only [mS] at h
    split at h
    · simp only [Bool.and_eq_true, decide_eq_true_eq] at h
      obtain ⟨⟨⟨⟨h1, h2⟩, h3⟩, h4⟩, h5⟩ := h
      subst h1
      exact js_aug h2 h3 h4 (jx_e (mE_ok G a false sc _ h5))
    · cases h
  | .augf o f op a, s, h => by
    simp only [mS] at h
    split at h
    · simp only [Bool.and_eq_true, decide_eq_true_eq] at h
      obtain ⟨⟨⟨⟨⟨⟨h1, h2⟩, h3⟩, h4⟩, h5⟩, h6⟩, h7⟩ := h
      subst h1
      subst h2
      rw [← G.att]
      exact js_augf G h4 h3 h5 (jx_e (mE_ok G o false sc _ h6)) (jx_e (mE_ok G a false sc _ h7))
    · cases h
  | .augi o i op a, s, h => by
    simp only [mS] at h
    split at h
    · simp only [Bool.and_eq_true, decide_eq_true_eq] at h
      obtain ⟨⟨⟨⟨⟨h1, h2⟩, h3⟩, h4⟩, h5⟩, h6⟩ := h
      subst h1
      exact js_augi h2 h3 (jx_e (mE_ok G o false sc _ h4)) (jx_e (mE_ok G i false sc _ h5)) (jx_e (mE_ok G a false sc _ h6))
    · cases h
  | .ite k a b, s, h => by
    simp only [mS] at h
    split at h
    · simp only [Bool.and_eq_true] at h
      obtain ⟨⟨h1, h2⟩, h3⟩ := h
      exact js_ite (jx_t (mE_ok G k true sc _ h1)) (mSs_ok G a _ h2) (mSs_ok G b _ h3)
    · cases h
  | .for_ g it b, s, h => by
    simp only [mS] at h
    split at h
    · simp only [Bool.and_eq_true] at h
      obtain ⟨⟨⟨h1, h2⟩, h3⟩, h4⟩ := h
      exact js_for h1 (mI_ok G it sc _ _ h2) (mG_ok g _ h3) (mSs_ok G b _ h4)
    · cases h
  | .dput o i a, s, h => by
    simp only [mS] at h
    split at h
    · simp only [Bool.and_eq_true] at h
      obtain ⟨⟨h1, h2⟩, h3⟩ := h
      exact js_dput (jx_e (mE_ok G o false sc _ h1)) (jx_e (mE_ok G i false sc _ h2)) (jx_e (mE_ok G a false sc _ h3))
    · cases h
  | .forP g e b, s, h => by
    simp only [mS] at h
    split at h
    · simp only [Bool.and_eq_true] at h
      obtain ⟨⟨⟨⟨h0, h1⟩, h2⟩, h3⟩, h4⟩ := h
      exact js_forP h0 h1 (jx_e (mE_ok G e false sc _ h2)) (mG_ok g _ h3) (mSs_ok G b _ h4)
    · cases h
  | .while_ n k b, s, h => by
    simp only [mS] at h
    split at h
    · simp only [Bool.and_eq_true] at h
      exact js_while (jx_t (mE_ok G k true sc _ h.1)) (mSs_ok G b _ h.2)
    · cases h
  | .brk, s, h => by
    simp only [mS] at h
    split at h
    · exact js_brk
    · cases h
  | .cont, s, h => by
    simp only [mS] at h
    split at h
    · exact js_cont
    · cases h
  | .pass, s, h => by
    simp only [mS] at h
    split at h
    · exact js_pass
    · cases h
  | .no, s, h => js_no
  | .lks o m, s, h => by
    simp only [mS] at h
    exact js_lks (mS_ok G m s h)
  | .augd o i op a, s, h => by
    simp only [mS] at h
    split at h
    · simp only [Bool.and_eq_true, decide_eq_true_eq] at h
      obtain ⟨⟨⟨⟨⟨h1, h2⟩, h3⟩, h4⟩, h5⟩, h6⟩ := h
      subst h1
      exact js_augd h2 h3 (jx_e (mE_ok G o false sc _ h4)) (jx_e (mE_ok G i false sc _ h5)) (jx_e (mE_ok G a false sc _ h6))
    · cases h
  | .rse j, s, h => by
    simp only [mS] at h
    split at h
    · simp only [Bool.and_eq_true, decide_eq_true_eq] at h
      exact js_rse G h.1.1 h.1.2 h.2
    · cases h
  | .rsp j a, s, h => by
    simp only [mS] at h
    split at h
    · simp only [Bool.and_eq_true, decide_eq_true_eq] at h
      obtain ⟨⟨⟨⟨h1, h2⟩, h3⟩, h4⟩, h5⟩ := h
      exact js_rsp G h1 h2 h3 h4 (jx_e (mE_ok G a false sc _ h5))
    · cases h
  | .try_ b j nm hs, s, h => by
    simp only [mS] at h
    split at h
    · simp only [Bool.and_eq_true, decide_eq_true_eq] at h
      obtain ⟨⟨⟨⟨h1, h2⟩, h3⟩, h4⟩, h5⟩ := h
      split at h3
      · exact js_try G h1 h2 (mSs_ok G b _ h4) (xmHSs_ok G hs _ h5)
      · simp only [Bool.and_eq_true, decide_eq_true_eq] at h3
        exact js_try_as G h3.1 h3.2 h1 h2 (mSs_ok G b _ h4) (xmHSs_ok G hs _ h5)
      · cases h3
    · cases h
  | .frzv _, s, h => by
    simp [mS] at h
  | .frzs _, s, h => by
    simp [mS] at h
theorem mSs_ok (G : Gok E) : ∀ (ms : List MS) (sts : List Stmt), mSs E.p E.cf N sc fs ms sts = true → JSs E N sc fs ms sts
  | [], [], _ => jss_nil
  | [], _ :: _, h => by simp [mSs] at h
  | m :: ms, ss, h => by
    have h : (if isFrzv m = true then mSs E.p E.cf N sc fs ms ss else match ss with
      | s :: ss => mS E.p E.cf N sc fs m s && mSs E.p E.cf N sc fs ms ss
      | [] => false) = true := by
      cases ss <;> simpa only [mSs] using h
    by_cases q : isFrzv m = true
    · rw [if_pos q] at h
      cases m <;> first | exact jss_frzv (mSs_ok G ms ss h) | exact jss_frzs (mSs_ok G ms ss h) | cases q
    · rw [if_neg q] at h
      cases ss with
      | nil => cases h
      | cons s ss =>
        simp only [Bool.and_eq_true] at h
        exact jss_cons (mS_ok G m s h.1) (mSs_ok G ms ss h.2)
end
end R
namespace R
open PySem PySem.Spec PyProof.Rows L2
section
variable {g : Gm} {w w1 w2 : Wd} {H H1 : Hp} {m m1 : Mm}
mutual
theorem Rv.nr (le : ∀ a o, w1.F a = some o → w2.F a = some o) : ∀ {d : D} {v : V}, R.nr d = true → Rv g w1 d v → Rv g w2 d v
  | _, _, _, .non => .non
  | _, _, _, .bl b => .bl b
  | _, _, _, .int i => .int i
  | _, _, _, .str x => .str x
  | _, _, h, .tup q r => .tup (tupS_mono le q) (Rvs.nr le (by simpa [R.nr] using h) r)
  | _, _, h, .pr q r r2 => .pr (sqT_mono le q) (Rv.nr le (by have h := (Bool.and_eq_true _ _).mp (by simpa only [R.nr] using h); exact h.1) r) (Rv.nr le (by have h := (Bool.and_eq_true _ _).mp (by simpa only [R.nr] using h); exact h.2) r2)
  | _, _, h, .lst q r => .lst (le _ _ q) (Rvs.nr le (by simpa [R.nr] using h) r)
  | _, _, h, .scr q r => .scr (sqL_mono le q) (Rvs.nr le (by simpa [R.nr] using h) r)
  | _, _, h, .dct q r => .dct (le _ _ q) (Rkv.nr le (by simpa [R.nr] using h) r)
  | _, _, h, .ins hc q r => .ins hc (le _ _ q) (Rfs.nr le (by simpa [R.nr] using h) r)
  | _, _, h, .ref _ _ => by simp [R.nr] at h
theorem Rvs.nr (le : ∀ a o, w1.F a = some o → w2.F a = some o) : ∀ {d : List D} {v : List V}, nrs d = true → Rvs g w1 d v → Rvs g w2 d v
  | _, _, _, .nil => .nil
  | _, _, h, .cons q r => by
    simp only [nrs, Bool.and_eq_true] at h
    exact .cons (Rv.nr le h.1 q) (Rvs.nr le h.2 r)
theorem Rkv.nr (le : ∀ a o, w1.F a = some o → w2.F a = some o) : ∀ {d : List (Key × D)} {v : List (Key × V)}, nrk d = true → Rkv g w1 d v → Rkv g w2 d v
  | _, _, _, .nil => .nil
  | _, _, h, .cons q r => by
    simp only [nrk, Bool.and_eq_true] at h
    exact .cons (Rv.nr le h.1 q) (Rkv.nr le h.2 r)
theorem Rfs.nr (le : ∀ a o, w1.F a = some o → w2.F a = some o) : ∀ {d : List (Nat × D)} {v : List (Str × V)}, nrf d = true → Rfs g w1 d v → Rfs g w2 d v
  | _, _, _, .nil => .nil
  | _, _, h, .cons q r => by
    simp only [nrf, Bool.and_eq_true] at h
    exact .cons (Rv.nr le h.1 q) (Rfs.nr le h.2 r)
end
theorem mapM_rel {α β γ : Type} {R1 : α → γ → Prop} {R2 : β → γ → Prop} {f : α → Option β} (hf : ∀ x v y, R1 x v → f x = some y → R2 y v) : ∀ {xs : List α} {vs : List γ} {ys : List β}, Paired R1 xs vs → xs.mapM f = some ys → Paired R2 ys vs := by
  intro xs
  induction xs with
  | nil =>
    intro vs ys r e
    cases r
    simp at e
    subst e
    exact .nil
  | cons x xs ih =>
    intro vs ys r e
    cases r with
    | cons r1 rr =>
      rw [List.mapM_cons] at e
      cases e1 : f x with
      | none => rw [e1] at e; simp at e
      | some y =>
        cases e2 : xs.mapM f with
        | none => rw [e1, e2] at e; simp at e
        | some ys' =>
          rw [e1, e2] at e
          simp at e
          subst e
          exact .cons (hf _ _ _ r1 e1) (ih rr e2)
/-- the lists, dicts, instances of a memory stand for good -/
def New (w1 w2 : Wd) (H1 : Hp) (m1 : Mm) : Prop := ∀ k o u, m1[k]? = some o → o.live → H1 (w1.ρ k) = some u → w2.F (w1.ρ k) = some u
theorem rsv_rel (M : Mem g w1 H1 m1) (fr : ∀ a o, w1.F a = some o → w2.F a = some o) (nw : New w1 w2 H1 m1) : ∀ (k : Nat) (d : D) (v : V) (d' : D), Rv g w1 d v → rsv m1 k d = some d' → Rv g w2 d' v := by
  intro k
  induction k with
  | zero => intro d v d' r e; simp [rsv] at e
  | succ k ih =>
    intro d v d' r e
    have lists : ∀ (xs : List D) (vs : List V) ys, Rvs g w1 xs vs → xs.mapM (rsv m1 k) = some ys → Rvs g w2 ys vs := fun xs vs ys r e => .ofPair (mapM_rel (fun x v y r e => ih x v y r e) r.pair e)
    have flds : ∀ (xs : List (Nat × D)) (vs : List (Str × V)) ys, Rfs g w1 xs vs → xs.mapM (fun p => (rsv m1 k p.2).map fun d => (p.1, d)) = some ys → Rfs g w2 ys vs := fun xs vs ys r e => .ofPair (mapM_rel (R1 := Rf1 g w1) (R2 := Rf1 g w2) (fun x v y r e => by
      rw [Option.map_eq_some_iff] at e
      obtain ⟨d1, e1, e2⟩ := e
      cases e2
      exact ⟨r.1, ih _ _ _ r.2 e1⟩) r.pair e)
    have kvs : ∀ (xs : List (Key × D)) (vs : List (Key × V)) ys, Rkv g w1 xs vs → xs.mapM (fun p => (rsv m1 k p.2).map fun d => (p.1, d)) = some ys → Rkv g w2 ys vs := fun xs vs ys r e => .ofPair (mapM_rel (R1 := Rk1 g w1) (R2 := Rk1 g w2) (fun x v y r e => by
      rw [Option.map_eq_some_iff] at e
      obtain ⟨d1, e1, e2⟩ := e
      cases e2
      exact ⟨r.1, ih _ _ _ r.2 e1⟩) r.pair e)
    simp only [rsv] at e
    by_cases hn : R.nr d = true
    · rw [if_pos hn] at e
      cases e
      exact r.nr fr hn
    rw [if_neg hn] at e
    cases r with
    | non => cases e
    | pr h r r2 => cases e
    | bl b => cases e
    | int i => cases e
    | str x => cases e
    | tup h r =>
      simp only [Option.map_eq_some_iff] at e
      obtain ⟨ys, e1, rfl⟩ := e
      exact .tup (tupS_mono fr h) (lists _ _ _ r e1)
    | lst h r =>
      simp only [Option.map_eq_some_iff] at e
      obtain ⟨ys, e1, rfl⟩ := e
      exact .lst (fr _ _ h) (lists _ _ _ r e1)
    | scr h r =>
      simp only [Option.map_eq_some_iff] at e
      obtain ⟨ys, e1, rfl⟩ := e
      exact .scr (sqL_mono fr h) (lists _ _ _ r e1)
    | ins hc h r =>
      simp only [Option.map_eq_some_iff] at e
      obtain ⟨ys, e1, rfl⟩ := e
      exact .ins hc (fr _ _ h) (flds _ _ _ r e1)
    | dct h r =>
      simp only [Option.map_eq_some_iff] at e
      obtain ⟨ys, e1, rfl⟩ := e
      exact .dct (fr _ _ h) (kvs _ _ _ r e1)
    | ref n hn =>
      dsimp only at e
      split at e
      · rename_i xs en
        rw [Option.map_eq_some_iff] at e
        obtain ⟨ys, e1, rfl⟩ := e
        obtain ⟨vs, hv, rv⟩ := M.ob n _ en
        exact .lst (nw n _ _ en trivial hv) (lists _ _ _ rv e1)
      · rename_i C xs en
        rw [Option.map_eq_some_iff] at e
        obtain ⟨ys, e1, rfl⟩ := e
        obtain ⟨hc, dx, vs, hv, rv⟩ := M.ob n _ en
        exact .ins hc (nw n _ _ en trivial hv) (flds _ _ _ rv e1)
      · rename_i xs en
        rw [Option.map_eq_some_iff] at e
        obtain ⟨ys, e1, rfl⟩ := e
        obtain ⟨vs, hv, rv⟩ := M.ob n _ en
        exact .dct (nw n _ _ en trivial hv) (kvs _ _ _ rv e1)
      · cases e
theorem own_rel (M : Mem g w1 H1 m1) (fr : ∀ a xs, TupS g.K w1.F a xs → TupS g.K w2.F a xs) (nw : New w1 w2 H1 m1) : ∀ (k : Nat) (d : D) (v : V) (d' : D), Rv g w1 d v → own m1 k d = some d' → Rv g w2 d' v := by
  intro k
  induction k with
  | zero => intro d v d' r e; simp [own] at e
  | succ k ih =>
    intro d v d' r e
    have lists : ∀ (xs : List D) (vs : List V) ys, Rvs g w1 xs vs → xs.mapM (own m1 k) = some ys → Rvs g w2 ys vs := fun xs vs ys r e => .ofPair (mapM_rel (fun x v y r e => ih x v y r e) r.pair e)
    have flds : ∀ (xs : List (Nat × D)) (vs : List (Str × V)) ys, Rfs g w1 xs vs → xs.mapM (fun p => (own m1 k p.2).map fun d => (p.1, d)) = some ys → Rfs g w2 ys vs := fun xs vs ys r e => .ofPair (mapM_rel (R1 := Rf1 g w1) (R2 := Rf1 g w2) (fun x v y r e => by
      rw [Option.map_eq_some_iff] at e
      obtain ⟨d1, e1, e2⟩ := e
      cases e2
      exact ⟨r.1, ih _ _ _ r.2 e1⟩) r.pair e)
    have kvs : ∀ (xs : List (Key × D)) (vs : List (Key × V)) ys, Rkv g w1 xs vs → xs.mapM (fun p => (own m1 k p.2).map fun d => (p.1, d)) = some ys → Rkv g w2 ys vs := fun xs vs ys r e => .ofPair (mapM_rel (R1 := Rk1 g w1) (R2 := Rk1 g w2) (fun x v y r e => by
      rw [Option.map_eq_some_iff] at e
      obtain ⟨d1, e1, e2⟩ := e
      cases e2
      exact ⟨r.1, ih _ _ _ r.2 e1⟩) r.pair e)
    simp only [own] at e
    cases r with
    | non => cases e; exact .non
    | pr h r r2 => cases e
    | bl b => cases e; exact .bl b
    | int i => cases e; exact .int i
    | str x => cases e; exact .str x
    | tup h r =>
      simp only [Option.map_eq_some_iff] at e
      obtain ⟨ys, e1, rfl⟩ := e
      exact .tup (fr _ _ h) (lists _ _ _ r e1)
    | lst h r => cases e
    | scr h r => cases e
    | ins hc h r => cases e
    | dct h r => cases e
    | ref n hn =>
      dsimp only at e
      split at e
      · rename_i xs en
        rw [Option.map_eq_some_iff] at e
        obtain ⟨ys, e1, rfl⟩ := e
        obtain ⟨vs, hv, rv⟩ := M.ob n _ en
        exact .lst (nw n _ _ en trivial hv) (lists _ _ _ rv e1)
      · rename_i C xs en
        rw [Option.map_eq_some_iff] at e
        obtain ⟨ys, e1, rfl⟩ := e
        obtain ⟨hc, dx, vs, hv, rv⟩ := M.ob n _ en
        exact .ins hc (nw n _ _ en trivial hv) (flds _ _ _ rv e1)
      · rename_i xs en
        rw [Option.map_eq_some_iff] at e
        obtain ⟨ys, e1, rfl⟩ := e
        obtain ⟨vs, hv, rv⟩ := M.ob n _ en
        exact .dct (nw n _ _ en trivial hv) (kvs _ _ _ rv e1)
      · cases e
/-- where a memory's live things stand -/
def LA (w : Wd) (m : Mm) (a : Addr) : Prop := ∃ k o, m[k]? = some o ∧ O.live o ∧ w.ρ k = a
open Classical in
noncomputable def ovl (F : Hp) (w : Wd) (H : Hp) (m : Mm) : Hp := fun a => if LA w m a then H a else F a
open Classical in
noncomputable def cut (F : Hp) (w : Wd) (m : Mm) : Hp := fun a => if LA w m a then none else F a
theorem ovl_la {F : Hp} {a : Addr} (h : LA w m a) : ovl F w H m a = H a := if_pos h
theorem ovl_off {F : Hp} {a : Addr} (h : ¬ LA w m a) : ovl F w H m a = F a := if_neg h
theorem cut_la {F : Hp} {a : Addr} (h : LA w m a) : cut F w m a = none := if_pos h
theorem cut_off {F : Hp} {a : Addr} (h : ¬ LA w m a) : cut F w m a = F a := if_neg h
theorem Mem.notF (M : Mem g w H m) {a : Addr} {o : HO} (h : w.F a = some o) : ¬ LA w m a := fun ⟨k, u, e, l, z⟩ => by
  have q := M.nf k u e l
  rw [z, h] at q; cases q
theorem Mem.notG (M : Mem g w H m) {a : Addr} {o : HO} (h : w.G a = some o) : ¬ LA w m a := fun ⟨k, u, e, l, z⟩ => by
  have q := M.ng k u e l
  rw [z, h] at q; cases q
theorem Mem.some_of (M : Mem g w H m) {a : Addr} (h : LA w m a) : ∃ u, H a = some u ∧ w.F a = none ∧ w.G a = none := by
  obtain ⟨k, o, e, l, rfl⟩ := h
  obtain ⟨u, hu⟩ := M.at e (O.held_of l)
  exact ⟨u, hu, M.nf k o e l, M.ng k o e l⟩
theorem Mem.kept (M : Mem g w H m) {w3 : Wd} {H3 : Hp} (hr : w3.ρ = w.ρ) (hl : w3.len = w.len) (hF : ∀ a o, w.F a = some o → w3.F a = some o) (k : ∀ a, LA w m a → H3 a = H a) (hG : ∀ a o, w.G a = some o → w3.G a = some o) {n : Nat} {o : O} (e : m[n]? = some o) : ObR g w3 H3 n o := by
  have lf : w.lf w3 := ⟨hF, by rw [hl]; exact Nat.le_refl _, fun n _ => by rw [hr]⟩
  cases o with
  | dead => trivial
  | ldct kvs =>
    obtain ⟨od, vs, q, r⟩ := M.ob n _ e
    exact ⟨od, vs, by rw [hr]; exact hG _ _ q, r.mono' lf⟩
  | llst xs =>
    obtain ⟨od, vs, q, r⟩ := M.ob n _ e
    exact ⟨od, vs, by rw [hr]; exact hG _ _ q, r.mono' lf⟩
  | ltct xs =>
    obtain ⟨od, vs, q, r⟩ := M.ob n _ e
    exact ⟨od, vs, by rw [hr]; exact hG _ _ q, r.mono' lf⟩
  | _ => exact (M.ob n _ e).keep lf (M.lt e) (fun u h => by rw [k _ ⟨n, _, e, trivial, rfl⟩]; exact h) (fun od x h => hG _ _ h)
/-- no id is handed over -/
noncomputable def w0b (w : Wd) (H : Hp) (m : Mm) : Wd := ⟨w.F, w.ρ, 0, ovl w.G w H m⟩
noncomputable def w3b (w w1 : Wd) (H1 : Hp) (m1 : Mm) : Wd := ⟨ovl w1.F w1 H1 m1, w.ρ, w.len, w.G⟩
theorem mem_0b (M : Mem g w H m) : Mem g (w0b w H m) H [] := by
  refine ⟨M.fr, rfl, fun n o e => by simp at e, fun n o e => by simp at e, fun n k o u e => by simp at e, fun a o e => ?_, fun n o e => by simp at e, fun a o e => ?_⟩
  · have e : ovl w.G w H m a = some o := e
    by_cases q : LA w m a
    · rw [ovl_la q] at e; exact e
    · rw [ovl_off q] at e; exact M.gr a o e
  · have e : ovl w.G w H m a = some o := e
    show w.F a = none
    by_cases q : LA w m a
    · exact (M.some_of q).choose_spec.2.1
    · rw [ovl_off q] at e; exact M.gf a o e
theorem mem_3b (M : Mem g w H m) (le : (w0b w H m).le w1) (M1 : Mem g w1 H1 m1) : w.le (w3b w w1 H1 m1) ∧ Mem g (w3b w w1 H1 m1) H1 m ∧ (∀ a o, w1.F a = some o → (w3b w w1 H1 m1).F a = some o) ∧ New w1 (w3b w w1 H1 m1) H1 m1 := by
  have fr : ∀ a o, w1.F a = some o → (w3b w w1 H1 m1).F a = some o := fun a o h => by
    show ovl w1.F w1 H1 m1 a = some o
    rw [ovl_off (M1.notF h)]; exact h
  have gG : ∀ a o, w.G a = some o → w1.G a = some o := fun a o h => le.gr a o (by
    show ovl w.G w H m a = some o
    rw [ovl_off (M.notG h)]; exact h)
  have gL : ∀ a, LA w m a → w1.G a = H a ∧ H1 a = H a ∧ ∃ u, w1.G a = some u := fun a h => by
    obtain ⟨u, hu, _⟩ := M.some_of h
    have q : w1.G a = some u := le.gr a u (by
      show ovl w.G w H m a = some u
      rw [ovl_la h]; exact hu)
    exact ⟨by rw [q, hu], by rw [M1.gr a u q, hu], u, q⟩
  have no3 : ∀ a u, w1.G a = some u → (w3b w w1 H1 m1).F a = none := fun a u h => by
    show ovl w1.F w1 H1 m1 a = none
    rw [ovl_off (M1.notG h)]; exact M1.gf a u h
  have hF : ∀ a o, w.F a = some o → (w3b w w1 H1 m1).F a = some o := fun a o h => fr a o (le.fr a o h)
  refine ⟨⟨⟨hF, Nat.le_refl _, fun _ _ => rfl⟩, fun _ _ h => h⟩, ⟨fun a o h => ?_, M.len, fun n o e => M.kept (w3 := w3b w w1 H1 m1) rfl rfl hF (fun a h => (gL a h).2.1) (fun _ _ h => h) e, fun n o e l => ?_, M.inj, fun a o h => M1.gr a o (gG a o h), M.ng, fun a o h => no3 a o (gG a o h)⟩, fr, fun k o u e l h => ?_⟩
  · have h : ovl w1.F w1 H1 m1 a = some o := h
    by_cases q : LA w1 m1 a
    · rw [ovl_la q] at h; exact h
    · rw [ovl_off q] at h; exact M1.fr a o h
  · obtain ⟨_, _, u, q⟩ := gL _ ⟨n, o, e, l, rfl⟩
    exact no3 _ u q
  · show ovl w1.F w1 H1 m1 (w1.ρ k) = some u
    rw [ovl_la ⟨k, o, e, l, rfl⟩]; exact h
/-- ids are handed over, as frozen things -/
noncomputable def w0c (w : Wd) (H : Hp) (m : Mm) : Wd := ⟨ovl w.F w H m, w.ρ, 0, w.G⟩
noncomputable def w3c (w w1 : Wd) (m : Mm) (H1 : Hp) (m1 : Mm) : Wd := ⟨cut (ovl w1.F w1 H1 m1) w m, w.ρ, w.len, w.G⟩
theorem fr_0c (M : Mem g w H m) : ∀ a o, w.F a = some o → (w0c w H m).F a = some o := fun a o h => by
  show ovl w.F w H m a = some o
  rw [ovl_off (M.notF h)]; exact h
theorem new_0c : New w (w0c w H m) H m := fun k o u e l h => by
  show ovl w.F w H m (w.ρ k) = some u
  rw [ovl_la ⟨k, o, e, l, rfl⟩]; exact h
theorem mem_0c (M : Mem g w H m) : Mem g (w0c w H m) H [] := by
  refine ⟨fun a o e => ?_, rfl, fun n o e => by simp at e, fun n o e => by simp at e, fun n k o u e => by simp at e, M.gr, fun n o e => by simp at e, fun a o e => ?_⟩
  · have e : ovl w.F w H m a = some o := e
    by_cases q : LA w m a
    · rw [ovl_la q] at e; exact e
    · rw [ovl_off q] at e; exact M.fr a o e
  · show ovl w.F w H m a = none
    rw [ovl_off (M.notG e)]; exact M.gf a o e
theorem mem_3c (M : Mem g w H m) (le : (w0c w H m).le w1) (M1 : Mem g w1 H1 m1) : w.le (w3c w w1 m H1 m1) ∧ Mem g (w3c w w1 m H1 m1) H1 m ∧ (∀ a xs, TupS g.K w1.F a xs → TupS g.K (w3c w w1 m H1 m1).F a xs) ∧ New w1 (w3c w w1 m H1 m1) H1 m1 ∧ ∀ a fs, w1.F a = some (.xd fs) → (w3c w w1 m H1 m1).F a = some (.xd fs) := by
  have fL : ∀ a, LA w m a → ∃ u, H a = some u ∧ w1.F a = some u ∧ H1 a = some u := fun a h => by
    obtain ⟨u, hu, _⟩ := M.some_of h
    have q : w1.F a = some u := le.fr a u (by
      show ovl w.F w H m a = some u
      rw [ovl_la h]; exact hu)
    exact ⟨u, hu, q, M1.fr a u q⟩
  have fr : ∀ a o, w1.F a = some o → ¬ LA w m a → (w3c w w1 m H1 m1).F a = some o := fun a o h n => by
    show cut (ovl w1.F w1 H1 m1) w m a = some o
    rw [cut_off n, ovl_off (M1.notF h)]; exact h
  have hF : ∀ a o, w.F a = some o → (w3c w w1 m H1 m1).F a = some o := fun a o h => fr a o (le.fr a o (fr_0c M a o h)) (M.notF h)
  have kd : ∀ a u, LA w m a → H a = some u → (∀ xs, u ≠ .tup xs) ∧ (∀ o x, u ≠ .frz o x) ∧ ∀ fs, u ≠ .xd fs := fun a u ⟨k, o, e, l, z⟩ hu => by
    have q := M.ob k o e
    rw [← z] at hu
    cases o with
    | lst xs =>
      obtain ⟨vs, q, _⟩ := q
      rw [q] at hu
      cases hu
      exact ⟨fun _ z => (nomatch z), fun _ _ z => (nomatch z), fun _ z => (nomatch z)⟩
    | dct xs =>
      obtain ⟨vs, q, _⟩ := q
      rw [q] at hu
      cases hu
      exact ⟨fun _ z => (nomatch z), fun _ _ z => (nomatch z), fun _ z => (nomatch z)⟩
    | tct xs =>
      obtain ⟨vs, q, _⟩ := q
      rw [q] at hu
      cases hu
      exact ⟨fun _ z => (nomatch z), fun _ _ z => (nomatch z), fun _ z => (nomatch z)⟩
    | ins C fs =>
      obtain ⟨_, _, vs, q, _⟩ := q
      rw [q] at hu
      cases hu
      exact ⟨fun _ z => (nomatch z), fun _ _ z => (nomatch z), fun _ z => (nomatch z)⟩
    | dead => exact l.elim
    | ldct kvs => exact l.elim
    | llst xs => exact l.elim
    | ltct xs => exact l.elim
  refine ⟨⟨⟨hF, Nat.le_refl _, fun _ _ => rfl⟩, fun _ _ h => h⟩, ⟨fun a o h => ?_, M.len, fun n o e => M.kept (w3 := w3c w w1 m H1 m1) rfl rfl hF (fun a h => ?_) (fun _ _ h => h) e, fun n o e l => ?_, M.inj, fun a o h => M1.gr a o (le.gr a o h), M.ng, fun a o h => ?_⟩, fun a xs h => ?_, fun k o u e l h => ?_, fun a fs h => fr a _ h fun n => ?_⟩
  · have h : cut (ovl w1.F w1 H1 m1) w m a = some o := h
    by_cases n : LA w m a
    · rw [cut_la n] at h; cases h
    rw [cut_off n] at h
    by_cases q : LA w1 m1 a
    · rw [ovl_la q] at h; exact h
    · rw [ovl_off q] at h; exact M1.fr a o h
  · obtain ⟨u, h1, _, h2⟩ := fL a h
    rw [h1, h2]
  · show cut (ovl w1.F w1 H1 m1) w m (w.ρ n) = none
    exact cut_la ⟨n, o, e, l, rfl⟩
  · show cut (ovl w1.F w1 H1 m1) w m a = none
    have h1 := le.gr a o h
    rw [cut_off (M.notG h), ovl_off (M1.notG h1)]; exact M1.gf a o h1
  · skip
    rcases h with ⟨o, h, hd⟩ | h
    · refine .inl ⟨o, fr a _ h fun n => ?_, hd⟩
      obtain ⟨u, h1, h2, _⟩ := fL a n
      rw [h] at h2
      cases h2
      exact (kd _ _ n h1).2.1 _ _ rfl
    · exact .inr h
  · have n : ¬ LA w m (w1.ρ k) := fun n => by
      obtain ⟨v, _, h2, _⟩ := fL _ n
      rw [M1.nf k o e l] at h2; cases h2
    show cut (ovl w1.F w1 H1 m1) w m (w1.ρ k) = some u
    rw [cut_off n, ovl_la ⟨k, o, e, l, rfl⟩]; exact h
  · obtain ⟨u, h1, h2, _⟩ := fL a n
    rw [h] at h2
    cases h2
    exact (kd _ _ n h1).2.2 _ rfl
end
theorem fin_ok {g : Gm} {w : Wd} {m : Mm} {Q : VK} {xk : XK} {r : Res Sx Fl} (h : Post (Rv g) g w xk Q (fin r)) :
    PostS g w (fun cls d _ H => xk cls d H) { nx := fun _ H' => Q .non H', rt := Q } r := by
  cases r with
  | ok f s =>
    cases f with
    | nx => exact fun w' σ' H' le M' S => h w' .non H' le M' .non
    | bk => exact absurd h id
    | ct => exact absurd h id
    | rt d => exact fun w' v H' le M' rv => h w' v H' le M' rv
  | exn C p s => exact fun w' σ' cls dx H' le M' S x => h w' cls dx H' le M' x
  | bad => exact absurd h id
theorem finb_ok {g : Gm} {w : Wd} {H : Hp} {m : Mm} {Q : VK} {xk : XK} {r : Res Sx Fl} (M : Mem g w H m) (h : Post (Rv g) g w xk Q (finP true m r)) :
    PostS g (w0b w H m) (fun cls d _ H => xk cls d H) { nx := fun _ H' => Q .non H', rt := Q } r := by
  have done : ∀ (d d' : D) (s : Sx), rsv s.hp 9 d = some d' → Post (Rv g) g w xk Q (.ok d' m) → ∀ w' v H', (w0b w H m).le w' → Mem g w' H' s.hp → Rv g w' d v → Q v H' := by
    intro d d' s e h w' v H' le M' rv
    obtain ⟨le3, M3, fr, nw⟩ := mem_3b M le M'
    exact h _ v H' le3 M3 (rsv_rel M' fr nw 9 d v d' rv e)
  cases r with
  | ok f s =>
    cases f with
    | nx => exact fun w' σ' H' le M' S => done .non .non s (by simp [rsv, R.nr]) (by simpa [finP, rtD, rsv, R.nr] using h) w' .non H' le M' .non
    | bk => exact absurd h id
    | ct => exact absurd h id
    | rt d =>
      intro w' v H' le M' rv
      have h : Post (Rv g) g w xk Q (match rsv s.hp 9 d with | some d => .ok d m | none => .bad) := h
      cases e : rsv s.hp 9 d with
      | none => rw [e] at h; exact absurd h id
      | some d' => rw [e] at h; exact done d d' s e h w' v H' le M' rv
  | exn C p s =>
    intro w' σ' cls dx H' le M' S x
    obtain ⟨le3, M3, fr, nw⟩ := mem_3b M le M'
    exact h _ cls dx H' le3 M3 (x.to (fun a xs h => tupS_mono fr h) fun a fs h => fr a _ h)
  | bad => exact absurd h id
theorem finc_ok {g : Gm} {w : Wd} {H : Hp} {m : Mm} {Q : VK} {xk : XK} {r : Res Sx Fl} (M : Mem g w H m) (h : Post (Rv g) g w xk Q (finP false m r)) :
    PostS g (w0c w H m) (fun cls d _ H => xk cls d H) { nx := fun _ H' => Q .non H', rt := Q } r := by
  have done : ∀ (d d' : D) (s : Sx), own s.hp 9 d = some d' → Post (Rv g) g w xk Q (.ok d' m) → ∀ w' v H', (w0c w H m).le w' → Mem g w' H' s.hp → Rv g w' d v → Q v H' := by
    intro d d' s e h w' v H' le M' rv
    obtain ⟨le3, M3, fr, nw, fx⟩ := mem_3c M le M'
    exact h _ v H' le3 M3 (own_rel M' fr nw 9 d v d' rv e)
  cases r with
  | ok f s =>
    cases f with
    | nx => exact fun w' σ' H' le M' S => done .non .non s (by simp [own]) (by simpa [finP, rtD, own] using h) w' .non H' le M' .non
    | bk => exact absurd h id
    | ct => exact absurd h id
    | rt d =>
      intro w' v H' le M' rv
      have h : Post (Rv g) g w xk Q (match own s.hp 9 d with | some d => .ok d m | none => .bad) := h
      cases e : own s.hp 9 d with
      | none => rw [e] at h; exact absurd h id
      | some d' => rw [e] at h; exact done d d' s e h w' v H' le M' rv
  | exn C p s =>
    intro w' σ' cls dx H' le M' S x
    obtain ⟨le3, M3, fr, nw, fx⟩ := mem_3c M le M'
    exact h _ cls dx H' le3 M3 (x.to fr fx)
  | bad => exact absurd h id
theorem Slr.start {g : Gm} {w : Wd} {as : List D} {vs : List V} (r : Rvs g w as vs) (N : List Str) : Slr g w (as.map some ++ List.replicate (N.length - as.length) none) (L2.start N vs) := by
  unfold L2.start
  refine ⟨by simp [r.length], fun i d h => ?_⟩
  by_cases q : i < as.length
  · rw [List.getElem?_append_left (by simpa using q)] at h
    rw [List.getElem?_map] at h
    cases e : as[i]? with
    | none => rw [e] at h; cases h
    | some x =>
      rw [e] at h
      cases h
      obtain ⟨v, hv, rv⟩ := r.get e
      refine ⟨v, ?_, rv⟩
      rw [List.getElem?_append_left (by rw [List.length_map, ← r.length]; exact q), List.getElem?_map, hv]
      rfl
  · rw [List.getElem?_append_right (by simpa using Nat.le_of_not_lt q)] at h
    rw [List.getElem?_replicate] at h
    split at h <;> cases h
/-- a def as it stands: with defaults or without -/
def FunE (K : PySem.W.Frag) (x qual : Str) (st : Stmt) (fa : Addr) (dt : FuncData) : Prop := Fun K x qual st fa dt ∨ ∃ dvs kws, FunD K x qual (defArgs st) (defBody st) (defScope st) dvs kws fa dt
theorem FunE.okX {P : Program} {w : World} {K : PySem.W.Frag} {mg : Str → Option Value} {base : Heap} {x qual : Str} {st : Stmt} {f : Addr} {fd : FuncData} {N ps : List Str} {k : Nat} {sp : Sp} (F : FunE K x qual st f fd) (S : FnScope N ps (defScope st)) (len : ∀ vs H Q E, sp vs H Q E → vs.length = ps.length)
    (hbody : ∀ (cdv : Value) (A : Around) (outer : List Env) (s : Shared) (H : Hp) (vs : List V) (Q : VK) (E : XK), RoomG k (A.deeper (envOfC qual (defScope st) s.heap.objs.size f cdv)) → sp vs H Q E →
      ∃ t, PSs (cxOf (L2.CX P w) P w K mg base N qual (defScope st) f cdv A outer s H E) (defBody st) t ∧ t { nx := fun _ H' => Q .non H', rt := Q } (start N vs) H) : FnG P w K mg base (L2.CX P w) (k + 1) f fd ps sp := by
  rcases F with F | ⟨dvs, kws, F⟩
  · exact fun_okG F S len hbody
  · exact fund_okG F S len hbody
/-- what stands in a row for a def of R -/
structure DefX (p : Pg) (cf : Cf) (K : PySem.W.Frag) (f : Nat) (fa : Addr) (dt : FuncData) (ps : List Str) : Prop where
  ex : ∃ (fd : FD) (x qual : Str) (st : Stmt) (N : List Str), p.fns[f]? = some fd ∧ FunE K x qual st fa dt ∧ FnScope N ps (defScope st) ∧ N.length = fd.nl ∧ ps.length = fd.np ∧
    mSs p cf N (defScope st) (fun _ => true) fd.body (defBody st) = true
  bd : Binds K dt ps []
def DefR (p : Pg) (cf : Cf) (K : PySem.W.Frag) (f : Nat) (fa : Addr) : Prop := ∃ dt ps, DefX p cf K f fa dt ps
def DefRD (p : Pg) (cf : Cf) (K : PySem.W.Frag) (f : Nat) (fa : Addr) (dflt : List D) : Prop := ∃ dt ps, DefX p cf K f fa dt ps ∧ ∃ ds, Binds K dt ps ds ∧ Paired (CnOk K) dflt ds
def En.to (E : En) (n : Nat) : En := ⟨E.g, E.cf, E.p, callN E.p n, 2 * n, E.P, E.base⟩
/-- all that a row says, in R's words -/
structure Rok (E : En) : Prop where
  exn : ∀ j x, E.cf.xnl[j]? = some (some x) → j ∈ E.g.xs ∧ E.g.mg x = some (.ref (E.g.xad j)) ∧ (x == ("__debug__" : Str)) = false ∧ (j ≠ 1 → PySem.W.excIn E.g.K (E.g.xad j) bmVE "ValueError.__new__" = true)
  exc : ∀ j ∈ E.g.xs, XC E.g.K (E.g.xad j)
  exo : ∀ i j, i ∈ E.g.xs → j ∈ E.g.xs → PySem.W.subIn E.g.K (.ref (E.g.xad i)) (.ref (E.g.xad j)) = some (exSub i j)
  vae : E.g.mg "ValueError" = none
  rfd : ∀ j x, E.cf.rfn = some j → E.cf.xnl[j]? = some (some x) → RefOk E x (E.g.xad j)
  att : E.g.att = attOf E.cf.atl
  inj : ∀ a b, E.g.att a = E.g.att b → a = b
  blt : ∀ b : Bt, E.g.mg b.nm = none
  rng : E.g.mg "range" = none
  zip : E.g.mg "zip" = none
  enum : E.g.mg "enumerate" = none
  isi : E.g.mg "isinstance" = none
  bool : E.g.mg "bool" = none
  dic : E.g.mg "dict" = none
  con : ∀ (i : Nat) (x : Str) (d : D), E.cf.ctl[i]? = some (some x) → E.p.cns[i]? = some d → ∃ u, E.g.mg x = some u ∧ CnOk E.g.K d u
  fn : ∀ f x, E.cf.fnm f = some x → ∃ fa, E.g.mg x = some (.ref fa) ∧ PySem.W.keepIn E.g.K (.ref fa) = true ∧ DefR E.p E.cf E.g.K f fa
  cls : ∀ C, C < E.g.ncls → Cls E.g.K (E.g.cad C) ∧ ∀ f, f < E.cf.natt → NoAttr E.g.K (E.g.cad C) (E.g.att f)
  ncl : ∀ C cd, E.p.cls[C]? = some cd → C < E.g.ncls
  mth : ∀ C cd k f, E.p.cls[C]? = some cd → cd.meths.lookup k = some f → ∃ fa, Meth E.g.K (E.g.cad C) (E.cf.mnm k) fa ∧ DefR E.p E.cf E.g.K f fa
  mat : ∀ a k, E.g.att a ≠ E.cf.mnm k
  mkc : ∀ C cd x, E.p.cls[C]? = some cd → E.cf.cnm C = some x → ∃ fa, E.g.mg x = some (.ref (E.g.cad C)) ∧ Mk E.g.K (E.g.cad C) fa ∧ DefR E.p E.cf E.g.K cd.init fa
  mkd : ∀ C cd x, E.p.cls[C]? = some cd → E.cf.cnm C = some x → ∃ fa, E.g.mg x = some (.ref (E.g.cad C)) ∧ Mk E.g.K (E.g.cad C) fa ∧ DefRD E.p E.cf E.g.K cd.init fa cd.dflt
theorem cns_rv {g : Gm} : ∀ {dflt : List D} {ds : List Value}, Paired (CnOk g.K) dflt ds → ∃ vs, Vals vs ds ∧ ∀ w, Rvs g w dflt vs
  | _, _, .nil => ⟨[], .nil, fun _ => .nil⟩
  | _, _, .cons h r => by
    obtain ⟨v, h1, h2⟩ := h.rv
    obtain ⟨vs, h3, h4⟩ := cns_rv r
    exact ⟨v :: vs, .cons h1 h3, fun w => .cons (h2 w) (h4 w)⟩
theorem gok_of {E : En} (R : Rok E) (n : Nat) (h : ∀ f fa, DefR E.p E.cf E.g.K f fa → FnR (E.to n) f fa) (h' : ∀ f fa dt ps, DefX E.p E.cf E.g.K f fa dt ps → FnG E.P E.w E.g.K E.g.mg E.base (L2.CX E.P E.w) (2 * n) fa dt ps (spR (E.to n) f)) : Gok (E.to n) where
  exn := R.exn
  exc := R.exc
  exo := R.exo
  vae := R.vae
  rfd := R.rfd
  att := R.att
  inj := R.inj
  blt := R.blt
  rng := R.rng
  zip := R.zip
  enum := R.enum
  isi := R.isi
  bool := R.bool
  dic := R.dic
  con := R.con
  fn := fun f x e => let ⟨fa, h1, h2, h3⟩ := R.fn f x e; ⟨fa, h1, h2, h f fa h3⟩
  cls := R.cls
  ncl := R.ncl
  mth := fun C cd k f h1 h2 => let ⟨fa, h3, h4⟩ := R.mth C cd k f h1 h2; ⟨fa, h3, h f fa h4⟩
  mat := R.mat
  mkc := fun C cd x h1 h2 => let ⟨fa, h3, h4, h5⟩ := R.mkc C cd x h1 h2; ⟨fa, h3, h4, h _ fa h5⟩
  mkd := fun C cd x h1 h2 => let ⟨fa, h3, h4, dt, ps, h5, ds, h6, h7⟩ := R.mkd C cd x h1 h2
    let ⟨vs, h8, h9⟩ := cns_rv (g := E.g) h7
    ⟨fa, h3, h4, ⟨dt, ps, ds, vs, h6, h8, h9, h' _ fa dt ps h5⟩⟩
theorem room_uq {k : Nat} {A : Around} (r : RoomG k A) : A.units + 65 < cLine := by
  have := r.un
  omega
theorem def_step {E : En} {n f : Nat} {fa : Addr} {dt : FuncData} {ps : List Str} (hg : Gok (E.to n)) (h : DefX E.p E.cf E.g.K f fa dt ps) : FnG E.P E.w E.g.K E.g.mg E.base (L2.CX E.P E.w) (2 * (n + 1)) fa dt ps (spR (E.to (n + 1)) f) := by
  obtain ⟨fd, x, qual, st, N, hf, F, S, hN, hps, hm⟩ := h.ex
  have hL : ∀ {vs : List V} {H : Hp} {Q : VK} {xk : XK}, spR (E.to (n + 1)) f vs H Q xk → vs.length = ps.length := by
    rintro vs H Q xk ⟨w, m, as, M, r, h⟩
    have h : PostE E.g w xk Q (callN E.p (n + 1) f as m) := h
    simp only [callN, hf] at h
    by_cases q : as.length = fd.np
    · rw [← r.length, q, hps]
    · rw [if_neg q] at h; exact absurd h id
  refine F.okX (k := 2 * n + 1) S (fun vs H Q xk h => hL h) fun cdv A outer s H vs Q xk hr h => ?_
  have hl := hL h
  obtain ⟨w, m, as, M, r, h⟩ := h
  have h : PostE E.g w xk Q (callN E.p (n + 1) f as m) := h
  simp only [callN, hf] at h
  have q : as.length = fd.np := by rw [r.length, hl, hps]
  have e : ∀ as' : List D, as'.length = vs.length → N.length - as'.length = fd.nl - fd.np := fun as' e => by rw [hN, e, hl, hps]
  rw [if_pos q] at h
  refine ⟨_, mSs_ok (E := E.to n) hg fd.body (defBody st) hm _ (fun cls d _ H => xk cls d H) ⟨⟨⟨rfl, rfl, rfl, rfl, rfl, rfl, rfl, S.nd, room_uq hr⟩, hr, rfl⟩, rfl, takes_of rfl rfl rfl rfl, passes_of rfl, S.kind, rfl, rfl⟩, ?_⟩
  by_cases hp : fd.pure_ = true
  · rw [if_pos hp] at h
    by_cases hn : nrs as = true
    · rw [if_pos hn] at h
      have r0 : Rvs E.g (w0b w H m) as vs := Rvs.nr (w1 := w) (w2 := w0b w H m) (fun _ _ h => h) hn r
      refine ⟨w0b w H m, _, [], mem_0b M, Slr.start r0 N, ?_⟩
      rw [e as r0.length]
      exact finb_ok M h
    · rw [if_neg hn] at h
      cases z : as.mapM (rsv m 9) with
      | none => rw [z] at h; exact absurd h id
      | some as' =>
        rw [z] at h
        have r0 : Rvs E.g (w0c w H m) as' vs := .ofPair (mapM_rel (fun x v y r e => rsv_rel M (fr_0c M) new_0c 9 x v y r e) r.pair z)
        refine ⟨w0c w H m, _, [], mem_0c M, Slr.start r0 N, ?_⟩
        rw [e as' r0.length]
        exact finc_ok M h
  · rw [if_neg hp] at h
    refine ⟨w, _, m, M, Slr.start r N, ?_⟩
    rw [e as r.length]
    exact fin_ok (m := m) h
theorem def_ok {E : En} (R : Rok E) : ∀ (n f : Nat) (fa : Addr) (dt : FuncData) (ps : List Str), DefX E.p E.cf E.g.K f fa dt ps → FnG E.P E.w E.g.K E.g.mg E.base (L2.CX E.P E.w) (2 * n) fa dt ps (spR (E.to n) f)
  | 0, f, fa, dt, ps, h => by
    refine ⟨fun vs H Q xk h => ?_, fun A outer s H args us vs Q xk hr e0 hb r h => ?_⟩
    · obtain ⟨w, m, as, M, r, h⟩ := h
      exact absurd h id
    · obtain ⟨w, m, as, M, r, h⟩ := h
      exact absurd h id
  | n + 1, f, fa, dt, ps, h => def_step (gok_of R n (fun f fa ⟨dt, ps, h⟩ => ⟨⟨dt, ps, h.bd, def_ok R n f fa dt ps h⟩⟩) (fun f fa dt ps h => def_ok R n f fa dt ps h)) h
end R
namespace R
open PySem PySem.Spec PyProof.Rows L2
def okName (x : Str) : Bool := x.cps.all fun c => Nat.ble c 1999999
theorem okName_no {n : Nat} : okName ⟨#[n + 2000000]⟩ = false := by
  have h : Nat.ble (n + 2000000) 1999999 = false := by
    cases q : Nat.ble (n + 2000000) 1999999 with
    | false => rfl
    | true => have := Nat.le_of_ble_eq_true q; omega
  unfold okName
  simp [h]
theorem nodup_get : ∀ {l : List Str}, l.Nodup → ∀ {a b : Nat} {x : Str}, l[a]? = some x → l[b]? = some x → a = b
  | [], _, a, b, x, h, _ => by simp at h
  | y :: r, hd, 0, 0, x, _, _ => rfl
  | y :: r, hd, 0, b + 1, x, h1, h2 => by
    simp at h1 h2
    subst h1
    exact absurd (List.mem_of_getElem? h2) (List.nodup_cons.mp hd).1
  | y :: r, hd, a + 1, 0, x, h1, h2 => by
    simp at h1 h2
    subst h2
    exact absurd (List.mem_of_getElem? h1) (List.nodup_cons.mp hd).1
  | y :: r, hd, a + 1, b + 1, x, h1, h2 => by
    simp at h1 h2
    rw [nodup_get (List.nodup_cons.mp hd).2 h1 h2]
theorem attOf_inj {l : List Str} (hd : l.Nodup) (hk : l.all okName = true) (a b : Nat) (h : attOf l a = attOf l b) : a = b := by
  unfold attOf at h
  rw [List.getD_eq_getElem?_getD, List.getD_eq_getElem?_getD] at h
  rw [List.all_eq_true] at hk
  by_cases qa : a < l.length
  · by_cases qb : b < l.length
    · rw [List.getElem?_eq_getElem qa, List.getElem?_eq_getElem qb] at h
      have h : l[a] = l[b] := h
      exact nodup_get hd (List.getElem?_eq_getElem qa) (by rw [h]; exact List.getElem?_eq_getElem qb)
    · rw [List.getElem?_eq_getElem qa, List.getElem?_eq_none (Nat.le_of_not_lt qb)] at h
      have q := hk _ (List.getElem_mem qa)
      have h : l[a] = ⟨#[b + 2000000]⟩ := h
      rw [h, okName_no] at q; cases q
  · by_cases qb : b < l.length
    · rw [List.getElem?_eq_none (Nat.le_of_not_lt qa), List.getElem?_eq_getElem qb] at h
      have q := hk _ (List.getElem_mem qb)
      have h : ⟨#[a + 2000000]⟩ = l[b] := h
      rw [← h, okName_no] at q; cases q
    · rw [List.getElem?_eq_none (Nat.le_of_not_lt qa), List.getElem?_eq_none (Nat.le_of_not_lt qb)] at h
      have h : (⟨#[a + 2000000]⟩ : Str) = ⟨#[b + 2000000]⟩ := h
      injection h with h
      injection h with h
      injection h with h
      omega
theorem att_no {l ms : List Str} (h : l.all (fun x => !ms.contains x && !(x == "")) = true) (hm : ms.all okName = true) (a k : Nat) : attOf l a ≠ ms.getD k "" := by
  have hk : okName (ms.getD k "") = true := by
    rw [List.getD_eq_getElem?_getD]
    by_cases q : k < ms.length
    · rw [List.getElem?_eq_getElem q]
      exact List.all_eq_true.mp hm _ (List.getElem_mem q)
    · rw [List.getElem?_eq_none (Nat.le_of_not_lt q)]; decide +kernel
  intro z
  unfold attOf at z
  by_cases qa : a < l.length
  · rw [List.getD_eq_getElem?_getD, List.getElem?_eq_getElem qa] at z
    have q := List.all_eq_true.mp h _ (List.getElem_mem qa)
    rw [Bool.and_eq_true, Bool.not_eq_true', Bool.not_eq_true'] at q
    have z : l[a] = ms.getD k "" := z
    rw [z] at q
    rw [List.getD_eq_getElem?_getD] at q
    by_cases qk : k < ms.length
    · rw [List.getElem?_eq_getElem qk] at q
      have : ms.contains ms[k] = true := by simp
      rw [show ((some ms[k]).getD "" : Str) = ms[k] from rfl, this] at q
      cases q.1
    · rw [List.getElem?_eq_none (Nat.le_of_not_lt qk)] at q
      have := q.2
      simp at this
  · rw [List.getD_eq_getElem?_getD, List.getElem?_eq_none (Nat.le_of_not_lt qa)] at z
    have z : (⟨#[a + 2000000]⟩ : Str) = ms.getD k "" := z
    rw [← z, okName_no] at hk
    cases hk
section
variable (K : PySem.W.Frag) (mg : Str → Option Value) (p : Pg) (cf : Cf)
def FnAll : Nat → List (Option Str) → Prop
  | _, [] => True
  | i, none :: r => FnAll (i + 1) r
  | i, some x :: r => (∃ fa, mg x = some (.ref fa) ∧ PySem.W.keepIn K (.ref fa) = true ∧ DefR p cf K i fa) ∧ FnAll (i + 1) r
def MtAll (C : Addr) : List (Nat × Nat) → Prop
  | [] => True
  | (k, f) :: r => (∃ fa, Meth K C (cf.mnm k) fa ∧ DefR p cf K f fa) ∧ MtAll C r
def AtAll (C : Addr) : List Str → Prop
  | [] => True
  | x :: r => NoAttr K C x ∧ AtAll C r
/-- one class: where it stands, its methods, its __init__ -/
def ClAt (i : Nat) (C : Addr) (cd : CD) : Prop :=
  Cls K C ∧ AtAll K C cf.atl ∧ MtAll K p cf C cd.meths ∧ ∀ x, cf.cnm i = some x → ∃ fa, mg x = some (.ref C) ∧ Mk K C fa ∧ DefRD p cf K cd.init fa cd.dflt
def ClAll (cad : Nat → Addr) : Nat → List CD → Prop
  | _, [] => True
  | i, cd :: r => ClAt K mg p cf i (cad i) cd ∧ ClAll cad (i + 1) r
end
section
variable {K : PySem.W.Frag} {mg : Str → Option Value} {p : Pg} {cf : Cf} {cad : Nat → Addr}
theorem FnAll.at : ∀ {l : List (Option Str)} {i f : Nat} {x : Str}, FnAll K mg p cf i l → l[f]? = some (some x) → ∃ fa, mg x = some (.ref fa) ∧ PySem.W.keepIn K (.ref fa) = true ∧ DefR p cf K (i + f) fa
  | [], _, f, _, _, e => by simp at e
  | none :: r, i, 0, x, h, e => by simp at e
  | none :: r, i, f + 1, x, h, e => by
    rw [show i + (f + 1) = i + 1 + f by omega]
    exact FnAll.at (l := r) h (by simpa using e)
  | some y :: r, i, 0, x, h, e => by
    simp at e
    subst e
    exact h.1
  | some y :: r, i, f + 1, x, h, e => by
    rw [show i + (f + 1) = i + 1 + f by omega]
    exact FnAll.at (l := r) h.2 (by simpa using e)
theorem MtAll.at {C : Addr} : ∀ {l : List (Nat × Nat)} {k f : Nat}, MtAll K p cf C l → l.lookup k = some f → ∃ fa, Meth K C (cf.mnm k) fa ∧ DefR p cf K f fa
  | [], _, _, _, e => by simp at e
  | (k', f') :: r, k, f, h, e => by
    rw [List.lookup_cons] at e
    by_cases q : k = k'
    · subst q
      simp at e
      subst e
      exact h.1
    · rw [beq_eq_false_iff_ne.mpr q] at e
      exact MtAll.at (l := r) h.2 e
theorem AtAll.at {C : Addr} : ∀ {l : List Str} {x : Str}, AtAll K C l → x ∈ l → NoAttr K C x
  | [], _, _, e => by cases e
  | y :: r, x, h, e => by
    rcases List.mem_cons.mp e with e | e
    · rw [e]; exact h.1
    · exact AtAll.at h.2 e
theorem ClAll.at : ∀ {l : List CD} {i C : Nat} {cd : CD}, ClAll K mg p cf cad i l → l[C]? = some cd → ClAt K mg p cf (i + C) (cad (i + C)) cd
  | [], _, C, _, _, e => by simp at e
  | cd' :: r, i, 0, cd, h, e => by
    simp at e
    subst e
    exact h.1
  | cd' :: r, i, C + 1, cd, h, e => by
    rw [show i + (C + 1) = i + 1 + C by omega]
    exact ClAll.at (l := r) h.2 (by simpa using e)
def bltNames : List Str := ["len", "int", "abs", "min", "max", "sum", "list", "tuple", "str", "ord", "repr", "range", "zip", "enumerate", "isinstance", "bool", "any", "sorted", "dict", "ValueError"]
def GlAll (mg : Str → Option Value) : List Str → Prop
  | [] => True
  | x :: r => mg x = none ∧ GlAll mg r
theorem GlAll.at : ∀ {l : List Str} {x : Str}, GlAll mg l → x ∈ l → mg x = none
  | [], _, _, e => by cases e
  | y :: r, x, h, e => by
    rcases List.mem_cons.mp e with e | e
    · rw [e]; exact h.1
    · exact GlAll.at h.2 e
/-- a module's constants -/
def CnAll (K : PySem.W.Frag) (mg : Str → Option Value) : List (Option Str) → List D → Prop
  | some x :: xs, k :: ks => (∃ u, mg x = some u ∧ CnOk K k u) ∧ CnAll K mg xs ks
  | none :: xs, _ :: ks => CnAll K mg xs ks
  | _, _ => True
theorem CnAll.at : ∀ {l : List (Option Str)} {ks : List D} {i : Nat} {x : Str} {k : D}, CnAll K mg l ks → l[i]? = some (some x) → ks[i]? = some k → ∃ u, mg x = some u ∧ CnOk K k u
  | [], _, i, x, k, _, e, _ => by simp at e
  | _ :: _, [], i, x, k, _, _, e => by simp at e
  | y :: l, c :: ks, 0, x, k, h, e1, e2 => by
    simp at e1 e2
    subst e1
    subst e2
    exact h.1
  | some y :: l, c :: ks, i + 1, x, k, h, e1, e2 => CnAll.at (i := i) h.2 (by simpa using e1) (by simpa using e2)
  | none :: l, c :: ks, i + 1, x, k, h, e1, e2 => CnAll.at (l := l) (ks := ks) (i := i) h (by simpa using e1) (by simpa using e2)
/-- the errors' classes -/
def XcAt (K : PySem.W.Frag) (mg : Str → Option Value) (j : Nat) (x : Str) (A : Addr) : Prop := mg x = some (.ref A) ∧ (x == ("__debug__" : Str)) = false ∧ XC K A ∧ (j ≠ 1 → PySem.W.excIn K A bmVE "ValueError.__new__" = true)
def XcAll (K : PySem.W.Frag) (mg : Str → Option Value) (xad : Nat → Addr) : Nat → List (Option Str) → Prop
  | _, [] => True
  | i, none :: r => XcAll K mg xad (i + 1) r
  | i, some x :: r => XcAt K mg i x (xad i) ∧ XcAll K mg xad (i + 1) r
theorem XcAll.at {xad : Nat → Addr} : ∀ {l : List (Option Str)} {i f : Nat} {x : Str}, XcAll K mg xad i l → l[f]? = some (some x) → XcAt K mg (i + f) x (xad (i + f))
  | [], _, f, _, _, e => by simp at e
  | none :: r, i, 0, x, h, e => by simp at e
  | none :: r, i, f + 1, x, h, e => by
    rw [show i + (f + 1) = i + 1 + f by omega]
    exact XcAll.at (l := r) h (by simpa using e)
  | some y :: r, i, 0, x, h, e => by
    simp at e
    subst e
    exact h.1
  | some y :: r, i, f + 1, x, h, e => by
    rw [show i + (f + 1) = i + 1 + f by omega]
    exact XcAll.at (l := r) h.2 (by simpa using e)
def XoRow (K : PySem.W.Frag) (xad : Nat → Addr) (i : Nat) : List Nat → Prop
  | [] => True
  | j :: r => PySem.W.subIn K (.ref (xad i)) (.ref (xad j)) = some (exSub i j) ∧ XoRow K xad i r
def XoAll (K : PySem.W.Frag) (xad : Nat → Addr) (l : List Nat) : List Nat → Prop
  | [] => True
  | i :: r => XoRow K xad i l ∧ XoAll K xad l r
theorem XoRow.at {xad : Nat → Addr} {i : Nat} : ∀ {l : List Nat} {j : Nat}, XoRow K xad i l → j ∈ l → PySem.W.subIn K (.ref (xad i)) (.ref (xad j)) = some (exSub i j)
  | k :: r, j, h, e => by
    rcases List.mem_cons.mp e with e | e
    · rw [e]; exact h.1
    · exact XoRow.at h.2 e
theorem XoAll.at {xad : Nat → Addr} {l : List Nat} : ∀ {r : List Nat} {i : Nat}, XoAll K xad l r → i ∈ r → XoRow K xad i l
  | k :: r, j, h, e => by
    rcases List.mem_cons.mp e with e | e
    · rw [e]; exact h.1
    · exact XoAll.at h.2 e
theorem xs_of {cf : Cf} {j : Nat} (h : j ∈ cf.xs) : ∃ x, cf.xnl[j]? = some (some x) := by
  obtain ⟨h1, h2⟩ := List.mem_filter.mp h
  rw [List.getD_eq_getElem?_getD] at h2
  cases q : cf.xnl[j]? with
  | none => rw [q] at h2; cases h2
  | some y =>
    rw [q] at h2
    cases y with
    | none => cases h2
    | some x => exact ⟨x, rfl⟩
theorem of_xs {cf : Cf} {j : Nat} {x : Str} (h : cf.xnl[j]? = some (some x)) : j ∈ cf.xs :=
  List.mem_filter.mpr ⟨List.mem_range.mpr (List.getElem?_eq_some_iff.mp h).1, by rw [List.getD_eq_getElem?_getD, h]; rfl⟩
/-- a row's facts -/
structure RowOk (K : PySem.W.Frag) (mg : Str → Option Value) (p : Pg) (cf : Cf) (cad xad : Nat → Addr) : Prop where
  xcs : XcAll K mg xad 0 cf.xnl
  xos : XoAll K xad cf.xs cf.xs
  rfd : ∀ (c : Calls) (P : Program) (w : World) (base : Heap) (j : Nat) (x : Str), cf.rfn = some j → cf.xnl[j]? = some (some x) → RefOk ⟨⟨K, mg, cad, attOf cf.atl, p.cls.length, w, cf.xs, xad⟩, cf, p, c, 0, P, base⟩ x (xad j)
  nd : cf.atl.Nodup
  ok1 : cf.atl.all okName = true
  ok2 : cf.mnl.all okName = true
  dis : cf.atl.all (fun x => !cf.mnl.contains x && !(x == "")) = true
  gl : GlAll mg bltNames
  fns : FnAll K mg p cf 0 cf.fnl
  cls : ClAll K mg p cf cad 0 p.cls
  con : CnAll K mg cf.ctl p.cns
theorem rok_of {K : PySem.W.Frag} {mg : Str → Option Value} {p : Pg} {cf : Cf} {cad xad : Nat → Addr} {c : Calls} {P : Program} {w : World} {base : Heap} (R : RowOk K mg p cf cad xad) : Rok ⟨⟨K, mg, cad, attOf cf.atl, p.cls.length, w, cf.xs, xad⟩, cf, p, c, 0, P, base⟩ where
  exn := fun j x e => by
    have h := R.xcs.at e
    rw [Nat.zero_add] at h
    exact ⟨of_xs e, h.1, h.2.1, h.2.2.2⟩
  exc := fun j h => by
    obtain ⟨x, e⟩ := xs_of h
    have h := R.xcs.at e
    rw [Nat.zero_add] at h
    exact h.2.2.1
  exo := fun i j hi hj => (R.xos.at hi).at hj
  vae := R.gl.at (by decide +kernel)
  rfd := R.rfd c P w base
  att := rfl
  inj := attOf_inj R.nd R.ok1
  blt := fun b => R.gl.at (by cases b <;> decide +kernel)
  rng := R.gl.at (by decide +kernel)
  zip := R.gl.at (by decide +kernel)
  enum := R.gl.at (by decide +kernel)
  isi := R.gl.at (by decide +kernel)
  con := fun i x k e1 e2 => R.con.at e1 e2
  bool := R.gl.at (by decide +kernel)
  dic := R.gl.at (by decide +kernel)
  fn := fun f x e => by
    have e : cf.fnl.getD f none = some x := e
    rw [List.getD_eq_getElem?_getD] at e
    cases q : cf.fnl[f]? with
    | none => rw [q] at e; cases e
    | some y =>
      rw [q] at e
      have e : y = some x := e
      subst e
      have := R.fns.at q
      rwa [Nat.zero_add] at this
  cls := fun C hC => by
    have hC : C < p.cls.length := hC
    have := R.cls.at (List.getElem?_eq_getElem hC)
    rw [Nat.zero_add] at this
    refine ⟨this.1, fun f hf => ?_⟩
    have hf : f < cf.atl.length := hf
    have hm : attOf cf.atl f ∈ cf.atl := by
      unfold attOf
      rw [List.getD_eq_getElem?_getD, List.getElem?_eq_getElem hf]
      exact List.getElem_mem hf
    exact this.2.1.at hm
  ncl := fun C cd e => (List.getElem?_eq_some_iff.mp e).1
  mth := fun C cd k f e1 e2 => by
    have := R.cls.at e1
    rw [Nat.zero_add] at this
    exact this.2.2.1.at e2
  mat := att_no R.dis R.ok2
  mkc := fun C cd x e1 e2 => by
    have := R.cls.at e1
    rw [Nat.zero_add] at this
    obtain ⟨_, _, _, h⟩ := this
    obtain ⟨fa, h1, h2, dt, ps, h3, _⟩ := h x e2
    exact ⟨fa, h1, h2, dt, ps, h3⟩
  mkd := fun C cd x e1 e2 => by
    have := R.cls.at e1
    rw [Nat.zero_add] at this
    obtain ⟨_, _, _, h⟩ := this
    exact h x e2
end
def spLaw (K : PySem.W.Frag) (n : Nat) : Sp := fun vs H Q _ => ∃ (a : Addr) (ns : List Int), vs = [.ref a] ∧ ns.length ≤ n ∧ SqL K H a (ns.map V.int) ∧ ∀ H', Q (.bl true) H'
theorem rvs_ints {g : Gm} {w : Wd} : ∀ ns : List Int, Rvs g w (ns.map D.int) (ns.map V.int)
  | [] => .nil
  | i :: r => .cons (.int i) (rvs_ints r)
/-- what R says of the law -/
def LawR (p : Pg) (n f : Nat) : Prop := ∀ ns : List Int, ns.length ≤ 63 → ∃ m, callN p n f [.scr (ns.map .int)] [] = .ok (.bl true) m
theorem law_ok {K : PySem.W.Frag} {mg : Str → Option Value} {p : Pg} {cf : Cf} {cad xad : Nat → Addr} {P : Program} {w : World} {base : Heap} {n f : Nat} {fa : Addr} {dt : FuncData} {x : Str} (R : RowOk K mg p cf cad xad) (L : LawR p n f) (h : DefX p cf K f fa dt [x]) :
    FnG P w K mg base (L2.CX P w) (2 * n) fa dt [x] (spLaw K 63) := by
  refine FnG.imp (def_ok (E := ⟨⟨K, mg, cad, attOf cf.atl, p.cls.length, w, cf.xs, xad⟩, cf, p, fun _ _ _ => .bad, 0, P, base⟩) (rok_of R) n f fa dt [x] h) fun vs H Q xk h => ?_
  obtain ⟨a, ns, rfl, hl, hS, q⟩ := h
  obtain ⟨m, e⟩ := L ns hl
  refine ⟨⟨H, fun _ => 0, 0, fun _ => none⟩, [], [.scr (ns.map .int)], ⟨fun _ _ h => h, rfl, fun n o e => by simp at e, fun n o e => by simp at e, fun n k o u e => by simp at e, fun _ _ e => (by cases e), fun n o e => by simp at e, fun _ _ e => (by cases e)⟩, .cons (.scr hS (rvs_ints ns)) .nil, ?_⟩
  show Post _ _ _ _ Q (callN p n f [.scr (ns.map .int)] [])
  rw [e]
  intro w' v H' le M r
  cases r
  exact q H'
theorem law_walk {l : PySem.W.OpenLaw} {q : Program} {loose : List Str} {XP : (Str → Option Value) → Heap → Prop} {YP : World → Heap → Prop} {d : DefRec} {K : Params → PySem.W.Frag} {p : Pg} {cf : Cf} {n f : Nat} {x : Str} (hr : RoomG (2 * n) callerA) (L : LawR p n f) (hn : l.most = some 63) (hdf : d.params.defaults = [])
    (hY : ∀ (w : World) (h : Heap), YP w h → (K w.params).In h)
    (F : ∀ (w : World) (mg : Str → Option Value) (fa : Addr) (h : Heap), (K w.params).In h → h.Ns mainGlobals mg → mg d.name = some (.ref fa) →
      ∃ (fd : FuncData) (cad xad : Nat → Addr), (∀ (s : Shared) (u : Value), BindsTo s fd ⟨[u], []⟩ [(x, u)]) ∧ DefX p cf (K w.params) f fa fd [x] ∧ RowOk (K w.params) mg p cf cad xad) :
    PySem.W.WalkO q loose XP YP l.row.toRowW d [] (fun f vs => PySem.call f vs) :=
  walk_ofG (n := 63) (k := 2 * n) (x := x) (CX := fun w => L2.CX l.prog w) (sp := fun w => spLaw (K w.params) 63) hn (by decide) hdf hr hY
    (fun w mg fa h h1 h2 h3 => let ⟨fd, cad, xad, b, D, R⟩ := F w mg fa h h1 h2 h3
      ⟨fd, b, fun base _ _ => law_ok R L D⟩)
    (fun _ _ a ns hl _ hS => ⟨a, ns, rfl, hl, hS, fun _ => rfl⟩)
    fun _ _ _ _ _ z => by
      obtain ⟨_, _, _, _, _, _, _, _, _, _, _, _, z⟩ := z
      exact z
end R
namespace R
open PySem
/-- a list by an index -/
def tab (c : Nat) (F : Nat → D) : D := .lst ((List.range c).map F)
abbrev vec (c : Nat) (f : Nat → Int) : D := tab c fun k => .int (f k)
theorem divOk_of {j : Int} (h : 0 < j) (h2 : j.natAbs < 2 ^ 8000) : divOk j = true := by
  unfold divOk
  rw [decide_eq_true h, Bool.true_and]
  have := (Nat.log2_lt (n := j.natAbs) (k := 8000) (by omega)).mpr h2
  exact Nat.ble_eq_true_of_le (by omega)
theorem divOk_small {j : Int} (h : 0 < j) (h2 : j ≤ 1208925819614629174706176) : divOk j = true := divOk_of h (Nat.lt_of_le_of_lt (m := 1208925819614629174706176) (by omega) (by
  have : (2 : Nat) ^ 80 < 2 ^ 8000 := Nat.pow_lt_pow_right (by decide) (by decide)
  exact this))
theorem szOk_of {n : Nat} (h : n ≤ 16777216) : szOk n = true := Nat.ble_eq_true_of_le h
theorem atI_nat' {α : Type} (xs : List α) (k : Nat) : L2.atI xs (k : Int) = xs[k]? := by
  cases e : xs[k]? with
  | some v => exact L2.atI_nat e
  | none =>
    have hk := List.getElem?_eq_none_iff.mp e
    unfold L2.atI L2.ixN
    rw [if_pos (by omega), if_neg (by omega)]
    rfl
theorem atI_last {α : Type} (xs : List α) (x : α) : L2.atI (xs ++ [x]) (-1) = some x := by
  unfold L2.atI L2.ixN
  rw [if_neg (by omega), if_pos (by simp; omega)]
  show (xs ++ [x])[(((xs ++ [x]).length : Int) + -1).toNat]? = some x
  have : (((xs ++ [x]).length : Int) + -1).toNat = xs.length := by simp; omega
  rw [this]; simp
theorem get_tab {c k : Nat} {F : Nat → D} (h : k < c) : ((List.range c).map F)[k]? = some (F k) := by
  rw [List.getElem?_map, List.getElem?_range h]; rfl
theorem idx_tab {m : Mm} {c k : Nat} {F : Nat → D} (h : k < c) : idxD m (tab c F) (.int (k : Int)) = some (F k) := by
  simp only [idxD, tab, seqOf, lstOf, atI_nat', get_tab h]
theorem len_tab {m : Mm} {c : Nat} {F : Nat → D} {o : Bool} : bltD .len o [tab c F] m = .ok (.int c) m := by
  simp [bltD, tab, seqOf, lstOf]
theorem list_tab {m : Mm} {c : Nat} {F : Nat → D} (h : c ≤ 16777216) : bltD .list_ false [tab c F] m = .ok (tab c F) m := by
  simp [bltD, tab, seqOf, lstOf, mkL, szOk_of h]
theorem intsOf_map {α : Type} (f : α → Int) : ∀ xs : List α, intsOf (xs.map fun k => D.int (f k)) = some (xs.map f)
  | [] => rfl
  | x :: xs => by
    have ih := intsOf_map f xs
    unfold intsOf at ih ⊢
    rw [List.map_cons, List.mapM_cons, ih]
    rfl
/-- the least of f 0 .. f (c - 1) -/
def mn (c : Nat) (f : Nat → Int) : Int := minI ((List.range c).map f)
theorem mn_le {c k : Nat} {f : Nat → Int} (h : k < c) : mn c f ≤ f k := minI_le (List.mem_map.mpr ⟨k, List.mem_range.mpr h, rfl⟩)
theorem mn_at {c : Nat} (f : Nat → Int) (h : 0 < c) : ∃ k, k < c ∧ f k = mn c f := by
  have q : minI ((List.range c).map f) ∈ (List.range c).map f := minI_mem (by simp; omega)
  obtain ⟨k, hk, e⟩ := List.mem_map.mp q
  exact ⟨k, List.mem_range.mp hk, e⟩
theorem mn_eq {c : Nat} {f : Nat → Int} {z : Int} (h1 : ∀ k, k < c → z ≤ f k) {k : Nat} (h2 : k < c) (h3 : f k = z) : mn c f = z := by
  obtain ⟨j, hj, e⟩ := mn_at f (Nat.lt_of_le_of_lt (Nat.zero_le _) h2)
  have a := mn_le (f := f) h2
  have b := h1 j hj
  omega
theorem min1_vec {m : Mm} {c : Nat} {f : Nat → Int} {o : Bool} (h : 0 < c) : bltD .min1 o [vec c f] m = .ok (.int (mn c f)) m := by
  have e := intsOf_map f (List.range c)
  simp only [bltD, tab, lstOf, e, List.length_map, List.length_range]
  rw [if_neg (by omega)]; rfl
theorem idxOf_mem : ∀ {xs : List Int} {x : Int}, x ∈ xs → ∃ k, xs.idxOf? x = some k ∧ xs[k]? = some x
  | [], _, h => by cases h
  | y :: r, x, h => by
    by_cases q : y = x
    · subst q
      exact ⟨0, by simp [List.idxOf?, List.findIdx?_cons], rfl⟩
    · have h : x ∈ r := by
        rcases List.mem_cons.mp h with h | h
        · exact absurd h.symm q
        · exact h
      obtain ⟨k, h1, h2⟩ := idxOf_mem h
      refine ⟨k + 1, ?_, by simpa using h2⟩
      simp only [List.idxOf?] at h1 ⊢
      rw [List.findIdx?_cons, h1]
      simp [q]
theorem am_ex (c : Nat) (f : Nat → Int) : ∃ k, 0 < c → k < c ∧ f k = mn c f ∧ ((List.range c).map f).idxOf? (mn c f) = some k := by
  by_cases h : 0 < c
  · have q : minI ((List.range c).map f) ∈ (List.range c).map f := minI_mem (by simp; omega)
    obtain ⟨k, h1, h2⟩ := idxOf_mem q
    refine ⟨k, fun _ => ?_⟩
    have hk := (List.getElem?_eq_some_iff.mp h2).1
    rw [List.length_map, List.length_range] at hk
    rw [List.getElem?_map, List.getElem?_range hk] at h2
    exact ⟨hk, Option.some.inj h2, h1⟩
  · exact ⟨0, fun z => absurd z h⟩
/-- where the least one stands first -/
noncomputable def am (c : Nat) (f : Nat → Int) : Nat := Classical.choose (am_ex c f)
theorem am_lt {c : Nat} {f : Nat → Int} (h : 0 < c) : am c f < c := (Classical.choose_spec (am_ex c f) h).1
theorem am_mn {c : Nat} {f : Nat → Int} (h : 0 < c) : f (am c f) = mn c f := (Classical.choose_spec (am_ex c f) h).2.1
theorem index_vec {m : Mm} {c : Nat} {f : Nat → Int} {o : Bool} (h : 0 < c) : bmD .index o (vec c f) [.int (mn c f)] m = .ok (.int (am c f)) m := by
  have e := intsOf_map f (List.range c)
  have q : ((List.range c).map f).idxOf? (mn c f) = some (am c f) := (Classical.choose_spec (am_ex c f) h).2.2
  simp only [bmD, tab, lstOf, e, q]
theorem bmTy_tab {m : Mm} {c : Nat} {F : Nat → D} : bmTy .index m (tab c F) = true := rfl
theorem mapL_map {α : Type} {f : D → Mm → Res Mm (Option D)} {q : α → D} {g : α → D} {h : Mm} {xs : List α} (H : ∀ x ∈ xs, f (q x) h = .ok (some (g x)) h) : mapL f (xs.map q) h = .ok (xs.map g) h := by
  induction xs with
  | nil => rfl
  | cons x xs ih =>
    have e := H x List.mem_cons_self
    have ih := ih fun y hy => H y (List.mem_cons_of_mem _ hy)
    simp only [List.map_cons, mapL, e, ih, Res.bind_ok]
/-- a comprehension over range(c) -/
theorem mapL_rng {f : D → Mm → Res Mm (Option D)} {c : Nat} {h : Mm} (g : Nat → D) (H : ∀ k, k < c → f (.int (k : Int)) h = .ok (some (g k)) h) : mapL f ((List.range c).map fun (k : Nat) => .int (k : Int)) h = .ok ((List.range c).map g) h :=
  mapL_map fun k hk => H k (List.mem_range.mp hk)
theorem forL_nx {f : D → Sx → Res Sx Fl} {c : Nat} {F : Nat → D} (S : Nat → Sx → Prop) {s : Sx} (h0 : S 0 s) (step : ∀ k s, k < c → S k s → ∃ s', f (F k) s = .ok .nx s' ∧ S (k + 1) s') : ∃ s', forL f ((List.range c).map F) s = .ok .nx s' ∧ S c s' := by
  have key : ∀ (n k : Nat) (s : Sx), k + n = c → S k s → ∃ s', forL f ((List.range' k n).map F) s = .ok .nx s' ∧ S c s' := by
    intro n
    induction n with
    | zero =>
      intro k s e h
      have : k = c := by omega
      subst this
      exact ⟨s, rfl, h⟩
    | succ n ih =>
      intro k s e h
      obtain ⟨s1, e1, h1⟩ := step k s (by omega) h
      obtain ⟨s2, e2, h2⟩ := ih (k + 1) s1 (by omega) h1
      refine ⟨s2, ?_, h2⟩
      rw [List.range'_succ, List.map_cons]
      simp only [forL, e1, Res.bind_ok, e2]
  rw [List.range_eq_range']
  exact key c 0 s (by omega) h0
/-- .. that may return -/
theorem forL_rt {f : D → Sx → Res Sx Fl} {c : Nat} {F : Nat → D} (S : Nat → Sx → Prop) {s : Sx} (h0 : S 0 s) (step : ∀ k s, k < c → S k s → ∃ s', (f (F k) s = .ok .nx s' ∨ f (F k) s = .ok .ct s') ∧ S (k + 1) s') : ∃ s', forL f ((List.range c).map F) s = .ok .nx s' ∧ S c s' := by
  have key : ∀ (n k : Nat) (s : Sx), k + n = c → S k s → ∃ s', forL f ((List.range' k n).map F) s = .ok .nx s' ∧ S c s' := by
    intro n
    induction n with
    | zero =>
      intro k s e h
      have : k = c := by omega
      subst this
      exact ⟨s, rfl, h⟩
    | succ n ih =>
      intro k s e h
      obtain ⟨s1, e1, h1⟩ := step k s (by omega) h
      obtain ⟨s2, e2, h2⟩ := ih (k + 1) s1 (by omega) h1
      refine ⟨s2, ?_, h2⟩
      rw [List.range'_succ, List.map_cons]
      rcases e1 with e1 | e1 <;> simp only [forL, e1, Res.bind_ok, e2]
  rw [List.range_eq_range']
  exact key c 0 s (by omega) h0
theorem small_of {n : Nat} (h : n ≤ 1000000) : small62 (n : Int) = true := by
  unfold small62
  exact Nat.ble_eq_true_of_le (by omega)
theorem nrs_map {α : Type} {F : α → D} : ∀ {xs : List α}, (∀ x ∈ xs, nr (F x) = true) → nrs (xs.map F) = true
  | [], _ => rfl
  | x :: xs, h => by
    rw [List.map_cons]
    simp only [nrs, h x List.mem_cons_self, nrs_map fun y hy => h y (List.mem_cons_of_mem _ hy), Bool.and_self]
theorem nr_tab {c : Nat} {F : Nat → D} (h : ∀ k, nr (F k) = true) : nr (tab c F) = true := by
  unfold tab
  simp only [nr]
  exact nrs_map fun k _ => h k
theorem nr_vec {c : Nat} {f : Nat → Int} : nr (vec c f) = true := nr_tab fun _ => by simp only [nr]
theorem nr_mat {c d : Nat} {f : Nat → Nat → Int} : nr (tab d fun i => vec c (f i)) = true := nr_tab fun _ => nr_vec
theorem rsv_nr {h : Mm} {k : Nat} {d : D} (q : nr d = true) : rsv h (k + 1) d = some d := by
  unfold rsv
  rw [if_pos q]
theorem rsv9 {h : Mm} {d : D} (q : nr d = true) : rsv h 9 d = some d := rsv_nr q
theorem mapM_rsv {h : Mm} {k : Nat} : ∀ {xs : List D}, nrs xs = true → xs.mapM (rsv h (k + 1)) = some xs
  | [], _ => rfl
  | x :: xs, q => by
    simp only [nrs, Bool.and_eq_true] at q
    rw [List.mapM_cons, rsv_nr q.1, mapM_rsv q.2]
    rfl
theorem frz_nrs {k : Nat} {h : Mm} : ∀ {xs : List D}, nrs xs = true → thr (frzN (k + 1)) xs h = some (xs, h)
  | [], _ => rfl
  | x :: xs, q => by
    simp only [nrs, Bool.and_eq_true] at q
    have e : frzN (k + 1) x h = some (x, h) := by
      unfold frzN
      rw [if_pos q.1]
    simp only [thr, e, frz_nrs q.2, Option.bind_some]
/-- a list at an id is frozen -/
theorem frz_ref {h : Mm} {n : Nat} {xs : List D} (e : h[n]? = some (.lst xs)) (q : nrs xs = true) : frzD (.ref n) h = .ok (.lst xs) (h.set n .dead) := by
  unfold frzD frzN
  simp only [nr, e, frz_nrs q, Option.map_some]
  rfl
theorem call_pure {p : Pg} {n f : Nat} {fd : FD} {as : List D} {h : Mm} {d' : D} (hf : p.fns[f]? = some fd) (hl : as.length = fd.np) (hp : fd.pure_ = true) (hn : nrs as = true)
    (hb : ∃ d s, execSs p (callN p n) fd.body ⟨as.map some ++ List.replicate (fd.nl - fd.np) none, []⟩ = .ok (.rt d) s ∧ rsv s.hp 9 d = some d') : callN p (n + 1) f as h = .ok d' h := by
  obtain ⟨d, s, hb, hr⟩ := hb
  simp only [callN, hf]
  rw [if_pos hl, if_pos hp, if_pos hn, hb]
  simp only [finP, rtD, Option.bind_some, if_true, hr]
theorem call_own {p : Pg} {n f : Nat} {fd : FD} {as : List D} {h : Mm} {d' : D} (as' : List D) (hf : p.fns[f]? = some fd) (hl : as.length = fd.np) (hp : fd.pure_ = true) (hn : nrs as = false) (ha : as.mapM (rsv h 9) = some as')
    (hb : ∃ d s, execSs p (callN p n) fd.body ⟨as'.map some ++ List.replicate (fd.nl - fd.np) none, []⟩ = .ok (.rt d) s ∧ own s.hp 9 d = some d') : callN p (n + 1) f as h = .ok d' h := by
  obtain ⟨d, s, hb, hr⟩ := hb
  simp only [callN, hf]
  rw [if_pos hl, if_pos hp, if_neg (by rw [hn]; exact Bool.false_ne_true), ha]
  simp only [hb, finP, rtD, Option.bind_some, Bool.false_eq_true, if_false, hr]
theorem call_imp {p : Pg} {n f : Nat} {fd : FD} {as : List D} {h h' : Mm} {d : D} (hf : p.fns[f]? = some fd) (hl : as.length = fd.np) (hp : fd.pure_ = false)
    (hb : ∃ x s, execSs p (callN p n) fd.body ⟨as.map some ++ List.replicate (fd.nl - fd.np) none, h⟩ = .ok x s ∧ rtD x = some d ∧ s.hp = h') : callN p (n + 1) f as h = .ok d h' := by
  obtain ⟨x, s, hb, hx, hs⟩ := hb
  simp only [callN, hf]
  rw [if_pos hl, if_neg (by rw [hp]; exact Bool.false_ne_true), hb]
  simp only [fin, hx, hs]
end R
namespace R
open PySem
def Wp (p : Pg) (c : Calls) (ms : List MS) (s : Sx) (Q : Fl → Sx → Prop) : Prop := ∃ f s', execSs p c ms s = .ok f s' ∧ Q f s'
/-- behind a statement that may return -/
def Nxt (p : Pg) (c : Calls) (ms : List MS) (Q : Fl → Sx → Prop) : Fl → Sx → Prop
  | .nx, s => Wp p c ms s Q
  | f, s => Q f s
variable {p : Pg} {c : Calls} {ms : List MS} {s : Sx} {Q : Fl → Sx → Prop} {sl : List (Option D)} {h h1 h2 h3 : Mm} {d x y : D} {i : Nat} {e o k : ME}
theorem wp_nil (q : Q .nx s) : Wp p c [] s Q := ⟨_, _, by simp only [execSs], q⟩
theorem wp_cons {m : MS} {s' : Sx} (a : execS p c m s = .ok .nx s') (q : Wp p c ms s' Q) : Wp p c (m :: ms) s Q := by
  obtain ⟨f, s2, e, q⟩ := q
  exact ⟨f, s2, by simp only [execSs, a, Res.bind_ok, e], q⟩
theorem wp_any {m : MS} {f : Fl} {s' : Sx} (a : execS p c m s = .ok f s') (q : Nxt p c ms Q f s') : Wp p c (m :: ms) s Q := by
  cases f with
  | nx => exact wp_cons a q
  | bk => exact ⟨_, _, by simp only [execSs, a, Res.bind_ok], q⟩
  | ct => exact ⟨_, _, by simp only [execSs, a, Res.bind_ok], q⟩
  | rt d => exact ⟨_, _, by simp only [execSs, a, Res.bind_ok], q⟩
theorem wp_set (a : evalE p c e sl h = .ok d h1) (q : Wp p c ms ⟨sl.set i (some d), h1⟩ Q) : Wp p c (.set i e :: ms) ⟨sl, h⟩ Q := wp_cons (by simp only [execS, a, up_ok]) q
theorem wp_ex (a : evalE p c e sl h = .ok d h1) (q : Wp p c ms ⟨sl, h1⟩ Q) : Wp p c (.ex e :: ms) ⟨sl, h⟩ Q := wp_cons (by simp only [execS, a, up_ok]) q
theorem wp_ret (a : evalE p c e sl h = .ok d h1) (q : Q (.rt d) ⟨sl, h1⟩) : Wp p c (.ret e :: ms) ⟨sl, h⟩ Q := wp_any (f := .rt d) (s' := ⟨sl, h1⟩) (by simp only [execS, a, up_ok]) q
theorem wp_setf {f : Nat} (a : evalE p c e sl h = .ok d h1) (b : evalE p c o sl h1 = .ok x h2) (z : setFD x f d h2 = some h3) (q : Wp p c ms ⟨sl, h3⟩ Q) : Wp p c (.setf o f e :: ms) ⟨sl, h⟩ Q := wp_cons (by simp only [execS, a, up_ok, b, z]) q
theorem wp_seti {k : ME} {h4 : Mm} (a : evalE p c e sl h = .ok d h1) (b : evalE p c o sl h1 = .ok x h2) (b2 : evalE p c k sl h2 = .ok y h3) (z : setID x y d h3 = some h4) (q : Wp p c ms ⟨sl, h4⟩ Q) : Wp p c (.seti o k e :: ms) ⟨sl, h⟩ Q := wp_cons (by simp only [execS, a, up_ok, b, b2, z]) q
theorem wp_augf {f : Nat} {op : Op} {v z : D} {h4 : Mm} (b : evalE p c o sl h = .ok x h1) (b1 : fldD h1 f x = some v) (a : evalE p c e sl h1 = .ok d h2) (b2 : augD op v d = some z) (b3 : clsD h2 x = clsD h1 x) (b4 : setFD x f z h2 = some h4) (q : Wp p c ms ⟨sl, h4⟩ Q) : Wp p c (.augf o f op e :: ms) ⟨sl, h⟩ Q :=
  wp_cons (by simp only [execS, b, up_ok, b1, a, b2, b3, b4, if_true]) q
theorem wp_frzv {v z : D} (b : sl[i]? = some (some v)) (a : frzD v h = .ok z h1) (q : Wp p c ms ⟨sl.set i (some z), h1⟩ Q) : Wp p c (.frzv i :: ms) ⟨sl, h⟩ Q := wp_cons (by simp only [execS, b, up_ok, a]) q
theorem wp_ite {m1 m2 : List MS} {b : Bool} (a : evalE p c k sl h = .ok x h1) (t : truthD h1 x = some b) (q : Wp p c (if b = true then m1 else m2) ⟨sl, h1⟩ (Nxt p c ms Q)) : Wp p c (.ite k m1 m2 :: ms) ⟨sl, h⟩ Q := by
  obtain ⟨f, s', e, q⟩ := q
  refine wp_any (f := f) (s' := s') ?_ q
  cases b with
  | true => simp only [execS, a, up_ok, t]; simpa using e
  | false => simp only [execS, a, up_ok, t]; simpa using e
theorem wp_then {m1 m2 : List MS} (a : evalE p c k sl h = .ok x h1) (t : truthD h1 x = some true) (q : Wp p c m1 ⟨sl, h1⟩ (Nxt p c ms Q)) : Wp p c (.ite k m1 m2 :: ms) ⟨sl, h⟩ Q := wp_ite (b := true) a t (by simpa using q)
theorem wp_else {m1 m2 : List MS} (a : evalE p c k sl h = .ok x h1) (t : truthD h1 x = some false) (q : Wp p c m2 ⟨sl, h1⟩ (Nxt p c ms Q)) : Wp p c (.ite k m1 m2 :: ms) ⟨sl, h⟩ Q := wp_ite (b := false) a t (by simpa using q)
/-- a loop over things by an index: S, what stands before each turn -/
theorem wp_for {g : Tg} {it : It} {body : List MS} {n : Nat} {F : Nat → D} (S : Nat → Sx → Prop) (a : evalI p c it sl h = .ok ((List.range n).map F) h1) (h0 : S 0 ⟨sl, h1⟩)
    (step : ∀ k s, k < n → S k s → ∃ sl', bindT g (F k) s.sl = some sl' ∧ Wp p c body ⟨sl', s.hp⟩ fun f s' => (f = .nx ∨ f = .ct) ∧ S (k + 1) s') (q : ∀ s, S n s → Wp p c ms s Q) : Wp p c (.for_ g it body :: ms) ⟨sl, h⟩ Q := by
  obtain ⟨s', e, hs⟩ := forL_rt (f := fun x s => match bindT g x s.sl with
        | some sl => execSs p c body ⟨sl, s.hp⟩
        | none => .bad) S h0 fun k s hk hS => by
    obtain ⟨sl', b, f, s', e, z, q⟩ := step k s hk hS
    refine ⟨s', ?_, q⟩
    rw [b]
    rcases z with z | z
    · subst z; exact .inl e
    · subst z; exact .inr e
  exact wp_cons (s' := s') (by simp only [execS, a, up_ok]; exact e) (q s' hs)
/-- the condition and the value of a comprehension over things by an index -/
theorem lc_at {obj : Bool} {elt : ME} {g : Tg} {it : It} {own : List Nat} {n : Nat} {F G : Nat → D} (a : evalI p c it sl h = .ok ((List.range n).map F) h1) (hn : n ≤ 16777216)
    (step : ∀ k, k < n → ∃ sl', bindT g (F k) (wipe sl own) = some sl' ∧ evalE p c elt sl' h1 = .ok (G k) h1) : evalE p c (.lc obj elt g it none own) sl h = mkL obj ((List.range n).map G) h1 := by
  simp only [evalE, a, Res.bind_ok]
  rw [mapL_map (g := G) fun k hk => ?_]
  · rfl
  · obtain ⟨sl', b, e⟩ := step k (List.mem_range.mp hk)
    simp only [b, e, noExn, Res.bind_ok]
theorem lc_tab {elt : ME} {g : Tg} {it : It} {own : List Nat} {n : Nat} {F G : Nat → D} (a : evalI p c it sl h = .ok ((List.range n).map F) h1) (hn : n ≤ 16777216)
    (step : ∀ k, k < n → ∃ sl', bindT g (F k) (wipe sl own) = some sl' ∧ evalE p c elt sl' h1 = .ok (G k) h1) : evalE p c (.lc false elt g it none own) sl h = .ok (tab n G) h1 := by
  rw [lc_at a hn step]
  simp only [mkL, List.length_map, List.length_range, szOk_of hn, if_true, Bool.false_eq_true, if_false]
  rfl
theorem lc_obj {elt : ME} {g : Tg} {it : It} {own : List Nat} {n : Nat} {F G : Nat → D} (a : evalI p c it sl h = .ok ((List.range n).map F) h1) (hn : n ≤ 16777216)
    (step : ∀ k, k < n → ∃ sl', bindT g (F k) (wipe sl own) = some sl' ∧ evalE p c elt sl' h1 = .ok (G k) h1) : evalE p c (.lc true elt g it none own) sl h = .ok (.ref h1.length) (h1 ++ [.lst ((List.range n).map G)]) := by
  rw [lc_at a hn step]
  simp only [mkL, List.length_map, List.length_range, szOk_of hn, if_true]
theorem it_rng {a : ME} {n : Nat} (e : evalE p c a sl h = .ok (.int (n : Int)) h1) (hn : n ≤ 1000000) : evalI p c (.rng1 a) sl h = .ok ((List.range n).map fun (k : Nat) => .int (k : Int)) h1 := by
  simp only [evalI, e, Res.bind_ok, small_of hn, if_true, Int.toNat_natCast]
theorem it_tab {a : ME} {n : Nat} {F : Nat → D} (e : evalE p c a sl h = .ok (tab n F) h1) : evalI p c (.seq a) sl h = .ok ((List.range n).map F) h1 := by
  simp only [evalI, e, Res.bind_ok, tab]
theorem it_zip {a b : ME} {n : Nat} {F G : Nat → D} (e : evalE p c a sl h = .ok (tab n F) h1) (e2 : evalE p c b sl h1 = .ok (tab n G) h2) : evalI p c (.zip a b) sl h = .ok ((List.range n).map fun k => .pr (F k) (G k)) h2 := by
  simp only [evalI, e, e2, Res.bind_ok, tab, frzL]
  rw [List.zip_map']
  simp only [List.map_map]
  rfl
theorem set_last {α : Type} (xs : List α) (x y : α) : (xs ++ [x]).set xs.length y = xs ++ [y] := by
  rw [List.set_append_right _ _ (Nat.le_refl _), Nat.sub_self]; rfl
theorem get_last {α : Type} (xs : List α) (x : α) : (xs ++ [x])[xs.length]? = some x := by simp
theorem map_rng_succ {α : Type} (F : Nat → α) (j : Nat) : (List.range (j + 1)).map F = (List.range j).map F ++ [F j] := by rw [List.range_succ, List.map_append]; rfl
/-- x.append(e) where x stands at n -/
theorem ev_app {o e : ME} {obj : Bool} {n m : Nat} {F : Nat → D} (a : evalE p c o sl h = .ok (.ref n) h1) (l : h1[n]? = some (.lst ((List.range m).map F))) (b : evalE p c e sl h1 = .ok (F m) h2) (l2 : h2[n]? = some (.lst ((List.range m).map F))) (hm : m < 16777216) :
    evalE p c (.bm .append obj o [e]) sl h = .ok .non (h2.set n (.lst ((List.range (m + 1)).map F))) := by
  simp only [evalE, evalEs, a, b, Res.bind_ok, bmTy, lstOf, l, l2, Option.isSome_some, if_true, bmD, List.length_map, List.length_range, szOk_of (show m + 1 ≤ 16777216 by omega), map_rng_succ]
theorem call_run {n f : Nat} {fd : FD} {as : List D} {d' : D} (hf : p.fns[f]? = some fd) (hl : as.length = fd.np) (hp : fd.pure_ = true) (hn : nrs as = true)
    (hb : Wp p (callN p n) fd.body ⟨as.map some ++ List.replicate (fd.nl - fd.np) none, []⟩ fun f s => ∃ d, f = .rt d ∧ rsv s.hp 9 d = some d') : callN p (n + 1) f as h = .ok d' h := by
  obtain ⟨f', s, e, d, rfl, r⟩ := hb
  exact call_pure hf hl hp hn ⟨d, s, e, r⟩
theorem call_runO {n f : Nat} {fd : FD} {as as' : List D} {d' : D} (hf : p.fns[f]? = some fd) (hl : as.length = fd.np) (hp : fd.pure_ = true) (hn : nrs as = false) (ha : as.mapM (rsv h 9) = some as')
    (hb : Wp p (callN p n) fd.body ⟨as'.map some ++ List.replicate (fd.nl - fd.np) none, []⟩ fun f s => ∃ d, f = .rt d ∧ own s.hp 9 d = some d') : callN p (n + 1) f as h = .ok d' h := by
  obtain ⟨f', s, e, d, rfl, r⟩ := hb
  exact call_own as' hf hl hp hn ha ⟨d, s, e, r⟩
theorem call_runI {n f : Nat} {fd : FD} {as : List D} {d : D} (hf : p.fns[f]? = some fd) (hl : as.length = fd.np) (hp : fd.pure_ = false)
    (hb : Wp p (callN p n) fd.body ⟨as.map some ++ List.replicate (fd.nl - fd.np) none, h⟩ fun f s => rtD f = some d ∧ s.hp = h1) : callN p (n + 1) f as h = .ok d h1 := by
  obtain ⟨f', s, e, r, z⟩ := hb
  exact call_imp hf hl hp ⟨f', s, e, r, z⟩
end R
namespace R
open PySem
variable {p : Pg} {c : Calls} {ms : List MS} {s : Sx} {Q : Fl → Sx → Prop} {sl : List (Option D)} {h h1 h2 h3 : Mm} {d x y : D} {i : Nat} {e o k : ME}
theorem wp_dec {m1 m2 : List MS} (P : Prop) [Decidable P] (a : evalE p c k sl h = .ok (.bl (decide P)) h1) (q1 : P → Wp p c m1 ⟨sl, h1⟩ (Nxt p c ms Q)) (q2 : ¬ P → Wp p c m2 ⟨sl, h1⟩ (Nxt p c ms Q)) : Wp p c (.ite k m1 m2 :: ms) ⟨sl, h⟩ Q := by
  by_cases z : P
  · rw [decide_eq_true z] at a
    exact wp_then a rfl (q1 z)
  · rw [decide_eq_false z] at a
    exact wp_else a rfl (q2 z)
/-- comprehensions over a list -/
theorem lc_list {obj : Bool} {elt : ME} {g : Tg} {it : It} {own : List Nat} {α : Type} {xs : List α} {F G : α → D} (a : evalI p c it sl h = .ok (xs.map F) h1) (hn : xs.length ≤ 16777216)
    (step : ∀ k ∈ xs, ∃ sl', bindT g (F k) (wipe sl own) = some sl' ∧ evalE p c elt sl' h1 = .ok (G k) h1) : evalE p c (.lc obj elt g it none own) sl h = (if obj = true then .ok (.ref h1.length) (h1 ++ [.lst (xs.map G)]) else .ok (.lst (xs.map G)) h1) := by
  simp only [evalE, a, Res.bind_ok]
  rw [mapL_map (g := G) fun k hk => ?_]
  · simp only [Res.bind_ok, mkL, List.length_map, szOk_of hn, if_true]
  · obtain ⟨sl', b, e⟩ := step k hk
    simp only [b, e, noExn, Res.bind_ok]
def ns (l : List Nat) : List D := l.map fun (n : Nat) => .int (n : Int)
abbrev bs (l : List Nat) : D := .lst (ns l)
@[simp] theorem ns_nil : ns [] = [] := rfl
@[simp] theorem ns_cons (a : Nat) (l : List Nat) : ns (a :: l) = .int (a : Int) :: ns l := rfl
@[simp] theorem ns_len (l : List Nat) : (ns l).length = l.length := by unfold ns; rw [List.length_map]
/-- lists of such lists -/
def nss (l : List (List Nat)) : List D := l.map bs
@[simp] theorem nss_len (l : List (List Nat)) : (nss l).length = l.length := by unfold nss; rw [List.length_map]
end R
namespace PT
open PySem R
/-- 0: values.value_key (value) -/
def d_value_key : FD := ⟨1, 1, [.ite (.isi .int_ (.var 0)) [.ret (.tup [(.lit (.int 0)), (.var 0)])] [], .ret (.tup [(.lit (.int 1)), (.var 0)])], true, []⟩
/-- 1: values.row_key (row, parts, value) -/
def d_row_key : FD := ⟨1, 3, [.set 1 (.lst true []), .for_ (.nm 2) (.seq (.var 0)) [.ex (.bm .extend false (.var 1) [(.call 0 [(.var 2)])])], .frzv 1, .ret (.blt .tuple_ false [(.var 1)])], true, []⟩
/-- 2: values.key_of (item, row) -/
def d_key_of : FD := ⟨1, 2, [.set 1 (.tup []), .ite (.cmp .eq (.idx (.var 0) (.lit (.int 0))) (.lit (.str "fact"))) [.set 1 (.idx (.var 0) (.lit (.int 2)))] [], .ret (.tup [(.kidx 0 (.idx (.var 0) (.lit (.int 0)))), (.idx (.var 0) (.lit (.int 1))), (.var 1)])], true, []⟩
/-- 3: values.key_order (key, sort, name, row) -/
def d_key_order : FD := ⟨1, 4, [.unp (.tp [(.nm 1), (.nm 2), (.nm 3)]) (.var 0), .ret (.bin .add false (.tup [(.var 1), (.var 2)]) (.call 1 [(.var 3)]))], true, []⟩
/-- 4: states.State.__init__ (self, items, item) -/
def d_State___init__ : FD := ⟨2, 3, [.setf (.var 0) 0 .dnew, .setf (.var 0) 1 .dnew, .setf (.var 0) 2 .dnew, .setf (.var 0) 3 .dnew, .forP (.nm 2) (.var 1) [.ex (.meth (.var 0) 0 [(.var 2)])], .ex (.meth (.var 0) 2 [])], false, []⟩
/-- 5: states.State._put (self, item, sort, name) -/
def d_State__put : FD := ⟨2, 4, [.set 2 (.idx (.var 1) (.lit (.int 0))), .set 3 (.idx (.var 1) (.lit (.int 1))), .ite (.cmp .eq (.var 2) (.lit (.str "relation"))) [.dput (.fld (.var 0) 0) (.var 3) (.tup [(.idx (.var 1) (.lit (.int 2))), (.idx (.var 1) (.lit (.int 3)))]), .ex (.dsetd (.fld (.var 0) 1) (.var 3) (.lst true []))] [.ite (.cmp .eq (.var 2) (.lit (.str "fact"))) [.ite (.not_ (.meth (.var 0) 4 [(.var 3), (.idx (.var 1) (.lit (.int 2)))])) [.ex (.bm .append false (.dsetd (.fld (.var 0) 1) (.var 3) (.lst true [])) [(.idx (.var 1) (.lit (.int 2)))])] []] [.ite (.cmp .eq (.var 2) (.lit (.str "structure"))) [.dput (.fld (.var 0) 2) (.var 3) (.tup [(.idx (.var 1) (.lit (.int 2))), (.idx (.var 1) (.lit (.int 3))), (.idx (.var 1) (.lit (.int 4))), (.idx (.var 1) (.lit (.int 5)))])] [.dput (.fld (.var 0) 3) (.var 3) (.idx (.var 1) (.lit (.int 2)))]]]], false, []⟩
/-- 6: states.State._take (self, key, sort, name, row, other) -/
def d_State__take : FD := ⟨2, 6, [.unp (.tp [(.nm 2), (.nm 3), (.nm 4)]) (.var 1), .ite (.cmp .eq (.var 2) (.lit (.int 0))) [.ex (.dpop2 (.fld (.var 0) 0) (.var 3) (.lit .non))] [.ite (.cmp .eq (.var 2) (.lit (.int 1))) [.dput (.fld (.var 0) 1) (.var 3) (.lc true (.var 5) (.nm 5) (.seq (.dget2 (.fld (.var 0) 1) (.var 3) (.lst false []))) (some (.cmp .ne (.var 5) (.var 4))) [5])] [.ite (.cmp .eq (.var 2) (.lit (.int 2))) [.ex (.dpop2 (.fld (.var 0) 2) (.var 3) (.lit .non))] [.ex (.dpop2 (.fld (.var 0) 3) (.var 3) (.lit .non))]]]], false, []⟩
/-- 7: states.State._order_facts (self, kept, name) -/
def d_State__order_facts : FD := ⟨1, 3, [.set 1 .dnew, .forP (.nm 2) (.fld (.var 0) 1) [.ite (.bop false [(.mem false (.var 2) (.fld (.var 0) 0)), (.cmp .gt (.blt .len false [(.idx (.fld (.var 0) 1) (.var 2))]) (.lit (.int 0)))]) [.dput (.var 1) (.var 2) (.srk true (.idx (.fld (.var 0) 1) (.var 2)) 1)] []], .setf (.var 0) 1 (.var 1)], false, []⟩
/-- 8: states.State.all_items (self, found, name, row) -/
def d_State_all_items : FD := ⟨1, 4, [.set 1 (.lst true []), .for_ (.nm 2) (.seq (.blt .sorted_ false [(.fld (.var 0) 0)])) [.ex (.bm .append false (.var 1) [(.bin .add false (.tup [(.lit (.str "relation")), (.var 2)]) (.idx (.fld (.var 0) 0) (.var 2)))])], .for_ (.nm 2) (.seq (.blt .sorted_ false [(.fld (.var 0) 1)])) [.ex (.bm .extend false (.var 1) [(.lk (.idx (.fld (.var 0) 1) (.var 2)) (.lc false (.tup [(.lit (.str "fact")), (.var 2), (.var 3)]) (.nm 3) (.seq (.idx (.fld (.var 0) 1) (.var 2))) none [3]))])], .for_ (.nm 2) (.seq (.blt .sorted_ false [(.fld (.var 0) 2)])) [.ex (.bm .append false (.var 1) [(.bin .add false (.tup [(.lit (.str "structure")), (.var 2)]) (.idx (.fld (.var 0) 2) (.var 2)))])], .for_ (.nm 2) (.seq (.blt .sorted_ false [(.fld (.var 0) 3)])) [.ex (.bm .append false (.var 1) [(.tup [(.lit (.str "layout")), (.var 2), (.idx (.fld (.var 0) 3) (.var 2))])])], .ret (.var 1)], false, []⟩
/-- 9: states.State.has (self, relation, row) -/
def d_State_has : FD := ⟨3, 3, [.ret (.mem false (.var 2) (.dget2 (.fld (.var 0) 1) (.var 1) (.lst false [])))], false, []⟩
/-- 10: states.State.copy (self) -/
def d_State_copy : FD := ⟨1, 1, [.ret (.make 0 [(.meth (.var 0) 3 [])])], false, []⟩
/-- 11: states.State.change (self, changes, result, word, what) -/
def d_State_change : FD := ⟨2, 5, [.set 2 (.meth (.var 0) 5 []), .for_ (.tp [(.nm 3), (.nm 4)]) (.seq (.var 1)) [.ite (.cmp .eq (.var 3) (.lit (.str "comes"))) [.ex (.meth (.var 2) 0 [(.var 4)])] [.ex (.meth (.var 2) 1 [(.var 4)])]], .ex (.meth (.var 2) 2 []), .frzv 2, .ret (.var 2)], true, []⟩
/-- 12: states.State.same_schema (self, other) -/
def d_State_same_schema : FD := ⟨2, 2, [.ite (.bop false [(.cmp .ne (.fld (.var 0) 0) (.fld (.var 1) 0)), (.cmp .ne (.fld (.var 0) 2) (.fld (.var 1) 2))]) [.ret (.lit (.bl false))] [], .ret (.cmp .eq (.fld (.var 0) 3) (.fld (.var 1) 3))], true, []⟩
/-- 13: states.between (first, second, old, new, gone, changes, key, item) -/
def d_between : FD := ⟨2, 8, [.set 2 (.lit .non), .set 3 (.lit .non), .set 4 (.lc false (.var 6) (.nm 6) (.seq (.var 2)) (some (.mem true (.var 6) (.var 3))) [6]), .set 5 (.lc true (.tup [(.lit (.str "goes")), (.var 6)]) (.nm 6) (.seq (.srk false (.var 4) 3)) none [6]), .for_ (.nm 6) (.seq (.srk false (.var 3) 3)) [.ite (.bop false [(.mem true (.var 6) (.var 2)), (.cmp .ne (.idx (.var 2) (.var 6)) (.idx (.var 3) (.var 6)))]) [.ex (.bm .append false (.var 5) [(.tup [(.lit (.str "comes")), (.idx (.var 3) (.var 6))])])] []], .frzv 5, .ret (.var 5)], true, []⟩
/-- 14: codes.write_number (number, data) -/
def d_write_number : FD := ⟨1, 2, [.set 1 (.lst true []), .while_ 10000000 (.cmp .ge (.var 0) (.lit (.int 128))) [.ex (.bm .append false (.var 1) [(.bin .add false (.bin .mod false (.var 0) (.lit (.int 128))) (.lit (.int 128)))]), .set 0 (.bin .fdiv false (.var 0) (.lit (.int 128)))], .frzv 1, .ret (.bin .add true (.var 1) (.lst false [(.var 0)]))], false, []⟩
/-- 15: codes.write_integer (number) -/
def d_write_integer : FD := ⟨1, 1, [.ret (.bin .add false (.lst false [(.blt .int_ false [(.cmp .lt (.var 0) (.lit (.int 0)))])]) (.frz (.call 14 [(.blt .abs_ false [(.var 0)])])))], true, []⟩
/-- 16: codes.write_list (items, data, item) -/
def d_write_list : FD := ⟨1, 3, [.set 1 (.call 14 [(.blt .len false [(.var 0)])]), .for_ (.nm 2) (.seq (.var 0)) [.ex (.bm .extend false (.var 1) [(.var 2)])], .frzv 1, .ret (.var 1)], true, []⟩
/-- 17: codes.write_string (text, character) -/
def d_write_string : FD := ⟨1, 2, [.ret (.call 16 [(.lc false (.frz (.call 14 [(.blt .ord_ false [(.var 1)])])) (.nm 1) (.seq (.var 0)) none [1])])], true, []⟩
/-- 18: codes.write_names (names, name) -/
def d_write_names : FD := ⟨1, 2, [.ret (.call 16 [(.lc false (.call 17 [(.var 1)]) (.nm 1) (.seq (.var 0)) none [1])])], true, []⟩
/-- 19: codes.write_value (value) -/
def d_write_value : FD := ⟨1, 1, [.ite (.isi .int_ (.var 0)) [.ret (.bin .add false (.lst false [(.lit (.int 0))]) (.call 15 [(.var 0)]))] [], .ret (.bin .add false (.lst false [(.lit (.int 1))]) (.call 17 [(.var 0)]))], true, []⟩
/-- 20: codes.write_row (row, value) -/
def d_write_row : FD := ⟨1, 2, [.ret (.call 16 [(.lc false (.call 19 [(.var 1)]) (.nm 1) (.seq (.var 0)) none [1])])], true, []⟩
/-- 21: codes.write_item (item, data) -/
def d_write_item : FD := ⟨1, 2, [.set 1 (.bin .add false (.lst false [(.kidx 0 (.idx (.var 0) (.lit (.int 0))))]) (.call 17 [(.idx (.var 0) (.lit (.int 1)))])), .ite (.cmp .eq (.idx (.var 0) (.lit (.int 0))) (.lit (.str "relation"))) [.ret (.bin .add false (.bin .add false (.var 1) (.call 18 [(.idx (.var 0) (.lit (.int 2)))])) (.frz (.call 14 [(.idx (.var 0) (.lit (.int 3)))])))] [], .ite (.cmp .eq (.idx (.var 0) (.lit (.int 0))) (.lit (.str "fact"))) [.ret (.bin .add false (.var 1) (.call 20 [(.idx (.var 0) (.lit (.int 2)))]))] [], .ite (.cmp .eq (.idx (.var 0) (.lit (.int 0))) (.lit (.str "structure"))) [.set 1 (.bin .add false (.bin .add false (.var 1) (.call 17 [(.idx (.var 0) (.lit (.int 2)))])) (.call 18 [(.idx (.var 0) (.lit (.int 3)))])), .ret (.bin .add false (.bin .add false (.var 1) (.frz (.call 14 [(.idx (.var 0) (.lit (.int 4)))]))) (.frz (.call 14 [(.idx (.var 0) (.lit (.int 5)))])))] [], .ret (.bin .add false (.var 1) (.call 18 [(.idx (.var 0) (.lit (.int 2)))]))], true, []⟩
/-- 22: codes.write_change (change, word, what, sort, name, row) -/
def d_write_change : FD := ⟨1, 6, [.unp (.tp [(.nm 1), (.nm 2)]) (.var 0), .ite (.cmp .eq (.var 1) (.lit (.str "comes"))) [.ret (.bin .add false (.lst false [(.lit (.int 0))]) (.call 21 [(.var 2)]))] [], .unp (.tp [(.nm 3), (.nm 4), (.nm 5)]) (.var 2), .ret (.bin .add false (.bin .add false (.bin .add false (.lst false [(.lit (.int 1))]) (.frz (.call 14 [(.var 3)]))) (.call 17 [(.var 4)])) (.call 20 [(.var 5)]))], true, []⟩
/-- 23: codes.write_changes (changes, change) -/
def d_write_changes : FD := ⟨1, 2, [.ret (.call 16 [(.lc false (.call 22 [(.var 1)]) (.nm 1) (.seq (.var 0)) none [1])])], true, []⟩
/-- 24: codes.write_image (commits, state, item) -/
def d_write_image : FD := ⟨2, 3, [.ret (.bin .add false (.frz (.call 14 [(.var 0)])) (.call 16 [(.lc false (.call 21 [(.var 2)]) (.nm 2) (.seq (.meth (.var 1) 3 [])) none [2])]))], true, []⟩
/-- 25: codes.Reader.__init__ (self, data) -/
def d_Reader___init__ : FD := ⟨2, 2, [.setf (.var 0) 11 (.blt .list_ false [(.var 1)]), .setf (.var 0) 12 (.lit (.int 0))], false, []⟩
/-- 26: codes.Reader.read_byte (self) -/
def d_Reader_read_byte : FD := ⟨1, 1, [.ite (.cmp .ge (.fld (.var 0) 12) (.blt .len false [(.fld (.var 0) 11)])) [.rse 10] [], .augf (.var 0) 12 .add (.lit (.int 1)), .ret (.idx (.fld (.var 0) 11) (.bin .sub false (.fld (.var 0) 12) (.lit (.int 1))))], false, []⟩
/-- 27: codes.Reader.read_choice (self, count, byte) -/
def d_Reader_read_choice : FD := ⟨2, 3, [.set 2 (.meth (.var 0) 8 []), .ite (.cmp .ge (.var 2) (.var 1)) [.rse 10] [], .ret (.var 2)], false, []⟩
/-- 28: codes.Reader.end (self) -/
def d_Reader_end : FD := ⟨1, 1, [.ite (.cmp .lt (.fld (.var 0) 12) (.blt .len false [(.fld (.var 0) 11)])) [.rse 10] []], true, []⟩
/-- 29: codes.Reader.read_number (self, total, factor, index, byte) -/
def d_Reader_read_number : FD := ⟨1, 5, [.set 1 (.lit (.int 0)), .set 2 (.lit (.int 1)), .for_ (.nm 3) (.rng1 (.glb 3)) [.set 4 (.meth (.var 0) 8 []), .aug 1 .add (.bin .mul false (.bin .mod false (.var 4) (.lit (.int 128))) (.var 2)), .ite (.cmp .lt (.var 4) (.lit (.int 128))) [.ite (.bop true [(.cmp .eq (.var 4) (.lit (.int 0))), (.cmp .gt (.var 3) (.lit (.int 0)))]) [.rse 10] [], .ret (.var 1)] [], .set 2 (.bin .mul false (.var 2) (.lit (.int 128)))], .rse 10], false, []⟩
/-- 30: codes.Reader.read_integer (self, is_negative, number) -/
def d_Reader_read_integer : FD := ⟨1, 3, [.set 1 (.cmp .eq (.meth (.var 0) 9 [(.lit (.int 2))]) (.lit (.int 1))), .set 2 (.meth (.var 0) 11 []), .ite (.bop true [(.var 1), (.cmp .eq (.var 2) (.lit (.int 0)))]) [.rse 10] [], .ret (.ife (.var 1) (.neg (.var 2)) (.var 2))], false, []⟩
/-- 31: codes.Reader.read_count (self, count) -/
def d_Reader_read_count : FD := ⟨1, 2, [.set 1 (.meth (.var 0) 11 []), .ite (.cmp .gt (.var 1) (.bin .sub false (.blt .len false [(.fld (.var 0) 11)]) (.fld (.var 0) 12))) [.rse 10] [], .ret (.var 1)], false, []⟩
/-- 32: codes.Reader.read_character (self, code) -/
def d_Reader_read_character : FD := ⟨1, 2, [.set 1 (.meth (.var 0) 11 []), .ite (.cmp2 .le .lt (.lit (.int 32)) (.var 1) (.lit (.int 37))) [.ret (.idx (.glb 1) (.bin .sub false (.var 1) (.lit (.int 32))))] [], .ite (.cmp2 .le .lt (.lit (.int 38)) (.var 1) (.lit (.int 127))) [.ret (.idx (.glb 2) (.bin .sub false (.var 1) (.lit (.int 38))))] [], .rse 10], false, []⟩
/-- 33: codes.Reader.read_string (self, _) -/
def d_Reader_read_string : FD := ⟨1, 2, [.ret (.bm .join false (.lit (.str "")) [(.lc false (.meth (.var 0) 14 []) (.nm 1) (.rng1 (.meth (.var 0) 13 [])) none [1])])], false, []⟩
/-- 34: codes.Reader.read_names (self, _) -/
def d_Reader_read_names : FD := ⟨1, 2, [.ret (.blt .tuple_ false [(.lc false (.meth (.var 0) 15 []) (.nm 1) (.rng1 (.meth (.var 0) 13 [])) none [1])])], false, []⟩
/-- 35: codes.Reader.read_value (self) -/
def d_Reader_read_value : FD := ⟨1, 1, [.ite (.cmp .eq (.meth (.var 0) 9 [(.lit (.int 2))]) (.lit (.int 0))) [.ret (.meth (.var 0) 12 [])] [], .ret (.meth (.var 0) 15 [])], false, []⟩
/-- 36: codes.Reader.read_row (self, _) -/
def d_Reader_read_row : FD := ⟨1, 2, [.ret (.blt .tuple_ false [(.lc false (.meth (.var 0) 17 []) (.nm 1) (.rng1 (.meth (.var 0) 13 [])) none [1])])], false, []⟩
/-- 37: codes.Reader.read_item (self, sort, name, columns, relation, buckets) -/
def d_Reader_read_item : FD := ⟨1, 6, [.set 1 (.idx (.glb 0) (.meth (.var 0) 9 [(.blt .len false [(.glb 0)])])), .set 2 (.meth (.var 0) 15 []), .ite (.cmp .eq (.var 1) (.lit (.str "relation"))) [.set 3 (.meth (.var 0) 16 []), .ret (.tup [(.var 1), (.var 2), (.var 3), (.meth (.var 0) 11 [])])] [], .ite (.cmp .eq (.var 1) (.lit (.str "fact"))) [.ret (.tup [(.var 1), (.var 2), (.meth (.var 0) 18 [])])] [], .ite (.cmp .eq (.var 1) (.lit (.str "structure"))) [.set 4 (.meth (.var 0) 15 []), .set 3 (.meth (.var 0) 16 []), .set 5 (.meth (.var 0) 11 []), .ret (.tup [(.var 1), (.var 2), (.var 4), (.var 3), (.var 5), (.meth (.var 0) 11 [])])] [], .ret (.tup [(.var 1), (.var 2), (.meth (.var 0) 16 [])])], false, []⟩
/-- 38: codes.Reader.read_change (self, sort, name) -/
def d_Reader_read_change : FD := ⟨1, 3, [.ite (.cmp .eq (.meth (.var 0) 9 [(.lit (.int 2))]) (.lit (.int 0))) [.ret (.tup [(.lit (.str "comes")), (.meth (.var 0) 19 [])])] [], .set 1 (.meth (.var 0) 9 [(.blt .len false [(.glb 0)])]), .set 2 (.meth (.var 0) 15 []), .ret (.tup [(.lit (.str "goes")), (.tup [(.var 1), (.var 2), (.meth (.var 0) 18 [])])])], false, []⟩
/-- 39: codes.Reader.read_changes (self, _) -/
def d_Reader_read_changes : FD := ⟨1, 2, [.ret (.lc false (.meth (.var 0) 20 []) (.nm 1) (.rng1 (.meth (.var 0) 13 [])) none [1])], false, []⟩
/-- 40: codes.Reader.read_image (self, commits, items, _) -/
def d_Reader_read_image : FD := ⟨1, 4, [.set 1 (.meth (.var 0) 11 []), .set 2 (.lc false (.meth (.var 0) 19 []) (.nm 3) (.rng1 (.meth (.var 0) 13 [])) none [3]), .ret (.tup [(.var 1), (.make 0 [(.var 2)])])], false, []⟩
/-- 41: blocks.fixed (number, count, data, _) -/
def d_fixed : FD := ⟨2, 4, [.set 2 (.lst true []), .for_ (.nm 3) (.rng1 (.var 1)) [.ex (.bm .append false (.var 2) [(.bin .mod false (.var 0) (.lit (.int 256)))]), .set 0 (.bin .fdiv false (.var 0) (.lit (.int 256)))], .frzv 2, .ret (.rev false (.var 2))], true, []⟩
/-- 42: blocks.number_of (data, total, byte) -/
def d_number_of : FD := ⟨1, 3, [.set 1 (.lit (.int 0)), .for_ (.nm 2) (.seq (.var 0)) [.set 1 (.bin .add false (.bin .mul false (.lit (.int 256)) (.var 1)) (.var 2))], .ret (.var 1)], true, []⟩
/-- 43: blocks.turn_of (sector) -/
def d_turn_of : FD := ⟨1, 1, [.ret (.call 42 [(.slc false (.var 0) none (some (.lit (.int 6))))])], true, []⟩
/-- 44: blocks.write_block (turn, data, content, pieces, front, start, piece) -/
def d_write_block : FD := ⟨2, 7, [.set 2 (.bin .add false (.call 41 [(.blt .len false [(.var 1)]), (.lit (.int 4))]) (.blt .list_ false [(.var 1)])), .set 3 (.lc false (.slc false (.var 2) (some (.var 5)) (some (.bin .add false (.var 5) (.glb 4)))) (.nm 5) (.rng3 (.lit (.int 0)) (.blt .len false [(.var 2)]) (.glb 4)) none [5]), .set 4 (.bin .add false (.call 41 [(.var 0), (.lit (.int 6))]) (.call 41 [(.blt .len false [(.var 3)]), (.lit (.int 4))])), .ret (.lc false (.bin .add false (.bin .add false (.var 4) (.var 6)) (.bin .mul false (.lst false [(.lit (.int 0))]) (.bin .sub false (.glb 4) (.blt .len false [(.var 6)])))) (.nm 6) (.seq (.var 3)) none [6])], true, []⟩
/-- 45: blocks.read_block (sectors, turn, count, content, sector, size) -/
def d_read_block : FD := ⟨2, 6, [.ite (.cmp .eq (.blt .len false [(.var 0)]) (.lit (.int 0))) [.ret (.lit .non)] [], .set 2 (.call 42 [(.slc false (.idx (.var 0) (.lit (.int 0))) (some (.lit (.int 6))) (some (.lit (.int 10))))]), .ite (.not_ (.cmp2 .le .le (.lit (.int 1)) (.var 2) (.blt .len false [(.var 0)]))) [.ret (.lit .non)] [], .set 3 (.lst false []), .for_ (.nm 4) (.seq (.slc false (.var 0) none (some (.var 2)))) [.ite (.cmp .ne (.call 43 [(.var 4)]) (.var 1)) [.ret (.lit .non)] [], .set 3 (.bin .add false (.var 3) (.slc false (.var 4) (some (.lit (.int 10))) none))], .set 5 (.call 42 [(.slc false (.var 3) none (some (.lit (.int 4))))]), .ite (.cmp .gt (.var 5) (.bin .sub false (.blt .len false [(.var 3)]) (.lit (.int 4)))) [.ret (.lit .non)] [], .ret (.tup [(.slc false (.var 3) (some (.lit (.int 4))) (some (.bin .add false (.lit (.int 4)) (.var 5)))), (.var 2)])], true, []⟩
/-- 46: blocks.region_start (size) -/
def d_region_start : FD := ⟨1, 1, [.ret (.bin .sub false (.var 0) (.bin .fdiv false (.bin .sub false (.var 0) (.lit (.int 2))) (.lit (.int 2))))], true, []⟩
/-- 47: blocks.area_size (size) -/
def d_area_size : FD := ⟨1, 1, [.ret (.bin .fdiv false (.bin .sub false (.call 46 [(.var 0)]) (.lit (.int 2))) (.lit (.int 2)))], true, []⟩
/-- 48: blocks.area_start (size, area) -/
def d_area_start : FD := ⟨2, 2, [.ret (.bin .add false (.lit (.int 2)) (.bin .mul false (.var 1) (.call 47 [(.var 0)])))], true, []⟩
/-- 49: blocks.head (turn, area) -/
def d_head : FD := ⟨2, 2, [.ret (.bin .add false (.bin .add false (.kcat 5 false (.call 41 [(.var 0), (.lit (.int 6))])) (.lst false [(.var 1)])) (.bin .mul false (.lst false [(.lit (.int 0))]) (.glb 6)))], true, []⟩
/-- 50: blocks.read_head (sector, turn, area) -/
def d_read_head : FD := ⟨1, 3, [.set 1 (.call 42 [(.slc false (.var 0) (some (.lit (.int 4))) (some (.lit (.int 10))))]), .set 2 (.idx (.var 0) (.lit (.int 10))), .ite (.bop false [(.cmp .lt (.var 1) (.lit (.int 1))), (.cmp .gt (.var 2) (.lit (.int 1))), (.cmp .ne (.var 0) (.call 49 [(.var 1), (.var 2)]))]) [.ret (.lit .non)] [], .ret (.tup [(.var 1), (.var 2)])], true, []⟩
/-- 51: blocks.counting_head (disk, found, place, told) -/
def d_counting_head : FD := ⟨1, 4, [.set 1 (.lit .non), .for_ (.nm 2) (.rng1 (.lit (.int 2))) [.set 3 (.call 50 [(.meth (.var 0) 62 [(.var 2)])]), .ite (.bop true [(.isn true (.var 3)), (.bop false [(.isn false (.var 1)), (.cmp .gt (.idx (.var 3) (.lit (.int 0))) (.idx (.var 1) (.lit (.int 1))))])]) [.set 1 (.tup [(.var 2), (.idx (.var 3) (.lit (.int 0))), (.idx (.var 3) (.lit (.int 1)))])] []], .ret (.var 1)], true, []⟩
/-- 52: blocks.area_sectors (disk, area, start, index) -/
def d_area_sectors : FD := ⟨2, 4, [.set 2 (.call 48 [(.meth (.var 0) 61 []), (.var 1)]), .ret (.lc false (.meth (.var 0) 62 [(.bin .add false (.var 2) (.var 3))]) (.nm 3) (.rng1 (.call 47 [(.meth (.var 0) 61 [])])) none [3])], true, []⟩
/-- 53: blocks.found (disk, told, sectors, block, place, turn, area, data, used, commits, state, count) -/
def d_found : FD := ⟨1, 12, [.set 1 (.call 51 [(.var 0)]), .ite (.isn false (.var 1)) [.ret (.lit .non)] [], .unp (.tp [(.nm 4), (.nm 5), (.nm 6)]) (.var 1), .set 2 (.call 52 [(.var 0), (.var 6)]), .unp (.tp [(.nm 7), (.nm 8)]) (.call 45 [(.var 2), (.var 5)]), .unp (.tp [(.nm 9), (.nm 10)]) (.meth (.make 2 [(.var 7)]) 22 []), .set 3 (.call 45 [(.slc false (.var 2) (some (.var 8)) none), (.var 5)]), .while_ 10000000 (.isn true (.var 3)) [.unp (.tp [(.nm 7), (.nm 11)]) (.var 3), .set 10 (.meth (.var 10) 6 [(.meth (.make 2 [(.var 7)]) 21 [])]), .aug 9 .add (.lit (.int 1)), .aug 8 .add (.var 11), .set 3 (.call 45 [(.slc false (.var 2) (some (.var 8)) none), (.var 5)])], .ret (.tup [(.var 4), (.var 5), (.var 6), (.var 9), (.var 10)])], true, []⟩
/-- 54: shapes._sector (count, data) -/
def d__sector : FD := ⟨2, 2, [.ret (.bin .add false (.bin .add false (.lst false [(.var 0)]) (.var 1)) (.bin .mul false (.lst false [(.lit (.int 0))]) (.bin .sub false (.bin .sub false (.glb 7) (.lit (.int 1))) (.blt .len false [(.var 1)]))))], true, []⟩
/-- 55: shapes.pack (rows, sectors, count, data, row, code) -/
def d_pack : FD := ⟨1, 6, [.set 1 (.lst true []), .set 2 (.lit (.int 0)), .set 3 (.lst false []), .for_ (.nm 4) (.seq (.var 0)) [.set 5 (.call 20 [(.var 4)]), .ite (.cmp .gt (.blt .len false [(.var 5)]) (.bin .sub false (.glb 7) (.lit (.int 1)))) [.ret (.lit .non)] [], .ite (.cmp .gt (.bin .add false (.blt .len false [(.var 3)]) (.blt .len false [(.var 5)])) (.bin .sub false (.glb 7) (.lit (.int 1)))) [.ex (.bm .append false (.var 1) [(.call 54 [(.var 2), (.var 3)])]), .set 2 (.lit (.int 0)), .set 3 (.lst false [])] [], .aug 2 .add (.lit (.int 1)), .set 3 (.bin .add false (.var 3) (.var 5))], .ite (.cmp .gt (.var 2) (.lit (.int 0))) [.ex (.bm .append false (.var 1) [(.call 54 [(.var 2), (.var 3)])])] [], .frzv 1, .ret (.var 1)], true, []⟩
/-- 56: shapes.bucket_of_values (values, buckets, total, byte) -/
def d_bucket_of_values : FD := ⟨2, 4, [.set 2 (.lit (.int 0)), .for_ (.nm 3) (.seq (.call 20 [(.var 0)])) [.set 2 (.bin .mod false (.bin .add false (.bin .add false (.bin .mul false (.lit (.int 31)) (.var 2)) (.var 3)) (.lit (.int 1))) (.var 1))], .ret (.var 2)], true, []⟩
/-- 57: shapes.values_of (state, structure, row, names, relation, columns, _, column) -/
def d_values_of : FD := ⟨3, 8, [.unp (.tp [(.nm 4), (.nm 5), (.nm 6), (.nm 6)]) (.idx (.fld (.var 0) 2) (.var 1)), .set 3 (.idx (.idx (.fld (.var 0) 0) (.var 4)) (.lit (.int 0))), .ret (.blt .tuple_ false [(.lc false (.idx (.var 2) (.bm .tindex false (.var 3) [(.var 7)])) (.nm 7) (.seq (.var 5)) none [7])])], true, []⟩
/-- 58: shapes.bucket (state, structure, row) -/
def d_bucket : FD := ⟨3, 3, [.ret (.call 56 [(.call 57 [(.var 0), (.var 1), (.var 2)]), (.idx (.idx (.fld (.var 0) 2) (.var 1)) (.lit (.int 2)))])], true, []⟩
/-- 59: shapes._filled (rows, room, used, _) -/
def d__filled : FD := ⟨2, 4, [.set 2 (.call 55 [(.var 0)]), .ite (.bop false [(.isn false (.var 2)), (.cmp .gt (.blt .len false [(.var 2)]) (.var 1))]) [.ret (.lit .non)] [], .ret (.bin .add false (.var 2) (.lc false (.blt .list_ false [(.glb 8)]) (.nm 3) (.rng1 (.bin .sub false (.var 1) (.blt .len false [(.var 2)]))) none [3]))], true, []⟩
/-- 60: shapes.relation_shape (state, name) -/
def d_relation_shape : FD := ⟨2, 2, [.ret (.call 59 [(.idx (.fld (.var 0) 1) (.var 1)), (.idx (.idx (.fld (.var 0) 0) (.var 1)) (.lit (.int 1)))])], true, []⟩
/-- 61: shapes.rows_of_buckets (state, name, rows, row, relation, _, buckets) -/
def d_rows_of_buckets : FD := ⟨2, 7, [.unp (.tp [(.nm 4), (.nm 5), (.nm 6), (.nm 5)]) (.idx (.fld (.var 0) 2) (.var 1)), .set 2 (.lc true (.lst false []) (.nm 5) (.rng1 (.var 6)) none [5]), .for_ (.nm 3) (.seq (.idx (.fld (.var 0) 1) (.var 4))) [.ex (.bm .append false (.idx (.var 2) (.call 58 [(.var 0), (.var 1), (.var 3)])) [(.var 3)])], .frzv 2, .ret (.var 2)], true, []⟩
/-- 62: shapes.structure_shape (state, name, sectors, rows, found) -/
def d_structure_shape : FD := ⟨2, 5, [.set 2 (.lst true []), .for_ (.nm 3) (.seq (.call 61 [(.var 0), (.var 1)])) [.set 4 (.call 59 [(.var 3), (.idx (.idx (.fld (.var 0) 2) (.var 1)) (.lit (.int 3)))]), .ite (.isn false (.var 4)) [.ret (.lit .non)] [], .ex (.bm .extend false (.var 2) [(.var 4)])], .frzv 2, .ret (.var 2)], true, []⟩
/-- 63: shapes.rooms (state, found, name, _, buckets, sectors) -/
def d_rooms : FD := ⟨1, 6, [.set 1 (.lc true (.tup [(.tup [(.lit (.str "relation")), (.var 2)]), (.idx (.idx (.fld (.var 0) 0) (.var 2)) (.lit (.int 1)))]) (.nm 2) (.seq (.blt .sorted_ false [(.fld (.var 0) 0)])) none [2]), .for_ (.nm 2) (.seq (.blt .sorted_ false [(.fld (.var 0) 2)])) [.unp (.tp [(.nm 3), (.nm 3), (.nm 4), (.nm 5)]) (.idx (.fld (.var 0) 2) (.var 2)), .ex (.bm .append false (.var 1) [(.tup [(.tup [(.lit (.str "structure")), (.var 2)]), (.bin .mul false (.var 4) (.var 5))])])], .frzv 1, .ret (.var 1)], true, []⟩
/-- 64: shapes.places (state, found, start, name, room) -/
def d_places : FD := ⟨1, 5, [.set 1 .dnew, .set 2 (.lit (.int 0)), .for_ (.tp [(.nm 3), (.nm 4)]) (.seq (.call 63 [(.var 0)])) [.dput (.var 1) (.var 3) (.var 2), .aug 2 .add (.var 4)], .frzv 1, .ret (.var 1)], true, []⟩
/-- 65: shapes.room_needed (state, _, room) -/
def d_room_needed : FD := ⟨1, 3, [.ret (.blt .sum_ false [(.lc false (.var 2) (.tp [(.nm 1), (.nm 2)]) (.seq (.call 63 [(.var 0)])) none [1, 2])])], true, []⟩
/-- 66: costs.offered (state, name) -/
def d_offered : FD := ⟨1, 2, [.ite (.not_ (.fld (.var 0) 3)) [.ret (.lst false [(.tup [])])] [], .ret (.lc false (.idx (.fld (.var 0) 3) (.var 1)) (.nm 1) (.seq (.blt .sorted_ false [(.fld (.var 0) 3)])) none [1])], true, []⟩
/-- 67: costs.used_of_relation (state, name) -/
def d_used_of_relation : FD := ⟨2, 2, [.ret (.blt .len false [(.call 55 [(.dget2 (.fld (.var 0) 1) (.var 1) (.lst false []))])])], true, []⟩
/-- 68: costs.used_of_bucket (state, name, place, rows, row) -/
def d_used_of_bucket : FD := ⟨3, 5, [.set 3 (.dget2 (.fld (.var 0) 1) (.idx (.idx (.fld (.var 0) 2) (.var 1)) (.lit (.int 0))) (.lst false [])), .ret (.blt .len false [(.call 55 [(.lc false (.var 4) (.nm 4) (.seq (.var 3)) (some (.cmp .eq (.call 58 [(.var 0), (.var 1), (.var 4)]) (.var 2))) [4])])])], true, []⟩
/-- 69: costs.pattern_values (state, name, call, columns, values, column) -/
def d_pattern_values : FD := ⟨3, 6, [.set 3 (.idx (.idx (.fld (.var 0) 0) (.idx (.var 2) (.lit (.int 0)))) (.lit (.int 0))), .set 4 (.blt .tuple_ false [(.lc false (.idx (.idx (.var 2) (.lit (.int 1))) (.bm .tindex false (.var 3) [(.var 5)])) (.nm 5) (.seq (.idx (.idx (.fld (.var 0) 2) (.var 1)) (.lit (.int 1)))) none [5])]), .ite (.mem false (.lit .non) (.var 4)) [.ret (.lit .non)] [], .ret (.var 4)], true, []⟩
/-- 70: costs.read_sectors (state, layout, call, place, first, count, name, values, relation, _, buckets, sectors, index, used, k) -/
def d_read_sectors : FD := ⟨3, 15, [.ite (.bop false [(.mem true (.idx (.var 2) (.lit (.int 0))) (.fld (.var 0) 0)), (.cmp .ne (.blt .len false [(.idx (.var 2) (.lit (.int 1)))]) (.blt .len false [(.idx (.idx (.fld (.var 0) 0) (.idx (.var 2) (.lit (.int 0)))) (.lit (.int 0)))]))]) [.ret (.lst false [])] [], .set 3 (.tup [(.lit (.str "relation")), (.idx (.var 2) (.lit (.int 0)))]), .set 4 (.lit (.int 0)), .set 5 (.call 67 [(.var 0), (.idx (.var 2) (.lit (.int 0)))]), .for_ (.nm 6) (.seq (.blt .sorted_ false [(.var 1)])) [.unp (.tp [(.nm 8), (.nm 9), (.nm 10), (.nm 11)]) (.idx (.fld (.var 0) 2) (.var 6)), .ite (.cmp .ne (.var 8) (.idx (.var 2) (.lit (.int 0)))) [.cont] [], .set 7 (.call 69 [(.var 0), (.var 6), (.var 2)]), .ite (.isn true (.var 7)) [.set 12 (.call 56 [(.var 7), (.var 10)]), .set 13 (.call 68 [(.var 0), (.var 6), (.var 12)]), .ite (.cmp .lt (.var 13) (.var 5)) [.set 3 (.tup [(.lit (.str "structure")), (.var 6)]), .set 4 (.bin .mul false (.var 12) (.var 11)), .set 5 (.var 13)] []] []], .ret (.lc false (.tup [(.var 3), (.bin .add false (.var 4) (.var 14))]) (.nm 14) (.rng1 (.var 5)) none [14])], true, []⟩
/-- 71: costs.all_read (state, layout, calls, found, call, sector) -/
def d_all_read : FD := ⟨3, 6, [.set 3 .dnew, .for_ (.nm 4) (.seq (.var 2)) [.for_ (.nm 5) (.seq (.call 70 [(.var 0), (.var 1), (.var 4)])) [.dput (.var 3) (.var 5) (.lit (.bl true))]], .frzv 3, .ret (.blt .sorted_ false [(.var 3)])], true, []⟩
/-- 72: costs.differing (place, before, after, index) -/
def d_differing : FD := ⟨3, 4, [.ret (.lc false (.tup [(.var 0), (.var 3)]) (.nm 3) (.rng1 (.blt .len false [(.var 2)])) (some (.cmp .ne (.idx (.var 1) (.var 3)) (.idx (.var 2) (.var 3)))) [3])], true, []⟩
/-- 73: costs.written (before, after, layout, found, name, relation) -/
def d_written : FD := ⟨3, 6, [.set 3 (.lst true []), .for_ (.nm 4) (.seq (.blt .sorted_ false [(.fld (.var 0) 0)])) [.ite (.cmp .ne (.dget2 (.fld (.var 0) 1) (.var 4) (.lst false [])) (.dget2 (.fld (.var 1) 1) (.var 4) (.lst false []))) [.ex (.bm .extend false (.var 3) [(.call 72 [(.tup [(.lit (.str "relation")), (.var 4)]), (.call 60 [(.var 0), (.var 4)]), (.call 60 [(.var 1), (.var 4)])])])] []], .for_ (.nm 4) (.seq (.blt .sorted_ false [(.var 2)])) [.set 5 (.idx (.idx (.fld (.var 0) 2) (.var 4)) (.lit (.int 0))), .ite (.cmp .ne (.dget2 (.fld (.var 0) 1) (.var 5) (.lst false [])) (.dget2 (.fld (.var 1) 1) (.var 5) (.lst false []))) [.ex (.bm .extend false (.var 3) [(.call 72 [(.tup [(.lit (.str "structure")), (.var 4)]), (.call 62 [(.var 0), (.var 4)]), (.call 62 [(.var 1), (.var 4)])])])] []], .frzv 3, .ret (.var 3)], true, []⟩
/-- 74: costs.cost (before, after, layout, calls) -/
def d_cost : FD := ⟨4, 4, [.ret (.bin .add false (.blt .len false [(.call 71 [(.var 0), (.var 2), (.var 3)])]) (.blt .len false [(.call 73 [(.var 0), (.var 1), (.var 2)])]))], true, []⟩
/-- 75: costs.excesses (before, after, calls, costs, least, layout, one) -/
def d_excesses : FD := ⟨3, 7, [.set 3 (.lc false (.call 74 [(.var 0), (.var 1), (.var 5), (.var 2)]) (.nm 5) (.seq (.call 66 [(.var 0)])) none [5]), .set 4 (.blt .min1 false [(.var 3)]), .ret (.lc false (.bin .sub false (.var 6) (.var 4)) (.nm 6) (.seq (.var 3)) none [6])], true, []⟩
/-- 76: costs.laying (state, structure, relation, _, buckets, sectors) -/
def d_laying : FD := ⟨2, 6, [.unp (.tp [(.nm 2), (.nm 3), (.nm 4), (.nm 5)]) (.idx (.fld (.var 0) 2) (.var 1)), .ret (.bin .add false (.idx (.idx (.fld (.var 0) 0) (.var 2)) (.lit (.int 1))) (.bin .mul false (.var 4) (.var 5)))], true, []⟩
/-- 77: costs.stands (state, layout, name) -/
def d_stands : FD := ⟨2, 3, [.ret (.blt .sum_ false [(.lc false (.call 76 [(.var 0), (.var 2)]) (.nm 2) (.seq (.var 1)) none [2])])], true, []⟩
/-- 78: costs.going (state, first, second, name) -/
def d_going : FD := ⟨3, 4, [.ret (.blt .sum_ false [(.lc false (.call 76 [(.var 0), (.var 3)]) (.nm 3) (.seq (.var 2)) (some (.mem true (.var 3) (.var 1))) [3])])], true, []⟩
/-- 79: costs.way (state, first, second) -/
def d_way : FD := ⟨3, 3, [.ret (.bin .add false (.call 78 [(.var 0), (.var 1), (.var 2)]) (.call 78 [(.var 0), (.var 2), (.var 1)]))], true, []⟩
/-- 80: policy.next_works (works, task, ways, count, served, x, s) -/
def d_next_works : FD := ⟨3, 7, [.set 3 (.blt .len false [(.var 0)]), .set 4 (.lc false (.bin .add false (.idx (.var 0) (.var 5)) (.bin .mul false (.lit (.int 2)) (.idx (.var 1) (.var 5)))) (.nm 5) (.rng1 (.var 3)) none [5]), .ret (.lc false (.blt .min1 false [(.lc false (.bin .add false (.idx (.var 4) (.var 5)) (.idx (.idx (.var 2) (.var 5)) (.var 6))) (.nm 5) (.rng1 (.var 3)) none [5])]) (.nm 6) (.rng1 (.var 3)) none [6])], true, []⟩
/-- 81: policy.first_least (sums) -/
def d_first_least : FD := ⟨1, 1, [.ret (.bm .index false (.var 0) [(.blt .min1 false [(.var 0)])])], true, []⟩
/-- 82: policy.Policy.__init__ (self, start, stands, ways, row) -/
def d_Policy___init__ : FD := ⟨4, 5, [.setf (.var 0) 4 (.var 1), .setf (.var 0) 5 (.blt .list_ false [(.var 2)]), .setf (.var 0) 6 (.lk (.var 3) (.lc false (.blt .list_ false [(.var 4)]) (.nm 4) (.seq (.var 3)) none [4])), .setf (.var 0) 7 (.var 1), .setf (.var 0) 8 (.lit (.int 0)), .setf (.var 0) 9 (.lst true []), .setf (.var 0) 10 (.lst true [(.blt .list_ false [(.idx (.fld (.var 0) 6) (.var 1))])])], false, []⟩
/-- 83: policy.Policy.going (self, first, second) -/
def d_Policy_going : FD := ⟨3, 3, [.ret (.bin .fdiv false (.bin .sub false (.bin .add false (.idx (.idx (.fld (.var 0) 6) (.var 1)) (.var 2)) (.idx (.fld (.var 0) 5) (.var 2))) (.idx (.fld (.var 0) 5) (.var 1))) (.lit (.int 2)))], true, []⟩
/-- 84: policy.Policy.serve (self, task, works, count, sums, goal, x) -/
def d_Policy_serve : FD := ⟨2, 7, [.set 1 (.blt .list_ false [(.var 1)]), .set 2 (.idx (.fld (.var 0) 10) (.neg (.lit (.int 1)))), .set 3 (.blt .len false [(.var 2)]), .set 4 (.lc false (.bin .add false (.bin .add false (.idx (.var 2) (.var 6)) (.bin .mul false (.lit (.int 2)) (.idx (.var 1) (.var 6)))) (.idx (.idx (.fld (.var 0) 6) (.var 6)) (.fld (.var 0) 7))) (.nm 6) (.rng1 (.var 3)) none [6]), .set 5 (.fld (.var 0) 7), .ite (.cmp .lt (.blt .min1 false [(.var 4)]) (.idx (.var 4) (.fld (.var 0) 7))) [.set 5 (.call 81 [(.var 4)])] [], .augf (.var 0) 8 .add (.bin .add false (.meth (.var 0) 23 [(.fld (.var 0) 7), (.var 5)]) (.idx (.var 1) (.var 5))), .setf (.var 0) 7 (.var 5), .ex (.bm .append false (.fld (.var 0) 9) [(.var 1)]), .ex (.bm .append false (.fld (.var 0) 10) [(.call 80 [(.var 2), (.var 1), (.fld (.var 0) 6)])]), .ret (.var 5)], false, []⟩
/-- 85: policy.Policy.hindsight (self, count, ends, place, plan, index, works, task, s, x) -/
def d_Policy_hindsight : FD := ⟨1, 10, [.set 1 (.blt .len false [(.fld (.var 0) 5)]), .set 2 (.lc false (.bin .add false (.idx (.idx (.fld (.var 0) 10) (.neg (.lit (.int 1)))) (.var 8)) (.idx (.fld (.var 0) 5) (.var 8))) (.nm 8) (.rng1 (.var 1)) none [8]), .set 3 (.call 81 [(.var 2)]), .set 4 (.lst true []), .for_ (.nm 5) (.rng3 (.bin .sub false (.blt .len false [(.fld (.var 0) 9)]) (.lit (.int 1))) (.neg (.lit (.int 1))) (.neg (.lit (.int 1)))) [.set 6 (.idx (.fld (.var 0) 10) (.var 5)), .set 7 (.idx (.fld (.var 0) 9) (.var 5)), .set 3 (.call 81 [(.lc false (.bin .add false (.bin .add false (.idx (.var 6) (.var 9)) (.bin .mul false (.lit (.int 2)) (.idx (.var 7) (.var 9)))) (.idx (.idx (.fld (.var 0) 6) (.var 9)) (.var 3))) (.nm 9) (.rng1 (.var 1)) none [9])]), .ex (.bm .append false (.var 4) [(.var 3)])], .frzv 4, .ret (.tup [(.bin .fdiv false (.bin .sub false (.blt .min1 false [(.var 2)]) (.idx (.fld (.var 0) 5) (.fld (.var 0) 4))) (.lit (.int 2))), (.rev false (.var 4))])], true, []⟩
/-- 86: policy.Policy.paper (self, ways, tasks, works, spent, plan, row, task, work) -/
def d_Policy_paper : FD := ⟨1, 9, [.unp (.tp [(.nm 4), (.nm 5)]) (.meth (.var 0) 25 []), .set 1 (.blt .tuple_ false [(.lc false (.blt .tuple_ false [(.var 6)]) (.nm 6) (.seq (.fld (.var 0) 6)) none [6])]), .set 2 (.blt .tuple_ false [(.lc false (.blt .tuple_ false [(.var 7)]) (.nm 7) (.seq (.fld (.var 0) 9)) none [7])]), .set 3 (.blt .tuple_ false [(.lc false (.blt .tuple_ false [(.var 8)]) (.nm 8) (.seq (.fld (.var 0) 10)) none [8])]), .ret (.tup [(.fld (.var 0) 4), (.blt .tuple_ false [(.fld (.var 0) 5)]), (.var 1), (.var 2), (.var 3), (.blt .tuple_ false [(.var 5)]), (.var 4)])], true, []⟩
/-- 87: papers.is_number (value) -/
def d_is_number : FD := ⟨1, 1, [.ret (.bop true [(.isi .int_ (.var 0)), (.not_ (.isi .bool_ (.var 0))), (.cmp2 .le .le (.lit (.int 0)) (.var 0) (.glb 9))])], true, []⟩
/-- 88: papers.is_row (value, count, part) -/
def d_is_row : FD := ⟨2, 3, [.ite (.bop false [(.not_ (.isi .tup_ (.var 0))), (.cmp .ne (.blt .len false [(.var 0)]) (.var 1))]) [.ret (.lit (.bl false))] [], .for_ (.nm 2) (.seq (.var 0)) [.ite (.not_ (.call 87 [(.var 2)])) [.ret (.lit (.bl false))] []], .ret (.lit (.bl true))], true, []⟩
/-- 89: papers.is_table (value, rows, count, row) -/
def d_is_table : FD := ⟨3, 4, [.ite (.bop false [(.not_ (.isi .tup_ (.var 0))), (.cmp .ne (.blt .len false [(.var 0)]) (.var 1))]) [.ret (.lit (.bl false))] [], .for_ (.nm 3) (.seq (.var 0)) [.ite (.not_ (.call 88 [(.var 3), (.var 2)])) [.ret (.lit (.bl false))] []], .ret (.lit (.bl true))], true, []⟩
/-- 90: papers.has_form (paper, count, place, start, stands, ways, tasks, work, row, spent) -/
def d_has_form : FD := ⟨1, 10, [.ite (.bop false [(.not_ (.isi .tup_ (.var 0))), (.cmp .ne (.blt .len false [(.var 0)]) (.lit (.int 7)))]) [.ret (.lit (.bl false))] [], .unp (.tp [(.nm 3), (.nm 4), (.nm 5), (.nm 6), (.nm 7), (.nm 8), (.nm 9)]) (.var 0), .ite (.bop false [(.not_ (.isi .tup_ (.var 4))), (.not_ (.cmp2 .le .le (.lit (.int 1)) (.blt .len false [(.var 4)]) (.glb 10)))]) [.ret (.lit (.bl false))] [], .set 1 (.blt .len false [(.var 4)]), .ite (.bop false [(.not_ (.call 88 [(.var 4), (.var 1)])), (.not_ (.call 87 [(.var 3)])), (.cmp .ge (.var 3) (.var 1)), (.not_ (.call 87 [(.var 9)]))]) [.ret (.lit (.bl false))] [], .ite (.bop false [(.not_ (.isi .tup_ (.var 6))), (.cmp .gt (.blt .len false [(.var 6)]) (.glb 11))]) [.ret (.lit (.bl false))] [], .ite (.bop false [(.not_ (.call 89 [(.var 5), (.var 1), (.var 1)])), (.not_ (.call 89 [(.var 6), (.blt .len false [(.var 6)]), (.var 1)]))]) [.ret (.lit (.bl false))] [], .ite (.bop false [(.not_ (.call 89 [(.var 7), (.bin .add false (.blt .len false [(.var 6)]) (.lit (.int 1))), (.var 1)])), (.not_ (.call 88 [(.var 8), (.blt .len false [(.var 6)])]))]) [.ret (.lit (.bl false))] [], .for_ (.nm 2) (.seq (.var 8)) [.ite (.cmp .ge (.var 2) (.var 1)) [.ret (.lit (.bl false))] []], .ret (.lit (.bl true))], true, []⟩
/-- 91: papers.ways_fit (stands, ways, x, y, double) -/
def d_ways_fit : FD := ⟨2, 5, [.for_ (.nm 2) (.rng1 (.blt .len false [(.var 0)])) [.ite (.cmp .ne (.idx (.idx (.var 1) (.var 2)) (.var 2)) (.lit (.int 0))) [.ret (.lit (.bl false))] [], .for_ (.nm 3) (.rng1 (.blt .len false [(.var 0)])) [.set 4 (.bin .sub false (.bin .add false (.idx (.idx (.var 1) (.var 2)) (.var 3)) (.idx (.var 0) (.var 3))) (.idx (.var 0) (.var 2))), .ite (.bop false [(.cmp .lt (.var 4) (.lit (.int 0))), (.cmp .eq (.bin .mod false (.var 4) (.lit (.int 2))) (.lit (.int 1)))]) [.ret (.lit (.bl false))] []]], .ret (.lit (.bl true))], true, []⟩
/-- 92: papers.works_fit (start, ways, tasks, work, count, s, index, least, x) -/
def d_works_fit : FD := ⟨4, 9, [.set 4 (.blt .len false [(.var 1)]), .for_ (.nm 5) (.rng1 (.var 4)) [.ite (.cmp .gt (.idx (.idx (.var 3) (.lit (.int 0))) (.var 5)) (.idx (.idx (.var 1) (.var 0)) (.var 5))) [.ret (.lit (.bl false))] []], .for_ (.nm 6) (.rng1 (.blt .len false [(.var 2)])) [.for_ (.nm 5) (.rng1 (.var 4)) [.set 7 (.blt .min1 false [(.lc false (.bin .add false (.bin .add false (.idx (.idx (.var 3) (.var 6)) (.var 8)) (.bin .mul false (.lit (.int 2)) (.idx (.idx (.var 2) (.var 6)) (.var 8)))) (.idx (.idx (.var 1) (.var 8)) (.var 5))) (.nm 8) (.rng1 (.var 4)) none [8])]), .ite (.cmp .gt (.idx (.idx (.var 3) (.bin .add false (.var 6) (.lit (.int 1)))) (.var 5)) (.var 7)) [.ret (.lit (.bl false))] []]], .ret (.lit (.bl true))], true, []⟩
/-- 93: papers.spends (paper, total, place, start, stands, ways, tasks, _, row, task, goal) -/
def d_spends : FD := ⟨1, 11, [.unp (.tp [(.nm 3), (.nm 4), (.nm 5), (.nm 6), (.nm 7), (.nm 8), (.nm 7)]) (.var 0), .set 1 (.lit (.int 0)), .set 2 (.var 3), .for_ (.tp [(.nm 9), (.nm 10)]) (.zip (.var 6) (.var 8)) [.aug 1 .add (.bin .add false (.bin .fdiv false (.bin .sub false (.bin .add false (.idx (.idx (.var 5) (.var 2)) (.var 10)) (.idx (.var 4) (.var 10))) (.idx (.var 4) (.var 2))) (.lit (.int 2))) (.idx (.var 9) (.var 10))), .set 2 (.var 10)], .ret (.var 1)], true, []⟩
/-- 94: papers.judge (paper, s, start, stands, ways, tasks, work, _, spent) -/
def d_judge : FD := ⟨1, 9, [.ite (.not_ (.call 90 [(.var 0)])) [.ret (.lit .non)] [], .unp (.tp [(.nm 2), (.nm 3), (.nm 4), (.nm 5), (.nm 6), (.nm 7), (.nm 8)]) (.var 0), .ite (.bop false [(.not_ (.call 91 [(.var 3), (.var 4)])), (.not_ (.call 92 [(.var 2), (.var 4), (.var 5), (.var 6)])), (.cmp .ne (.call 93 [(.var 0)]) (.var 8))]) [.ret (.lit .non)] [], .for_ (.nm 1) (.rng1 (.blt .len false [(.var 3)])) [.ite (.cmp .gt (.bin .add false (.bin .mul false (.lit (.int 2)) (.var 8)) (.idx (.var 3) (.var 2))) (.bin .add false (.idx (.idx (.var 6) (.neg (.lit (.int 1)))) (.var 1)) (.idx (.var 3) (.var 1)))) [.ret (.lit .non)] []], .ret (.var 8)], true, []⟩
/-- 95: questions.has_relation (literal) -/
def d_has_relation : FD := ⟨1, 1, [.ret (.cmp .ne (.idx (.var 0) (.lit (.int 0))) (.lit (.str "compare")))], true, []⟩
/-- 96: questions.names_in (terms, term) -/
def d_names_in : FD := ⟨1, 2, [.ret (.lc false (.idx (.var 1) (.lit (.int 1))) (.nm 1) (.seq (.var 0)) (some (.cmp .eq (.idx (.var 1) (.lit (.int 0))) (.lit (.str "variable")))) [1])], true, []⟩
/-- 97: questions.check_relation (state, literal, relation, terms) -/
def d_check_relation : FD := ⟨2, 4, [.unp (.tp [(.nm 2), (.nm 3)]) (.slc false (.var 1) (some (.neg (.lit (.int 2)))) none), .ite (.mem true (.var 2) (.fld (.var 0) 0)) [.rsp 1 (.tup [(.lit (.str "no relation")), (.var 2)])] [], .ite (.cmp .ne (.blt .len false [(.var 3)]) (.blt .len false [(.idx (.idx (.fld (.var 0) 0) (.var 2)) (.lit (.int 0)))])) [.rsp 1 (.tup [(.lit (.str "width")), (.var 2)])] []], true, []⟩
/-- 98: questions.check_term (term, known) -/
def d_check_term : FD := ⟨2, 2, [.ite (.cmp .eq (.idx (.var 0) (.lit (.int 0))) (.lit (.str "any"))) [.rsp 1 (.tup [(.lit (.str "any"))])] [], .ite (.bop true [(.cmp .eq (.idx (.var 0) (.lit (.int 0))) (.lit (.str "variable"))), (.mem true (.idx (.var 0) (.lit (.int 1))) (.var 1))]) [.rsp 1 (.tup [(.lit (.str "unbound")), (.idx (.var 0) (.lit (.int 1)))])] []], true, []⟩
/-- 99: questions.newly_bound (literal, bound, names, term, name) -/
def d_newly_bound : FD := ⟨2, 5, [.ite (.cmp .eq (.idx (.var 0) (.lit (.int 0))) (.lit (.str "compare"))) [.for_ (.nm 3) (.seq (.slc false (.var 0) (some (.lit (.int 2))) none)) [.ex (.call 98 [(.var 3), (.var 1)])], .ret (.lst false [])] [], .set 2 (.call 96 [(.idx (.var 0) (.neg (.lit (.int 1))))]), .ite (.cmp .eq (.idx (.var 0) (.lit (.int 0))) (.lit (.str "fact"))) [.ret (.var 2)] [], .ite (.cmp .eq (.idx (.var 0) (.lit (.int 0))) (.lit (.str "not"))) [.for_ (.nm 4) (.seq (.var 2)) [.ite (.mem true (.var 4) (.var 1)) [.rsp 1 (.tup [(.lit (.str "unbound")), (.var 4)])] []], .ret (.lst false [])] [], .ite (.mem false (.idx (.var 0) (.lit (.int 1))) (.var 2)) [.rsp 1 (.tup [(.lit (.str "own total")), (.idx (.var 0) (.lit (.int 1)))])] [], .ite (.cmp .ne (.idx (.var 0) (.lit (.int 0))) (.lit (.str "count"))) [.ex (.call 98 [(.idx (.var 0) (.lit (.int 2))), (.bin .add false (.var 1) (.var 2))])] [], .ret (.lst false [(.idx (.var 0) (.lit (.int 1)))])], true, []⟩
/-- 100: questions.check (state, body, bound, literal, name) -/
def d_check : FD := ⟨2, 5, [.set 2 (.lst true []), .for_ (.nm 3) (.seq (.var 1)) [.ite (.call 95 [(.var 3)]) [.ex (.call 97 [(.var 0), (.var 3)])] [], .for_ (.nm 4) (.seq (.call 99 [(.var 3), (.var 2)])) [.ite (.mem true (.var 4) (.var 2)) [.ex (.bm .append false (.var 2) [(.var 4)])] []]], .frzv 2, .ret (.blt .tuple_ false [(.var 2)])], true, []⟩
/-- 101: questions.value_of (term, way) -/
def d_value_of : FD := ⟨2, 2, [.ite (.cmp .eq (.idx (.var 0) (.lit (.int 0))) (.lit (.str "value"))) [.ret (.idx (.var 0) (.lit (.int 1)))] [], .ret (.idx (.var 1) (.idx (.var 0) (.lit (.int 1))))], true, []⟩
/-- 102: questions.met (terms, row, way, found, term, value) -/
def d_met : FD := ⟨3, 6, [.set 3 (.dcop (.var 2)), .for_ (.tp [(.nm 4), (.nm 5)]) (.zip (.var 0) (.var 1)) [.ite (.bop true [(.cmp .eq (.idx (.var 4) (.lit (.int 0))) (.lit (.str "value"))), (.cmp .ne (.idx (.var 4) (.lit (.int 1))) (.var 5))]) [.ret (.lit .non)] [], .ite (.bop true [(.cmp .eq (.idx (.var 4) (.lit (.int 0))) (.lit (.str "variable"))), (.cmp .ne (.dsetd (.var 3) (.idx (.var 4) (.lit (.int 1))) (.var 5)) (.var 5))]) [.ret (.lit .non)] []], .frzv 3, .ret (.var 3)], true, []⟩
/-- 103: questions.meetings (state, literal, way, found, row, each) -/
def d_meetings : FD := ⟨3, 6, [.set 3 (.lc false (.call 102 [(.idx (.var 1) (.neg (.lit (.int 1)))), (.var 4), (.var 2)]) (.nm 4) (.seq (.idx (.fld (.var 0) 1) (.idx (.var 1) (.neg (.lit (.int 2)))))) none [4]), .ret (.lc false (.var 5) (.nm 5) (.seq (.var 3)) (some (.isn true (.var 5))) [5])], true, []⟩
/-- 104: questions.compared (operator, first, second, left, right) -/
def d_compared : FD := ⟨3, 5, [.set 3 (.call 0 [(.var 1)]), .set 4 (.call 0 [(.var 2)]), .ite (.cmp .eq (.var 0) (.lit (.str "="))) [.ret (.cmp .eq (.var 3) (.var 4))] [], .ite (.cmp .eq (.var 0) (.lit (.str "<>"))) [.ret (.cmp .ne (.var 3) (.var 4))] [], .ite (.cmp .eq (.var 0) (.lit (.str "<"))) [.ret (.cmp .lt (.var 3) (.var 4))] [], .ite (.cmp .eq (.var 0) (.lit (.str "<="))) [.ret (.cmp .le (.var 3) (.var 4))] [], .ite (.cmp .eq (.var 0) (.lit (.str ">"))) [.ret (.cmp .gt (.var 3) (.var 4))] [], .ret (.cmp .ge (.var 3) (.var 4))], true, []⟩
/-- 105: questions.total_of (literal, found, values, each, value) -/
def d_total_of : FD := ⟨2, 5, [.ite (.cmp .eq (.idx (.var 0) (.lit (.int 0))) (.lit (.str "count"))) [.ret (.lst false [(.blt .len false [(.var 1)])])] [], .set 2 (.lc false (.call 101 [(.idx (.var 0) (.lit (.int 2))), (.var 3)]) (.nm 3) (.seq (.var 1)) none [3]), .ite (.cmp .eq (.idx (.var 0) (.lit (.int 0))) (.lit (.str "sum"))) [.ite (.blt .any_ false [(.lc false (.isi .str_ (.var 4)) (.nm 4) (.seq (.var 2)) none [4])]) [.ret (.lst false [])] [], .ret (.lst false [(.blt .sum_ false [(.var 2)])])] [], .set 2 (.srk false (.var 2) 0), .ite (.cmp .eq (.idx (.var 0) (.lit (.int 0))) (.lit (.str "least"))) [.ret (.slc false (.var 2) none (some (.lit (.int 1))))] [], .ret (.slc false (.var 2) (some (.neg (.lit (.int 1)))) none)], true, []⟩
/-- 106: questions.ways_behind (state, literal, way, found, behind, total, holds) -/
def d_ways_behind : FD := ⟨3, 7, [.ite (.cmp .eq (.idx (.var 1) (.lit (.int 0))) (.lit (.str "compare"))) [.set 6 (.call 104 [(.idx (.var 1) (.lit (.int 1))), (.call 101 [(.idx (.var 1) (.lit (.int 2))), (.var 2)]), (.call 101 [(.idx (.var 1) (.lit (.int 3))), (.var 2)])]), .ret (.ife (.var 6) (.lst false [(.var 2)]) (.lst false []))] [], .set 3 (.call 103 [(.var 0), (.var 1), (.var 2)]), .ite (.cmp .eq (.idx (.var 1) (.lit (.int 0))) (.lit (.str "fact"))) [.ret (.var 3)] [], .ite (.cmp .eq (.idx (.var 1) (.lit (.int 0))) (.lit (.str "not"))) [.ret (.ife (.var 3) (.lst false []) (.lst false [(.var 2)]))] [], .set 4 (.lst true []), .for_ (.nm 5) (.seq (.call 105 [(.var 1), (.var 3)])) [.ite (.cmp .eq (.dget2 (.var 2) (.idx (.var 1) (.lit (.int 1))) (.var 5)) (.var 5)) [.ex (.bm .append false (.var 4) [(.lit .non)])] []], .frzv 4, .ret (.var 4)], true, []⟩
/-- 107: questions.answer (state, body, columns, ways, literal, rows, way, behind, name) -/
def d_answer : FD := ⟨2, 9, [.set 2 (.call 100 [(.var 0), (.var 1)]), .set 3 (.lst false [.dnew]), .for_ (.nm 4) (.seq (.var 1)) [.set 3 (.lit .non)], .set 5 (.lit .non), .ret (.tup [(.var 2), (.srk false (.var 5) 1)])], true, []⟩
/-- 108: questions.pattern_of (terms, way, pattern, term) -/
def d_pattern_of : FD := ⟨2, 4, [.set 2 (.lst true []), .for_ (.nm 3) (.seq (.var 0)) [.ite (.cmp .eq (.idx (.var 3) (.lit (.int 0))) (.lit (.str "value"))) [.ex (.bm .append false (.var 2) [(.idx (.var 3) (.lit (.int 1)))])] [.ex (.bm .append false (.var 2) [(.ife (.cmp .eq (.idx (.var 3) (.lit (.int 0))) (.lit (.str "variable"))) (.dget1 (.var 1) (.idx (.var 3) (.lit (.int 1)))) (.lit .non))])]], .frzv 2, .ret (.blt .tuple_ false [(.var 2)])], true, []⟩
/-- 109: questions.calls (state, body, found, ways, literal, way, behind) -/
def d_calls : FD := ⟨2, 7, [.set 2 (.lst true []), .set 3 (.lst false [.dnew]), .for_ (.nm 4) (.seq (.var 1)) [.ite (.call 95 [(.var 4)]) [.ex (.bm .extend false (.var 2) [(.lc false (.tup [(.idx (.var 4) (.neg (.lit (.int 2)))), (.call 108 [(.idx (.var 4) (.neg (.lit (.int 1)))), (.var 5)])]) (.nm 5) (.seq (.var 3)) none [5])])] [], .set 3 (.lit .non)], .frzv 2, .ret (.var 2)], true, []⟩
/-- 110: questions.meets (call, row, wanted, value) -/
def d_meets : FD := ⟨2, 4, [.ite (.cmp .ne (.blt .len false [(.idx (.var 0) (.lit (.int 1)))]) (.blt .len false [(.var 1)])) [.ret (.lit (.bl false))] [], .for_ (.tp [(.nm 2), (.nm 3)]) (.zip (.idx (.var 0) (.lit (.int 1))) (.var 1)) [.ite (.bop true [(.isn true (.var 2)), (.cmp .ne (.var 2) (.var 3))]) [.ret (.lit (.bl false))] []], .ret (.lit (.bl true))], true, []⟩
/-- 111: statements.need (holds, problem) -/
def d_need : FD := ⟨2, 2, [.ite (.not_ (.var 0)) [.rsp 1 (.var 1)] []], true, []⟩
/-- 112: statements.first_repeated (names, index, name) -/
def d_first_repeated : FD := ⟨1, 3, [.for_ (.tp [(.nm 1), (.nm 2)]) (.enum (.var 0)) [.ite (.mem false (.var 2) (.slc false (.var 0) none (some (.var 1)))) [.ret (.lst false [(.var 2)])] []], .ret (.lst false [])], true, []⟩
/-- 113: statements.need_different (names, name) -/
def d_need_different : FD := ⟨1, 2, [.for_ (.nm 1) (.seq (.call 112 [(.var 0)])) [.rsp 1 (.tup [(.lit (.str "repeated")), (.var 1)])]], true, []⟩
/-- 114: statements.over (state, relation, name) -/
def d_over : FD := ⟨2, 3, [.ret (.lc false (.var 2) (.nm 2) (.seq (.blt .sorted_ false [(.fld (.var 0) 2)])) (some (.cmp .eq (.idx (.idx (.fld (.var 0) 2) (.var 2)) (.lit (.int 0))) (.var 1))) [2])], true, []⟩
/-- 115: statements.make_relation (state, statement, _, name, columns, room) -/
def d_make_relation : FD := ⟨2, 6, [.unp (.tp [(.nm 2), (.nm 3), (.nm 4), (.nm 5)]) (.var 1), .ex (.call 111 [(.mem true (.var 3) (.fld (.var 0) 0)), (.tup [(.lit (.str "exists")), (.lit (.str "relation")), (.var 3)])]), .ex (.call 113 [(.var 4)]), .ex (.call 111 [(.cmp2 .le .le (.lit (.int 1)) (.var 5) (.glb 12)), (.tup [(.lit (.str "room"))])]), .ret (.tup [(.lit .non), (.meth (.var 0) 6 [(.lst false [(.tup [(.lit (.str "comes")), (.tup [(.lit (.str "relation")), (.var 3), (.var 4), (.var 5)])])])])])], true, []⟩
/-- 116: statements.drop_relation (state, statement, name, structure, changes, row) -/
def d_drop_relation : FD := ⟨2, 6, [.set 2 (.idx (.var 1) (.lit (.int 1))), .ex (.call 111 [(.mem false (.var 2) (.fld (.var 0) 0)), (.tup [(.lit (.str "no relation")), (.var 2)])]), .for_ (.nm 3) (.seq (.call 114 [(.var 0), (.var 2)])) [.rsp 1 (.tup [(.lit (.str "used")), (.var 3)])], .set 4 (.lc false (.tup [(.lit (.str "goes")), (.tup [(.lit (.int 1)), (.var 2), (.var 5)])]) (.nm 5) (.seq (.idx (.fld (.var 0) 1) (.var 2))) none [5]), .ret (.tup [(.lit .non), (.meth (.var 0) 6 [(.bin .add false (.var 4) (.lst false [(.tup [(.lit (.str "goes")), (.tup [(.lit (.int 0)), (.var 2), (.tup [])])])]))])])], true, []⟩
/-- 117: statements.need_row (state, name, row) -/
def d_need_row : FD := ⟨3, 3, [.ex (.call 111 [(.mem false (.var 1) (.fld (.var 0) 0)), (.tup [(.lit (.str "no relation")), (.var 1)])]), .ex (.call 111 [(.cmp .eq (.blt .len false [(.var 2)]) (.blt .len false [(.idx (.idx (.fld (.var 0) 0) (.var 1)) (.lit (.int 0)))])), (.tup [(.lit (.str "width")), (.var 1)])])], true, []⟩
/-- 118: statements.add_fact (state, statement, after, structure, _, name, row) -/
def d_add_fact : FD := ⟨2, 7, [.unp (.tp [(.nm 4), (.nm 5), (.nm 6)]) (.var 1), .ex (.call 117 [(.var 0), (.var 5), (.var 6)]), .ite (.meth (.var 0) 4 [(.var 5), (.var 6)]) [.ret (.tup [(.lit (.bl false)), (.var 0)])] [], .ex (.call 111 [(.cmp .lt (.blt .len false [(.call 20 [(.var 6)])]) (.glb 7)), (.tup [(.lit (.str "long"))])]), .set 2 (.meth (.var 0) 6 [(.lst false [(.tup [(.lit (.str "comes")), (.tup [(.lit (.str "fact")), (.var 5), (.var 6)])])])]), .ex (.call 111 [(.isn true (.call 60 [(.var 2), (.var 5)])), (.tup [(.lit (.str "full")), (.lit (.str "relation")), (.var 5)])]), .for_ (.nm 3) (.seq (.call 114 [(.var 0), (.var 5)])) [.ex (.call 111 [(.isn true (.call 62 [(.var 2), (.var 3)])), (.tup [(.lit (.str "full")), (.lit (.str "structure")), (.var 3)])])], .ret (.tup [(.lit (.bl true)), (.var 2)])], true, []⟩
/-- 119: statements.remove_fact (state, statement, _, name, row) -/
def d_remove_fact : FD := ⟨2, 5, [.unp (.tp [(.nm 2), (.nm 3), (.nm 4)]) (.var 1), .ex (.call 117 [(.var 0), (.var 3), (.var 4)]), .ite (.not_ (.meth (.var 0) 4 [(.var 3), (.var 4)])) [.ret (.tup [(.lit (.bl false)), (.var 0)])] [], .ret (.tup [(.lit (.bl true)), (.meth (.var 0) 6 [(.lst false [(.tup [(.lit (.str "goes")), (.tup [(.lit (.int 1)), (.var 3), (.var 4)])])])])])], true, []⟩
/-- 120: statements.make_structure (state, statement, column, after, _, name, relation, columns, buckets, sectors) -/
def d_make_structure : FD := ⟨2, 10, [.unp (.tp [(.nm 4), (.nm 5), (.nm 6), (.nm 7), (.nm 8), (.nm 9)]) (.var 1), .ex (.call 111 [(.mem true (.var 5) (.fld (.var 0) 2)), (.tup [(.lit (.str "exists")), (.lit (.str "structure")), (.var 5)])]), .ex (.call 111 [(.mem false (.var 6) (.fld (.var 0) 0)), (.tup [(.lit (.str "no relation")), (.var 6)])]), .for_ (.nm 2) (.seq (.var 7)) [.ex (.call 111 [(.mem false (.var 2) (.idx (.idx (.fld (.var 0) 0) (.var 6)) (.lit (.int 0)))), (.tup [(.lit (.str "no column")), (.var 2)])])], .ex (.call 113 [(.var 7)]), .ex (.call 111 [(.cmp2 .le .le (.lit (.int 1)) (.var 8) (.glb 13)), (.tup [(.lit (.str "buckets"))])]), .ex (.call 111 [(.cmp2 .le .le (.lit (.int 1)) (.var 9) (.glb 14)), (.tup [(.lit (.str "sectors"))])]), .set 3 (.meth (.var 0) 6 [(.lst false [(.tup [(.lit (.str "comes")), (.var 1)])])]), .ex (.call 111 [(.isn true (.call 62 [(.var 3), (.var 5)])), (.tup [(.lit (.str "full")), (.lit (.str "structure")), (.var 5)])]), .ret (.tup [(.lit .non), (.var 3)])], true, []⟩
/-- 121: statements.take_structure (state, statement, name, layout) -/
def d_take_structure : FD := ⟨2, 4, [.set 2 (.idx (.var 1) (.lit (.int 1))), .ex (.call 111 [(.mem false (.var 2) (.fld (.var 0) 2)), (.tup [(.lit (.str "no structure")), (.var 2)])]), .for_ (.nm 3) (.seq (.blt .sorted_ false [(.fld (.var 0) 3)])) [.ex (.call 111 [(.mem true (.var 2) (.idx (.fld (.var 0) 3) (.var 3))), (.tup [(.lit (.str "used")), (.var 3)])])], .ret (.tup [(.lit .non), (.meth (.var 0) 6 [(.lst false [(.tup [(.lit (.str "goes")), (.tup [(.lit (.int 2)), (.var 2), (.tup [])])])])])])], true, []⟩
/-- 122: statements.make_layout (state, statement, structure, layout, _, name, structures) -/
def d_make_layout : FD := ⟨2, 7, [.unp (.tp [(.nm 4), (.nm 5), (.nm 6)]) (.var 1), .ex (.call 111 [(.mem true (.var 5) (.fld (.var 0) 3)), (.tup [(.lit (.str "exists")), (.lit (.str "layout")), (.var 5)])]), .for_ (.nm 2) (.seq (.var 6)) [.ex (.call 111 [(.mem false (.var 2) (.fld (.var 0) 2)), (.tup [(.lit (.str "no structure")), (.var 2)])])], .ex (.call 113 [(.var 6)]), .for_ (.nm 3) (.seq (.blt .sorted_ false [(.fld (.var 0) 3)])) [.ex (.call 111 [(.cmp .ne (.blt .sorted_ false [(.idx (.fld (.var 0) 3) (.var 3))]) (.blt .sorted_ false [(.var 6)])), (.tup [(.lit (.str "same")), (.var 3)])])], .ret (.tup [(.lit .non), (.meth (.var 0) 6 [(.lst false [(.tup [(.lit (.str "comes")), (.var 1)])])])])], true, []⟩
/-- 123: statements.leave_layout (state, statement, name) -/
def d_leave_layout : FD := ⟨2, 3, [.set 2 (.idx (.var 1) (.lit (.int 1))), .ex (.call 111 [(.mem false (.var 2) (.fld (.var 0) 3)), (.tup [(.lit (.str "no layout")), (.var 2)])]), .ret (.tup [(.lit .non), (.meth (.var 0) 6 [(.lst false [(.tup [(.lit (.str "goes")), (.tup [(.lit (.int 3)), (.var 2), (.tup [])])])])])])], true, []⟩
/-- 124: statements.ask (state, statement) -/
def d_ask : FD := ⟨2, 2, [.ret (.tup [(.call 107 [(.var 0), (.idx (.var 1) (.lit (.int 1)))]), (.var 0)])], true, []⟩
/-- 125: statements.show (state, statement, item) -/
def d_show : FD := ⟨2, 3, [.ret (.tup [(.lc false (.var 2) (.nm 2) (.seq (.meth (.var 0) 3 [])) (some (.cmp .ne (.idx (.var 2) (.lit (.int 0))) (.lit (.str "fact")))) [2]), (.var 0)])], true, []⟩
/-- 126: statements.say (state, statement) -/
def d_say : FD := ⟨2, 2, [.ret (.lit .non)], true, []⟩
/-- 127: statements.statement_calls (state, statement) -/
def d_statement_calls : FD := ⟨2, 2, [.ite (.mem true (.idx (.var 1) (.lit (.int 0))) (.tup [(.lit (.str "ask")), (.lit (.str "add")), (.lit (.str "remove"))])) [.ret (.lst false [])] [], .try_ [.ex (.call 126 [(.var 0), (.var 1)])] 1 none [.ret (.lst false [])], .ite (.cmp .eq (.idx (.var 1) (.lit (.int 0))) (.lit (.str "ask"))) [.ret (.call 109 [(.var 0), (.idx (.var 1) (.lit (.int 1)))])] [], .ret (.lst false [(.tup [(.idx (.var 1) (.lit (.int 1))), (.idx (.var 1) (.lit (.int 2)))])])], true, []⟩
/-- 128: store.Store.__init__ (self, disk, told, place, turn, area) -/
def d_Store___init__ : FD := ⟨2, 6, [.setf (.var 0) 21 (.var 1), .ex (.meth (.var 1) 65 [(.call 46 [(.meth (.var 1) 61 [])])]), .set 2 (.call 53 [(.var 1)]), .setf (.var 0) 22 (.lit (.int 0)), .setf (.var 0) 23 (.makeD 0), .ite (.isn false (.var 2)) [.ex (.meth (.var 0) 29 [(.lit (.int 1)), (.lit (.int 0)), (.lit (.int 0)), (.lit (.int 0)), (.fld (.var 0) 23)])] [.unp (.tp [(.nm 3), (.nm 4), (.nm 5), (.nm 0), (.nm 0)]) (.var 2), .ex (.meth (.var 0) 29 [(.meth (.var 0) 27 [(.var 4)]), (.bin .sub false (.lit (.int 1)) (.var 5)), (.bin .sub false (.lit (.int 1)) (.var 3)), (.fld (.var 0) 22), (.fld (.var 0) 23)])]], false, []⟩
/-- 129: store.Store.new_turn (self, turn, sectors, sector) -/
def d_Store_new_turn : FD := ⟨2, 4, [.set 2 (.bin .add false (.call 52 [(.fld (.var 0) 21), (.lit (.int 0))]) (.call 52 [(.fld (.var 0) 21), (.lit (.int 1))])), .ret (.bin .add false (.lit (.int 1)) (.blt .max1 false [(.bin .add false (.lst false [(.var 1)]) (.lc false (.call 43 [(.var 3)]) (.nm 3) (.seq (.var 2)) none [3]))]))], true, []⟩
/-- 130: store.Store.write_all (self, start, sectors, index, sector) -/
def d_Store_write_all : FD := ⟨3, 5, [.for_ (.tp [(.nm 3), (.nm 4)]) (.enum (.var 2)) [.ex (.meth (.fld (.var 0) 21) 68 [(.bin .add false (.var 1) (.var 3)), (.var 4)])], .ex (.meth (.fld (.var 0) 21) 69 [])], false, []⟩
/-- 131: store.Store.write_new (self, turn, area, place, commits, state, block) -/
def d_Store_write_new : FD := ⟨6, 7, [.set 6 (.call 44 [(.var 1), (.call 24 [(.var 4), (.var 5)])]), .ex (.meth (.var 0) 28 [(.call 48 [(.meth (.fld (.var 0) 21) 61 []), (.var 2)]), (.var 6)]), .ex (.meth (.var 0) 28 [(.var 3), (.lst false [(.call 49 [(.var 1), (.var 2)])])]), .setf (.var 0) 24 (.var 1), .setf (.var 0) 25 (.var 2), .setf (.var 0) 26 (.var 3), .setf (.var 0) 27 (.blt .len false [(.var 6)])], false, []⟩
/-- 132: store.Store.can_hold (self, state, size, block) -/
def d_Store_can_hold : FD := ⟨2, 4, [.set 2 (.meth (.fld (.var 0) 21) 61 []), .set 3 (.call 44 [(.lit (.int 1)), (.call 24 [(.bin .add false (.fld (.var 0) 22) (.lit (.int 1))), (.var 1)])]), .ret (.bop true [(.cmp .le (.blt .len false [(.var 3)]) (.call 47 [(.var 2)])), (.cmp .le (.call 65 [(.var 1)]) (.bin .sub false (.var 2) (.call 46 [(.var 2)])))])], true, []⟩
/-- 133: store.Store.fits (self, changes) -/
def d_Store_fits : FD := ⟨2, 2, [.ret (.meth (.var 0) 30 [(.meth (.fld (.var 0) 23) 6 [(.var 1)])])], true, []⟩
/-- 134: store.Store.commit (self, changes, state, block, size) -/
def d_Store_commit : FD := ⟨2, 5, [.set 2 (.meth (.fld (.var 0) 23) 6 [(.var 1)]), .ite (.not_ (.meth (.var 0) 30 [(.var 2)])) [.rse 6] [], .set 3 (.call 44 [(.fld (.var 0) 24), (.call 23 [(.var 1)])]), .set 4 (.meth (.fld (.var 0) 21) 61 []), .ite (.cmp .le (.bin .add false (.fld (.var 0) 27) (.blt .len false [(.var 3)])) (.call 47 [(.var 4)])) [.ex (.meth (.var 0) 28 [(.bin .add false (.call 48 [(.var 4), (.fld (.var 0) 25)]) (.fld (.var 0) 27)), (.var 3)]), .augf (.var 0) 27 .add (.blt .len false [(.var 3)])] [.ex (.meth (.var 0) 29 [(.bin .add false (.fld (.var 0) 24) (.lit (.int 1))), (.bin .sub false (.lit (.int 1)) (.fld (.var 0) 25)), (.bin .sub false (.lit (.int 1)) (.fld (.var 0) 26)), (.bin .add false (.fld (.var 0) 22) (.lit (.int 1))), (.var 2)])], .augf (.var 0) 22 .add (.lit (.int 1)), .setf (.var 0) 23 (.var 2)], false, []⟩
/-- 135: transactions.told_by (state, statement, error, answer, made) -/
def d_told_by : FD := ⟨2, 5, [.try_ [.unp (.tp [(.nm 3), (.nm 4)]) (.call 126 [(.var 0), (.var 1)])] 1 (some 2) [.ret (.tup [(.tup [(.q (.lit (.str "problem"))), .prob]), (.q (.var 0))])], .ret (.tup [(.tup [(.lit (.str "answer")), (.var 3)]), (.var 4)])], true, []⟩
/-- 136: transactions.Run.__init__ (self, state) -/
def d_Run___init__ : FD := ⟨2, 2, [.setf (.var 0) 23 (.var 1), .setf (.var 0) 28 (.lst true [])], false, []⟩
/-- 137: transactions.Run.go_back (self, name, index) -/
def d_Run_go_back : FD := ⟨2, 3, [.for_ (.nm 2) (.rng3 (.bin .sub false (.blt .len false [(.fld (.var 0) 28)]) (.lit (.int 1))) (.neg (.lit (.int 1))) (.neg (.lit (.int 1)))) [.ite (.cmp .eq (.idx (.idx (.fld (.var 0) 28) (.var 2)) (.lit (.int 0))) (.var 1)) [.setf (.var 0) 23 (.idx (.idx (.fld (.var 0) 28) (.var 2)) (.lit (.int 1))), .setf (.var 0) 28 (.slc true (.fld (.var 0) 28) none (some (.bin .add false (.var 2) (.lit (.int 1))))), .ret (.lit (.bl true))] []], .ret (.lit (.bl false))], false, []⟩
/-- 138: transactions.Run.take (self, word, told, kind, what, _) -/
def d_Run_take : FD := ⟨2, 6, [.unp (.tp [(.nm 3), (.nm 4), (.nm 5)]) (.var 1), .set 2 (.lit .non), .ite (.cmp .eq (.var 3) (.lit (.str "statement"))) [.unp (.tp [(.nm 2), (.nm 0)]) (.call 135 [(.fld (.var 0) 23), (.var 4)])] [.ite (.cmp .eq (.var 3) (.lit (.str "savepoint"))) [.ex (.bm .append false (.fld (.var 0) 28) [(.tup [(.var 4), (.fld (.var 0) 23)])])] [.ex (.meth (.var 0) 33 [(.var 4)])]], .ret (.var 2)], false, []⟩
/-- 139: transactions.Words.__init__ (self) -/
def d_Words___init__ : FD := ⟨1, 1, [.setf (.var 0) 29 (.lst true [])], false, []⟩
/-- 140: transactions.Words._run (self, state, run, word) -/
def d_Words__run : FD := ⟨2, 4, [.set 2 (.make 5 [(.var 1)]), .for_ (.nm 3) (.seq (.fld (.var 0) 29)) [.ex (.meth (.var 2) 34 [(.var 3)])], .frzv 2, .ret (.var 2)], true, []⟩
/-- 141: transactions.Words.own (self, state) -/
def d_Words_own : FD := ⟨2, 2, [.ret (.meth (.fld (.meth (.var 0) 35 [(.var 1)]) 23) 5 [])], true, []⟩
/-- 142: transactions.Words.say (self, state, statement, told, _) -/
def d_Words_say : FD := ⟨3, 5, [.unp (.tp [(.nm 3), (.nm 4)]) (.call 135 [(.fld (.meth (.var 0) 35 [(.var 1)]) 23), (.var 2)]), .ex (.bm .append false (.fld (.var 0) 29) [(.tup [(.lit (.str "statement")), (.var 2), (.blt .repr_ false [(.var 3)])])]), .ite (.cmp .eq (.idx (.var 3) (.lit (.int 0))) (.lit (.str "problem"))) [.rsp 1 (.idx (.var 3) (.lit (.int 1)))] [], .ret (.idx (.var 3) (.lit (.int 1)))], false, []⟩
/-- 143: transactions.Words.savepoint (self, name) -/
def d_Words_savepoint : FD := ⟨2, 2, [.ex (.bm .append false (.fld (.var 0) 29) [(.tup [(.lit (.str "savepoint")), (.var 1), (.lit .non)])])], false, []⟩
/-- 144: transactions.Words.rollback_to (self, state, name) -/
def d_Words_rollback_to : FD := ⟨3, 3, [.ite (.not_ (.meth (.meth (.var 0) 35 [(.var 1)]) 33 [(.var 2)])) [.rse 5] [], .ex (.bm .append false (.fld (.var 0) 29) [(.tup [(.lit (.str "rollback")), (.var 2), (.lit .non)])])], false, []⟩
/-- 145: transactions.Words.again (self, state, run, index, word, told) -/
def d_Words_again : FD := ⟨2, 6, [.set 2 (.make 5 [(.var 1)]), .set 3 (.lit (.int 0)), .for_ (.nm 4) (.seq (.fld (.var 0) 29)) [.set 5 (.meth (.var 2) 34 [(.var 4)]), .ite (.isn true (.var 5)) [.ite (.cmp .ne (.blt .repr_ false [(.var 5)]) (.idx (.var 4) (.lit (.int 2)))) [.ret (.tup [(.var 3), (.var 5), (.lit .non)])] [], .aug 3 .add (.lit (.int 1))] []], .frzv 2, .ret (.tup [(.lit .non), (.lit .non), (.meth (.fld (.var 2) 23) 5 [])])], true, []⟩
/-- 146: transactions.Words.all_calls (self, state, run, found, word) -/
def d_Words_all_calls : FD := ⟨2, 5, [.set 2 (.make 5 [(.var 1)]), .set 3 (.lst true []), .for_ (.nm 4) (.seq (.fld (.var 0) 29)) [.ite (.cmp .eq (.idx (.var 4) (.lit (.int 0))) (.lit (.str "statement"))) [.ex (.bm .extend false (.var 3) [(.call 127 [(.fld (.var 2) 23), (.idx (.var 4) (.lit (.int 1)))])])] [], .ex (.meth (.var 2) 34 [(.var 4)])], .frzv 3, .ret (.var 3)], true, []⟩
/-- 147: database.Database.__init__ (self, disk) -/
def d_Database___init__ : FD := ⟨2, 2, [.ite (.not_ (.meth (.var 1) 72 [])) [.rse 7] [], .ite (.fld (.var 1) 13) [.rse 8] [], .setf (.var 0) 30 (.var 1), .setf (.var 0) 31 (.meth (.var 1) 73 []), .setf (.var 0) 32 (.make 4 [(.var 1)]), .setf (.var 0) 33 (.idx (.call 66 [(.fld (.fld (.var 0) 32) 23)]) (.lit (.int 0))), .ex (.meth (.var 0) 47 []), .ex (.meth (.var 0) 48 []), .setf (.var 1) 13 (.lit (.bl true))], false, []⟩
/-- 148: database.Database.check_open (self) -/
def d_Database_check_open : FD := ⟨1, 1, [.ite (.cmp .ne (.meth (.fld (.var 0) 30) 73 []) (.fld (.var 0) 31)) [.rse 9] []], true, []⟩
/-- 149: database.Database.state (self) -/
def d_Database_state : FD := ⟨1, 1, [.ret (.fld (.fld (.var 0) 32) 23)], true, []⟩
/-- 150: database.Database._shape (self, state, place) -/
def d_Database__shape : FD := ⟨3, 3, [.ite (.cmp .eq (.idx (.var 2) (.lit (.int 0))) (.lit (.str "relation"))) [.ret (.call 60 [(.var 1), (.idx (.var 2) (.lit (.int 1)))])] [], .ret (.call 62 [(.var 1), (.idx (.var 2) (.lit (.int 1)))])], true, []⟩
/-- 151: database.Database._write (self, state, sectors, start, starts, shapes, place, index) -/
def d_Database__write : FD := ⟨3, 8, [.set 3 (.call 46 [(.meth (.fld (.var 0) 30) 61 [])]), .set 4 (.call 64 [(.var 1)]), .set 5 .dnew, .for_ (.tp [(.nm 6), (.nm 7)]) (.seq (.var 2)) [.ite (.mem true (.var 6) (.var 5)) [.dput (.var 5) (.var 6) (.meth (.var 0) 44 [(.var 1), (.var 6)])] [], .ex (.meth (.fld (.var 0) 30) 68 [(.bin .add false (.bin .add false (.var 3) (.idx (.var 4) (.var 6))) (.var 7)), (.idx (.idx (.var 5) (.var 6)) (.var 7))])]], false, []⟩
/-- 152: database.Database._whole (self, state, place, index) -/
def d_Database__whole : FD := ⟨3, 4, [.ret (.lc false (.tup [(.var 2), (.var 3)]) (.nm 3) (.rng1 (.blt .len false [(.meth (.var 0) 44 [(.var 1), (.var 2)])])) none [3])], true, []⟩
/-- 153: database.Database._write_all (self, state, name) -/
def d_Database__write_all : FD := ⟨1, 3, [.set 1 (.fld (.fld (.var 0) 32) 23), .for_ (.nm 2) (.seq (.blt .sorted_ false [(.fld (.var 1) 0)])) [.ex (.meth (.var 0) 45 [(.var 1), (.meth (.var 0) 46 [(.var 1), (.tup [(.lit (.str "relation")), (.var 2)])])])], .for_ (.nm 2) (.seq (.blt .sorted_ false [(.fld (.var 0) 33)])) [.ex (.meth (.var 0) 45 [(.var 1), (.meth (.var 0) 46 [(.var 1), (.tup [(.lit (.str "structure")), (.var 2)])])])]], false, []⟩
/-- 154: database.Database._begin_phase (self, state, layouts, ways, first, second, layout) -/
def d_Database__begin_phase : FD := ⟨1, 7, [.set 1 (.fld (.fld (.var 0) 32) 23), .set 2 (.call 66 [(.var 1)]), .set 3 (.lc false (.lc false (.call 79 [(.var 1), (.var 4), (.var 5)]) (.nm 5) (.seq (.var 2)) none [5]) (.nm 4) (.seq (.var 2)) none [4]), .setf (.var 0) 34 (.var 2), .setf (.var 0) 35 (.make 1 [(.bm .index false (.var 2) [(.fld (.var 0) 33)]), (.lc false (.call 77 [(.var 1), (.var 6)]) (.nm 6) (.seq (.var 2)) none [6]), (.var 3)]), .setf (.var 0) 36 (.lit (.int 0))], false, []⟩
/-- 155: database.Database._move (self, layout, state, name) -/
def d_Database__move : FD := ⟨2, 4, [.set 2 (.fld (.fld (.var 0) 32) 23), .for_ (.nm 3) (.seq (.var 1)) [.ite (.mem true (.var 3) (.fld (.var 0) 33)) [.ex (.meth (.fld (.var 0) 30) 65 [(.idx (.idx (.fld (.var 2) 0) (.idx (.idx (.fld (.var 2) 2) (.var 3)) (.lit (.int 0)))) (.lit (.int 1)))]), .ex (.meth (.var 0) 45 [(.var 2), (.meth (.var 0) 46 [(.var 2), (.tup [(.lit (.str "structure")), (.var 3)])])])] []], .setf (.var 0) 33 (.var 1)], false, []⟩
/-- 156: database.Database._serve (self, before, after, calls, task) -/
def d_Database__serve : FD := ⟨4, 5, [.set 4 (.call 75 [(.var 1), (.var 2), (.var 3)]), .augf (.var 0) 36 .add (.call 74 [(.var 1), (.var 2), (.idx (.fld (.var 0) 34) (.bm .index false (.var 4) [(.lit (.int 0))])), (.var 3)]), .ite (.cmp .gt (.blt .max1 false [(.var 4)]) (.lit (.int 0))) [.ex (.meth (.var 0) 49 [(.idx (.fld (.var 0) 34) (.meth (.fld (.var 0) 35) 24 [(.var 4)]))])] [], .ex (.meth (.fld (.var 0) 30) 65 [(.blt .len false [(.call 71 [(.var 1), (.fld (.var 0) 33), (.var 3)])])])], false, []⟩
/-- 157: database.Database._restart (self) -/
def d_Database__restart : FD := ⟨1, 1, [.ite (.cmp .ge (.blt .len false [(.fld (.fld (.var 0) 35) 9)]) (.glb 16)) [.ex (.meth (.var 0) 48 [])] []], false, []⟩
/-- 158: database.Database.read_call (self, calls, state) -/
def d_Database_read_call : FD := ⟨2, 3, [.ex (.meth (.var 0) 51 []), .set 2 (.fld (.fld (.var 0) 32) 23), .ex (.meth (.var 0) 50 [(.var 2), (.var 2), (.var 1)])], false, []⟩
/-- 159: database.Database.commit_call (self, calls, made, before, changes) -/
def d_Database_commit_call : FD := ⟨3, 5, [.set 3 (.fld (.fld (.var 0) 32) 23), .set 4 (.call 13 [(.var 3), (.var 2)]), .ite (.not_ (.meth (.fld (.var 0) 32) 31 [(.var 4)])) [.ex (.meth (.var 0) 52 [(.var 1)]), .rse 6] [], .ite (.not_ (.meth (.var 3) 7 [(.var 2)])) [.ex (.meth (.var 0) 54 [(.var 1), (.var 4)]), .retn] [], .ex (.meth (.var 0) 51 []), .ex (.meth (.var 0) 50 [(.var 3), (.var 2), (.var 1)]), .ex (.meth (.fld (.var 0) 32) 32 [(.var 4)]), .ex (.meth (.var 0) 45 [(.var 2), (.call 73 [(.var 3), (.var 2), (.fld (.var 0) 33)])])], false, []⟩
/-- 160: database.Database._commit_schema (self, calls, changes, before, layouts) -/
def d_Database__commit_schema : FD := ⟨3, 5, [.set 3 (.fld (.fld (.var 0) 32) 23), .ex (.meth (.fld (.var 0) 30) 65 [(.blt .len false [(.call 71 [(.var 3), (.fld (.var 0) 33), (.var 1)])])]), .ex (.meth (.fld (.var 0) 30) 65 [(.call 65 [(.var 3)])]), .ex (.meth (.fld (.var 0) 32) 32 [(.var 2)]), .set 4 (.call 66 [(.fld (.fld (.var 0) 32) 23)]), .ite (.mem true (.fld (.var 0) 33) (.var 4)) [.setf (.var 0) 33 (.idx (.var 4) (.lit (.int 0)))] [], .ex (.meth (.var 0) 47 []), .ex (.meth (.var 0) 48 [])], false, []⟩
/-- 161: database.Database.session (self) -/
def d_Database_session : FD := ⟨1, 1, [.ex (.meth (.var 0) 42 []), .ret (.make 8 [(.var 0)])], true, []⟩
/-- 162: database.Database.status (self, policy) -/
def d_Database_status : FD := ⟨1, 2, [.ex (.meth (.var 0) 42 []), .set 1 (.fld (.var 0) 35), .ret (.tup [(.fld (.fld (.var 0) 32) 22), (.fld (.var 0) 33), (.blt .len false [(.fld (.var 1) 9)]), (.fld (.var 0) 36), (.fld (.var 1) 8)])], true, []⟩
/-- 163: database.Database.hindsight (self, spent, plan, index) -/
def d_Database_hindsight : FD := ⟨1, 4, [.ex (.meth (.var 0) 42 []), .unp (.tp [(.nm 1), (.nm 2)]) (.meth (.fld (.var 0) 35) 25 []), .ret (.tup [(.var 1), (.lc false (.idx (.fld (.var 0) 34) (.var 3)) (.nm 3) (.seq (.var 2)) none [3])])], true, []⟩
/-- 164: database.Database.paper (self) -/
def d_Database_paper : FD := ⟨1, 1, [.ex (.meth (.var 0) 42 []), .ret (.meth (.fld (.var 0) 35) 26 [])], true, []⟩
/-- 165: database.Session.__init__ (self, database) -/
def d_Session___init__ : FD := ⟨2, 2, [.setf (.var 0) 37 (.var 1), .setf (.var 0) 29 (.lit .non)], false, []⟩
/-- 166: database.Session.run (self, statement, state, calls, answer, made) -/
def d_Session_run : FD := ⟨2, 6, [.ex (.meth (.fld (.var 0) 37) 42 []), .set 2 (.meth (.fld (.var 0) 37) 43 []), .ite (.isn true (.fld (.var 0) 29)) [.ex (.meth (.fld (.var 0) 37) 52 [(.call 127 [(.meth (.fld (.var 0) 29) 36 [(.var 2)]), (.var 1)])]), .ret (.meth (.fld (.var 0) 29) 37 [(.var 2), (.var 1)])] [], .try_ [.unp (.tp [(.nm 4), (.nm 5)]) (.call 126 [(.var 2), (.var 1)])] 1 none [.pass, .pass], .set 3 (.call 127 [(.var 2), (.var 1)]), .ite (.call 13 [(.var 2), (.var 5)]) [.ex (.meth (.fld (.var 0) 37) 53 [(.var 3), (.var 5)])] [.ex (.meth (.fld (.var 0) 37) 52 [(.var 3)])], .ret (.var 4)], false, []⟩
/-- 167: database.Session.begin (self) -/
def d_Session_begin : FD := ⟨1, 1, [.ex (.meth (.fld (.var 0) 37) 42 []), .ite (.isn true (.fld (.var 0) 29)) [.rse 3] [], .setf (.var 0) 29 (.make 6 [])], false, []⟩
/-- 168: database.Session._open_words (self) -/
def d_Session__open_words : FD := ⟨1, 1, [.ex (.meth (.fld (.var 0) 37) 42 []), .ite (.isn false (.fld (.var 0) 29)) [.rse 4] [], .ret (.fld (.var 0) 29)], true, []⟩
/-- 169: database.Session.commit (self, words, state, calls, index, told, made) -/
def d_Session_commit : FD := ⟨1, 7, [.set 1 (.meth (.var 0) 59 []), .set 2 (.meth (.fld (.var 0) 37) 43 []), .unp (.tp [(.nm 4), (.nm 5), (.nm 6)]) (.meth (.var 1) 40 [(.var 2)]), .set 3 (.meth (.var 1) 41 [(.var 2)]), .setf (.var 0) 29 (.lit .non), .ite (.isn true (.var 4)) [.ex (.meth (.fld (.var 0) 37) 52 [(.var 3)]), .ret (.tup [(.var 4), (.var 5)])] [], .ite (.call 13 [(.var 2), (.var 6)]) [.ex (.meth (.fld (.var 0) 37) 53 [(.var 3), (.var 6)])] [.ex (.meth (.fld (.var 0) 37) 52 [(.var 3)])], .ret (.lit .non)], false, []⟩
/-- 170: database.Session.rollback (self) -/
def d_Session_rollback : FD := ⟨1, 1, [.ex (.meth (.var 0) 59 []), .setf (.var 0) 29 (.lit .non)], false, []⟩
/-- 171: database.Session.savepoint (self, name) -/
def d_Session_savepoint : FD := ⟨2, 2, [.ex (.meth (.meth (.var 0) 59 []) 38 [(.var 1)])], false, []⟩
/-- 172: database.Session.rollback_to (self, name) -/
def d_Session_rollback_to : FD := ⟨2, 2, [.ex (.meth (.meth (.var 0) 59 []) 39 [(.meth (.fld (.var 0) 37) 43 []), (.var 1)])], false, []⟩
/-- 173: disk.Disk.__init__ (self, sectors, _) -/
def d_Disk___init__ : FD := ⟨2, 3, [.ite (.bop false [(.not_ (.isi .int_ (.var 1))), (.isi .bool_ (.var 1)), (.not_ (.cmp2 .le .le (.glb 17) (.var 1) (.glb 18)))]) [.rse 2] [], .setf (.var 0) 13 (.lit (.bl false)), .setf (.var 0) 14 (.lc true (.bin .mul false (.lst false [(.lit (.int 0))]) (.glb 19)) (.nm 2) (.rng1 (.var 1)) none [2]), .setf (.var 0) 15 (.blt .list_ true [(.fld (.var 0) 14)]), .setf (.var 0) 16 (.lst true []), .setf (.var 0) 17 (.lit (.bl true)), .setf (.var 0) 18 (.lit .non), .setf (.var 0) 19 (.lit (.int 0)), .setf (.var 0) 20 (.ddis ["reads", "writes", "logs", "syncs"] [(.lit (.int 0)), (.lit (.int 0)), (.lit (.int 0)), (.lit (.int 0))])], false, []⟩
/-- 174: disk.Disk.size (self) -/
def d_Disk_size : FD := ⟨1, 1, [.ret (.blt .len false [(.fld (.var 0) 14)])], true, []⟩
/-- 175: disk.Disk.read (self, index) -/
def d_Disk_read : FD := ⟨2, 2, [.ret (.blt .list_ false [(.idx (.fld (.var 0) 15) (.var 1))])], true, []⟩
/-- 176: disk.Disk.pending (self) -/
def d_Disk_pending : FD := ⟨1, 1, [.ret (.blt .len false [(.fld (.var 0) 16)])], true, []⟩
/-- 177: disk.Disk.counts (self) -/
def d_Disk_counts : FD := ⟨1, 1, [.ret (.tup [(.idx (.fld (.var 0) 20) (.lit (.str "reads"))), (.idx (.fld (.var 0) 20) (.lit (.str "writes"))), (.idx (.fld (.var 0) 20) (.lit (.str "logs"))), (.idx (.fld (.var 0) 20) (.lit (.str "syncs")))])], true, []⟩
/-- 178: disk.Disk.note_reads (self, count) -/
def d_Disk_note_reads : FD := ⟨2, 2, [.augd (.fld (.var 0) 20) (.lit (.str "reads")) .add (.var 1)], false, []⟩
/-- 179: disk.Disk.lose_power (self) -/
def d_Disk_lose_power : FD := ⟨1, 1, [.setf (.var 0) 17 (.lit (.bl false)), .setf (.var 0) 13 (.lit (.bl false)), .setf (.var 0) 18 (.lit .non), .augf (.var 0) 19 .add (.lit (.int 1))], false, []⟩
/-- 180: disk.Disk.operate (self) -/
def d_Disk_operate : FD := ⟨1, 1, [.ite (.bop true [(.fld (.var 0) 17), (.cmp .eq (.fld (.var 0) 18) (.lit (.int 0)))]) [.ex (.meth (.var 0) 66 [])] [], .ite (.not_ (.fld (.var 0) 17)) [.rse 7] [], .ite (.isn true (.fld (.var 0) 18)) [.setf (.var 0) 18 (.bin .sub false (.fld (.var 0) 18) (.lit (.int 1)))] []], false, []⟩
/-- 181: disk.Disk.write (self, index, data) -/
def d_Disk_write : FD := ⟨3, 3, [.ex (.meth (.var 0) 67 []), .seti (.fld (.var 0) 15) (.var 1) (.blt .list_ false [(.var 2)]), .ex (.bm .append false (.fld (.var 0) 16) [(.tup [(.var 1), (.blt .list_ false [(.var 2)])])]), .ite (.cmp .lt (.var 1) (.call 46 [(.meth (.var 0) 61 [])])) [.augd (.fld (.var 0) 20) (.lit (.str "logs")) .add (.lit (.int 1))] [.augd (.fld (.var 0) 20) (.lit (.str "writes")) .add (.lit (.int 1))]], false, []⟩
/-- 182: disk.Disk.sync (self) -/
def d_Disk_sync : FD := ⟨1, 1, [.ex (.meth (.var 0) 67 []), .setf (.var 0) 14 (.blt .list_ true [(.fld (.var 0) 15)]), .setf (.var 0) 16 (.lst true []), .augd (.fld (.var 0) 20) (.lit (.str "syncs")) .add (.lit (.int 1))], false, []⟩
/-- 183: disk.Disk.fail_after (self, operations) -/
def d_Disk_fail_after : FD := ⟨2, 2, [.ite (.not_ (.fld (.var 0) 17)) [.rse 7] [], .setf (.var 0) 18 (.var 1)], false, []⟩
/-- 184: disk.Disk.power (self, kept, arrives, index, data) -/
def d_Disk_power : FD := ⟨2, 5, [.ite (.fld (.var 0) 17) [.ex (.meth (.var 0) 66 [])] [], .lks (.fld (.var 0) 16) (.for_ (.tp [(.nm 2), (.tp [(.nm 3), (.nm 4)])]) (.zip (.var 1) (.fld (.var 0) 16)) [.ite (.var 2) [.seti (.fld (.var 0) 14) (.var 3) (.var 4)] []]), .setf (.var 0) 15 (.blt .list_ true [(.fld (.var 0) 14)]), .setf (.var 0) 16 (.lst true []), .setf (.var 0) 17 (.lit (.bl true))], false, []⟩
/-- 185: disk.Disk.is_on (self) -/
def d_Disk_is_on : FD := ⟨1, 1, [.ret (.fld (.var 0) 17)], true, []⟩
/-- 186: disk.Disk.losses (self) -/
def d_Disk_losses : FD := ⟨1, 1, [.ret (.fld (.var 0) 19)], true, []⟩
def d_Refused___init__ : FD := ⟨0, 0, [], true, []⟩
def fns : List FD := [d_value_key, d_row_key, d_key_of, d_key_order, d_State___init__, d_State__put, d_State__take, d_State__order_facts, d_State_all_items, d_State_has, d_State_copy, d_State_change, d_State_same_schema, d_between, d_write_number, d_write_integer, d_write_list, d_write_string, d_write_names, d_write_value, d_write_row, d_write_item, d_write_change, d_write_changes, d_write_image, d_Reader___init__, d_Reader_read_byte, d_Reader_read_choice, d_Reader_end, d_Reader_read_number, d_Reader_read_integer, d_Reader_read_count, d_Reader_read_character, d_Reader_read_string, d_Reader_read_names, d_Reader_read_value, d_Reader_read_row, d_Reader_read_item, d_Reader_read_change, d_Reader_read_changes, d_Reader_read_image, d_fixed, d_number_of, d_turn_of, d_write_block, d_read_block, d_region_start, d_area_size, d_area_start, d_head, d_read_head, d_counting_head, d_area_sectors, d_found, d__sector, d_pack, d_bucket_of_values, d_values_of, d_bucket, d__filled, d_relation_shape, d_rows_of_buckets, d_structure_shape, d_rooms, d_places, d_room_needed, d_offered, d_used_of_relation, d_used_of_bucket, d_pattern_values, d_read_sectors, d_all_read, d_differing, d_written, d_cost, d_excesses, d_laying, d_stands, d_going, d_way, d_next_works, d_first_least, d_Policy___init__, d_Policy_going, d_Policy_serve, d_Policy_hindsight, d_Policy_paper, d_is_number, d_is_row, d_is_table, d_has_form, d_ways_fit, d_works_fit, d_spends, d_judge, d_has_relation, d_names_in, d_check_relation, d_check_term, d_newly_bound, d_check, d_value_of, d_met, d_meetings, d_compared, d_total_of, d_ways_behind, d_answer, d_pattern_of, d_calls, d_meets, d_need, d_first_repeated, d_need_different, d_over, d_make_relation, d_drop_relation, d_need_row, d_add_fact, d_remove_fact, d_make_structure, d_take_structure, d_make_layout, d_leave_layout, d_ask, d_show, d_say, d_statement_calls, d_Store___init__, d_Store_new_turn, d_Store_write_all, d_Store_write_new, d_Store_can_hold, d_Store_fits, d_Store_commit, d_told_by, d_Run___init__, d_Run_go_back, d_Run_take, d_Words___init__, d_Words__run, d_Words_own, d_Words_say, d_Words_savepoint, d_Words_rollback_to, d_Words_again, d_Words_all_calls, d_Database___init__, d_Database_check_open, d_Database_state, d_Database__shape, d_Database__write, d_Database__whole, d_Database__write_all, d_Database__begin_phase, d_Database__move, d_Database__serve, d_Database__restart, d_Database_read_call, d_Database_commit_call, d_Database__commit_schema, d_Database_session, d_Database_status, d_Database_hindsight, d_Database_paper, d_Session___init__, d_Session_run, d_Session_begin, d_Session__open_words, d_Session_commit, d_Session_rollback, d_Session_savepoint, d_Session_rollback_to, d_Disk___init__, d_Disk_size, d_Disk_read, d_Disk_pending, d_Disk_counts, d_Disk_note_reads, d_Disk_lose_power, d_Disk_operate, d_Disk_write, d_Disk_sync, d_Disk_fail_after, d_Disk_power, d_Disk_is_on, d_Disk_losses, d_Refused___init__]
def cns : List D := [.tup [.str "relation", .str "fact", .str "structure", .str "layout"], .str " !\"#$", .str "&'()*+,-./0123456789:;<=>?@ABCDEFGHIJKLMNOPQRSTUVWXYZ[\\]^_`abcdefghijklmnopqrstuvwxyz{|}~", .int 60, .int 54, .scr [.int 82, .int 85, .int 76, .int 69], .int 53, .int 64, .tup [.int 0, .int 0, .int 0, .int 0, .int 0, .int 0, .int 0, .int 0, .int 0, .int 0, .int 0, .int 0, .int 0, .int 0, .int 0, .int 0, .int 0, .int 0, .int 0, .int 0, .int 0, .int 0, .int 0, .int 0, .int 0, .int 0, .int 0, .int 0, .int 0, .int 0, .int 0, .int 0, .int 0, .int 0, .int 0, .int 0, .int 0, .int 0, .int 0, .int 0, .int 0, .int 0, .int 0, .int 0, .int 0, .int 0, .int 0, .int 0, .int 0, .int 0, .int 0, .int 0, .int 0, .int 0, .int 0, .int 0, .int 0, .int 0, .int 0, .int 0, .int 0, .int 0, .int 0, .int 0], .int 1000000000000, .int 16, .int 1000, .int 40, .int 16, .int 8, .non, .int 1000, .int 60, .int 400, .int 64]
end PT
namespace R
open PySem
mutual
def plD : Nat → D → Bool
  | _, .non => true
  | _, .int _ => true
  | _, .str x => PyData.strOk x
  | k + 1, .tup xs => plDs k xs
  | k + 1, .lst xs => plDs k xs
  | _, _ => false
def plDs : Nat → List D → Bool
  | _, [] => true
  | k, d :: ds => plD k d && plDs k ds
end
mutual
def pd : D → PyData
  | .non => .none
  | .int i => .int i
  | .str x => .str x
  | .tup xs => .tuple (pds xs)
  | .lst xs => .list (pds xs)
  | _ => .none
def pds : List D → List PyData
  | [] => []
  | d :: ds => pd d :: pds ds
end
mutual
theorem toP_pl {m : Mm} : ∀ (k : Nat) (d : D), plD k d = true → toP m (k + 1) d = some (pd d)
  | k, .non, _ => rfl
  | k, .int _, _ => rfl
  | k, .str _, _ => rfl
  | 0, .tup xs, h => by simp [plD] at h
  | k + 1, .tup xs, h => by
    simp only [plD] at h
    simp only [toP, toPs_pl k xs h, Option.map_some, pd]
  | 0, .lst xs, h => by simp [plD] at h
  | k + 1, .lst xs, h => by
    simp only [plD] at h
    simp only [toP, toPs_pl k xs h, Option.map_some, pd]
  | k, .bl _, h => by cases k <;> simp [plD] at h
  | k, .scr _, h => by cases k <;> simp [plD] at h
  | k, .dct _, h => by cases k <;> simp [plD] at h
  | k, .ins _ _, h => by cases k <;> simp [plD] at h
  | k, .ref _, h => by cases k <;> simp [plD] at h
theorem toPs_pl {m : Mm} : ∀ (k : Nat) (ds : List D), plDs k ds = true → ds.mapM (toP m (k + 1)) = some (pds ds)
  | k, [], _ => rfl
  | k, d :: ds, h => by
    simp only [plDs, Bool.and_eq_true] at h
    rw [List.mapM_cons, toP_pl k d h.1, toPs_pl k ds h.2]; rfl
end
mutual
theorem lay_pl : ∀ (k : Nat) (d : D), plD k d = true → PyData.canLay0 (pd d) = true
  | k, .non, _ => by simp only [pd, PyData.canLay0]
  | k, .int _, _ => by simp only [pd, PyData.canLay0]
  | k, .str z, h => by
    have h : PyData.strOk z = true := by cases k <;> simpa only [plD] using h
    simp only [pd, PyData.canLay0, h]
  | 0, .tup xs, h => by simp [plD] at h
  | k + 1, .tup xs, h => by
    simp only [plD] at h
    simp only [pd, PyData.canLay0, lays_pl k xs h]
  | 0, .lst xs, h => by simp [plD] at h
  | k + 1, .lst xs, h => by
    simp only [plD] at h
    simp only [pd, PyData.canLay0, lays_pl k xs h]
  | k, .bl _, h => by cases k <;> simp [plD] at h
  | k, .scr _, h => by cases k <;> simp [plD] at h
  | k, .dct _, h => by cases k <;> simp [plD] at h
  | k, .ins _ _, h => by cases k <;> simp [plD] at h
  | k, .ref _, h => by cases k <;> simp [plD] at h
theorem lays_pl : ∀ (k : Nat) (ds : List D), plDs k ds = true → PyData.canLayAll0 (pds ds) = true
  | k, [], _ => by simp only [pds, PyData.canLayAll0]
  | k, d :: ds, h => by
    simp only [plDs, Bool.and_eq_true] at h
    simp only [pds, PyData.canLayAll0, lay_pl k d h.1, lays_pl k ds h.2, Bool.and_self]
end
mutual
theorem dep_pl : ∀ (k : Nat) (d : D), plD k d = true → PyData.depth (pd d) ≤ k
  | k, .non, _ => by simp only [pd, PyData.depth]; omega
  | k, .int _, _ => by simp only [pd, PyData.depth]; omega
  | k, .str _, _ => by simp only [pd, PyData.depth]; omega
  | 0, .tup xs, h => by simp [plD] at h
  | k + 1, .tup xs, h => by
    simp only [plD] at h
    have := deps_pl k xs h
    simp only [pd, PyData.depth]; omega
  | 0, .lst xs, h => by simp [plD] at h
  | k + 1, .lst xs, h => by
    simp only [plD] at h
    have := deps_pl k xs h
    simp only [pd, PyData.depth]; omega
  | k, .bl _, h => by cases k <;> simp [plD] at h
  | k, .scr _, h => by cases k <;> simp [plD] at h
  | k, .dct _, h => by cases k <;> simp [plD] at h
  | k, .ins _ _, h => by cases k <;> simp [plD] at h
  | k, .ref _, h => by cases k <;> simp [plD] at h
theorem deps_pl : ∀ (k : Nat) (ds : List D), plDs k ds = true → PyData.depthAll (pds ds) ≤ k
  | k, [], _ => by simp only [pds, PyData.depthAll]; omega
  | k, d :: ds, h => by
    simp only [plDs, Bool.and_eq_true] at h
    have h1 := dep_pl k d h.1
    have h2 := deps_pl k ds h.2
    simp only [pds, PyData.depthAll]; omega
end
theorem shaped_pl {k : Nat} (hk : k ≤ 60) {d : D} (h : plD k d = true) : SeqAt.shaped (pd d) = true := by
  unfold SeqAt.shaped
  rw [lay_pl k d h, Bool.true_and]
  have := dep_pl k d h
  exact decide_eq_true (by omega)
mutual
theorem eqv_pl : ∀ (k : Nat) (a b : D), plD k a = true → plD k b = true → PyData.eqv (pd a) (pd b) = true → a = b
  | k, .non, b, _, hb, e => by
    cases b <;> first
      | rfl
      | (cases k <;> simp [plD] at hb; done)
      | (simp only [pd, PyData.eqv] at e; cases e)
  | k, .int i, b, _, hb, e => by
    cases b <;> first
      | (simp only [pd, PyData.eqv] at e; rw [beq_iff_eq.mp e]; done)
      | (cases k <;> simp [plD] at hb; done)
      | (simp only [pd, PyData.eqv] at e; cases e)
  | k, .str i, b, _, hb, e => by
    cases b <;> first
      | (simp only [pd, PyData.eqv] at e; rw [beq_iff_eq.mp e]; done)
      | (cases k <;> simp [plD] at hb; done)
      | (simp only [pd, PyData.eqv] at e; cases e)
  | 0, .tup xs, b, h, _, _ => by simp [plD] at h
  | k + 1, .tup xs, b, h, hb, e => by
    cases b <;> first
      | (simp only [pd, PyData.eqv] at e; simp only [plD] at h hb; rw [eqvs_pl k _ _ h hb e]; done)
      | (simp [plD] at hb; done)
      | (simp only [pd, PyData.eqv] at e; cases e)
  | 0, .lst xs, b, h, _, _ => by simp [plD] at h
  | k + 1, .lst xs, b, h, hb, e => by
    cases b <;> first
      | (simp only [pd, PyData.eqv] at e; simp only [plD] at h hb; rw [eqvs_pl k _ _ h hb e]; done)
      | (simp [plD] at hb; done)
      | (simp only [pd, PyData.eqv] at e; cases e)
  | k, .bl _, _, h, _, _ => by cases k <;> simp [plD] at h
  | k, .scr _, _, h, _, _ => by cases k <;> simp [plD] at h
  | k, .dct _, _, h, _, _ => by cases k <;> simp [plD] at h
  | k, .ins _ _, _, h, _, _ => by cases k <;> simp [plD] at h
  | k, .ref _, _, h, _, _ => by cases k <;> simp [plD] at h
theorem eqvs_pl : ∀ (k : Nat) (a b : List D), plDs k a = true → plDs k b = true → PyData.eqvAll (pds a) (pds b) = true → a = b
  | k, [], [], _, _, _ => rfl
  | k, [], _ :: _, _, _, e => by simp only [pds, PyData.eqvAll] at e; cases e
  | k, _ :: _, [], _, _, e => by simp only [pds, PyData.eqvAll] at e; cases e
  | k, a :: as, b :: bs, h, hb, e => by
    simp only [plDs, Bool.and_eq_true] at h hb
    simp only [pds, PyData.eqvAll, Bool.and_eq_true] at e
    rw [eqv_pl k a b h.1 hb.1 e.1, eqvs_pl k as bs h.2 hb.2 e.2]
end
open Classical in
theorem eq_pl {m : Mm} {a b : D} (ha : plD 8 a = true) (hb : plD 8 b = true) : eqD m a b = some (decide (a = b)) := by
  have core : (match toP m 9 a, toP m 9 b with
    | some p, some q => if SeqAt.shaped p = true ∧ SeqAt.shaped q = true then some (PyData.eqv p q) else none
    | _, _ => none) = some (decide (a = b)) := by
    rw [toP_pl 8 a ha, toP_pl 8 b hb]
    dsimp only
    rw [if_pos ⟨shaped_pl (by decide) ha, shaped_pl (by decide) hb⟩]
    by_cases q : a = b
    · subst q
      rw [decide_eq_true rfl, SeqAt.eqv_refl _ (lay_pl 8 a ha)]
    · rw [decide_eq_false q]
      cases e : PyData.eqv (pd a) (pd b) with
      | true => exact absurd (eqv_pl 8 a b ha hb e) q
      | false => rfl
  unfold eqD
  split
  · rename_i i j
    by_cases q : i = j
    · subst q; simp
    · have : (D.int i) ≠ .int j := fun z => q (D.int.inj z)
      rw [decide_eq_false this, beq_eq_false_iff_ne.mpr q]
  · rename_i i j
    by_cases q : i = j
    · subst q; simp
    · have : (D.str i) ≠ .str j := fun z => q (D.str.inj z)
      rw [decide_eq_false this, decide_eq_false q]
  · exact core
theorem eq_same {m : Mm} {a : D} (ha : plD 8 a = true) : eqD m a a = some true := by
  rw [eq_pl ha ha]; simp
end R
namespace R
open PySem
theorem szNil : szOk 0 = true := rfl
theorem szOne : szOk (0 + 1) = true := rfl
theorem szTwo : szOk (0 + 1 + 1) = true := rfl
theorem szThree : szOk (0 + 1 + 1 + 1) = true := rfl
theorem szFour : szOk (0 + 1 + 1 + 1 + 1) = true := rfl
theorem szFive : szOk (0 + 1 + 1 + 1 + 1 + 1) = true := rfl
theorem mulOk_l {i j : Int} (h : i.natAbs ≤ 18446744073709551615) : mulOk i j = true := by
  unfold mulOk
  rw [Nat.ble_eq_true_of_le h, Bool.true_or, Bool.true_or]
theorem mulOk_r {i j : Int} (h : j.natAbs ≤ 18446744073709551615) : mulOk i j = true := by
  unfold mulOk
  rw [Nat.ble_eq_true_of_le h, Bool.or_true, Bool.true_or]
end R
namespace PB
open PySem R PT
variable {p : Pg}
def dg : Nat → Nat → List Nat
  | 0, _ => []
  | c + 1, a => a % 256 :: dg c (a / 256)
def fixL (c a : Nat) : List Nat := (dg c a).reverse
end PB
namespace PB
open PySem R PT
variable {p : Pg}
def numL (l : List Nat) : Nat := l.foldl (fun t b => 256 * t + b) 0
end PB
namespace PB
open PySem R PT
variable {p : Pg}
/-- the content of the sectors, if all have the turn -/
def ctn (t : Nat) : List (List Nat) → Option (List Nat)
  | [] => some []
  | s :: r => if numL (s.take 6) = t then (ctn t r).map fun c => s.drop 10 ++ c else none
def cntOf (S : List (List Nat)) : Nat := match S with | [] => 0 | s :: _ => numL ((s.drop 6).take 4)
def rb (S : List (List Nat)) (t : Nat) : Option (List Nat × Nat) :=
  if 1 ≤ cntOf S ∧ cntOf S ≤ S.length then
    match ctn t (S.take (cntOf S)) with
    | some c => if numL (c.take 4) + 4 ≤ c.length then some ((c.drop 4).take (numL (c.take 4)), cntOf S) else none
    | none => none
  else none
end PB
namespace PB
open PySem R PT
variable {p : Pg}
theorem lt_int {m : Mm} {i j : Int} : cmpD .lt m (.int i) (.int j) = some (decide (i < j)) := rfl
theorem gt_int {m : Mm} {i j : Int} : cmpD .gt m (.int i) (.int j) = some (decide (j < i)) := rfl
end PB
namespace PB
open PySem R PT
variable {p : Pg}
theorem mk1 {d : D} {m : Mm} : mkL false [d] m = .ok (.lst [d]) m := rfl
def hd (t a : Nat) : List Nat := ([82, 85, 76, 69] ++ fixL 6 t ++ [a]) ++ List.replicate 53 0
end PB
namespace R
open PySem
def rS (b n : Nat) : List D := (List.range n).map fun k => .ref (b + k)
theorem rS_len (b n : Nat) : (rS b n).length = n := by unfold rS; rw [List.length_map, List.length_range]
theorem rS_succ (b n : Nat) : rS b (n + 1) = .ref b :: rS (b + 1) n := by
  unfold rS
  rw [List.range_succ_eq_map, List.map_cons, List.map_map]
  congr 1
  refine List.map_congr_left fun k _ => ?_
  show D.ref (b + (k + 1)) = D.ref (b + 1 + k)
  congr 1; omega
variable {p : Pg} {c : Calls}
theorem rsv_ref {h : Mm} {k n : Nat} {xs : List D} (e : h[n]? = some (.lst xs)) (q : nrs xs = true) : rsv h (k + 2) (.ref n) = some (.lst xs) := by
  unfold rsv
  rw [if_neg (by simp [nr])]
  simp only [e, mapM_rsv q, Option.map_some]
end R
namespace PL
open PySem R PT
structure PolP (p : Pg) : Prop where
  f_next_works : p.fns[80]? = some d_next_works
  f_first_least : p.fns[81]? = some d_first_least
  f_Policy___init__ : p.fns[82]? = some d_Policy___init__
  f_Policy_going : p.fns[83]? = some d_Policy_going
  f_Policy_serve : p.fns[84]? = some d_Policy_serve
  f_Policy_hindsight : p.fns[85]? = some d_Policy_hindsight
  f_Policy_paper : p.fns[86]? = some d_Policy_paper
/-- what layouts cost: their number, the one at the start, what they stand for, the ways -/
structure Cst where
  c : Nat
  st : Nat
  S : Nat → Int
  W : Nat → Nat → Int
  hc : 0 < c
  h5 : c ≤ 1000
  hs : st < c
variable {p : Pg}
theorem ev_blt1 {p : Pg} {c : Calls} {b : Bt} {o : Bool} {e : ME} {sl : List (Option D)} {h h1 h2 : Mm} {d x : D} (a : evalE p c e sl h = .ok d h1) (q : bltD b o [d] h1 = .ok x h2) : evalE p c (.blt b o [e]) sl h = .ok x h2 := by simp only [evalE, evalEs, a, Res.bind_ok, q]
theorem first_least_ok (P : PolP p) {n c : Nat} {f : Nat → Int} {h : Mm} (hc : 0 < c) : callN p (n + 1) 81 [vec c f] h = .ok (.int (am c f)) h := by
  refine call_pure (fd := d_first_least) P.f_first_least rfl rfl (by simp only [nrs, nr_vec, Bool.and_self]) ?_
  simp only [d_first_least, execSs, execS, evalE, evalEs, evalB, evalO, evalI, up_ok, Res.bind_ok, List.getElem?_cons_zero, List.getElem?_cons_succ, List.set_cons_zero, List.set_cons_succ, List.map_cons, List.map_nil, List.cons_append, List.nil_append, Nat.add_one_sub_one, Cn.d, if_true, wipe, bindT, bindTs, binD, arD, mkT, Bool.false_eq_true, if_false, Nat.reduceSub, Option.bind_some, szNil, szOne, szTwo, szThree, szFour, szFive, List.length_nil, List.length_cons, addD, mulD, mkL, List.replicate_succ, List.replicate_zero, List.replicate, bmTy_tab, min1_vec hc, index_vec hc]
  exact ⟨_, _, rfl, rsv9 rfl⟩
theorem mulOk_two {j : Int} : mulOk 2 j = true := mulOk_l (by decide)
/-- the next works -/
noncomputable def nw (c : Nat) (W : Nat → Nat → Int) (w t : Nat → Int) : Nat → Int := fun s => mn c fun x => w x + 2 * t x + W x s
theorem next_works_ok (P : PolP p) {n c : Nat} {w t : Nat → Int} {W : Nat → Nat → Int} {h : Mm} (hc : 0 < c) (hb : c ≤ 1000) : callN p (n + 1) 80 [vec c w, vec c t, tab c fun i => vec c (W i)] h = .ok (vec c (nw c W w t)) h := by
  refine call_pure (fd := d_next_works) P.f_next_works rfl rfl (by simp only [nrs, nr_vec, nr_mat, Bool.and_self]) ?_
  have sm : small62 (c : Int) = true := small_of (by omega)
  have sz : szOk c = true := szOk_of (by omega)
  simp only [d_next_works, execSs, execS, evalE, evalEs, evalB, evalO, evalI, up_ok, Res.bind_ok, List.getElem?_cons_zero, List.getElem?_cons_succ, List.set_cons_zero, List.set_cons_succ, List.map_cons, List.map_nil, List.cons_append, List.nil_append, Nat.add_one_sub_one, Cn.d, if_true, wipe, bindT, bindTs, binD, arD, mkT, Bool.false_eq_true, if_false, Nat.reduceSub, Option.bind_some, szNil, szOne, szTwo, szThree, szFour, szFive, List.length_nil, List.length_cons, addD, mulD, mkL, List.replicate_succ, List.replicate_zero, List.replicate, sm, sz, Int.toNat_natCast, List.length_map, List.length_range, len_tab]
  rw [mapL_rng (c := c) (fun k => .int (w k + 2 * t k)) fun k hk => by
    simp only [execSs, execS, evalE, evalEs, evalB, evalO, evalI, up_ok, Res.bind_ok, List.getElem?_cons_zero, List.getElem?_cons_succ, List.set_cons_zero, List.set_cons_succ, List.map_cons, List.map_nil, List.cons_append, List.nil_append, Nat.add_one_sub_one, Cn.d, if_true, wipe, bindT, bindTs, binD, arD, mkT, Bool.false_eq_true, if_false, Nat.reduceSub, Option.bind_some, szNil, szOne, szTwo, szThree, szFour, szFive, List.length_nil, List.length_cons, addD, mulD, mkL, List.replicate_succ, List.replicate_zero, List.replicate, sm, sz, Int.toNat_natCast, List.length_map, List.length_range, idx_tab hk, noExn, mulOk_two]]
  simp only [execSs, execS, evalE, evalEs, evalB, evalO, evalI, up_ok, Res.bind_ok, List.getElem?_cons_zero, List.getElem?_cons_succ, List.set_cons_zero, List.set_cons_succ, List.map_cons, List.map_nil, List.cons_append, List.nil_append, Nat.add_one_sub_one, Cn.d, if_true, wipe, bindT, bindTs, binD, arD, mkT, Bool.false_eq_true, if_false, Nat.reduceSub, Option.bind_some, szNil, szOne, szTwo, szThree, szFour, szFive, List.length_nil, List.length_cons, addD, mulD, mkL, List.replicate_succ, List.replicate_zero, List.replicate, sm, sz, Int.toNat_natCast, List.length_map, List.length_range]
  rw [mapL_rng (c := c) (fun k => .int (nw c W w t k)) fun k hk => by
    try simp only [execSs, execS, evalE, evalEs, evalB, evalO, evalI, up_ok, Res.bind_ok, List.getElem?_cons_zero, List.getElem?_cons_succ, List.set_cons_zero, List.set_cons_succ, List.map_cons, List.map_nil, List.cons_append, List.nil_append, Nat.add_one_sub_one, Cn.d, if_true, wipe, bindT, bindTs, binD, arD, mkT, Bool.false_eq_true, if_false, Nat.reduceSub, Option.bind_some, szNil, szOne, szTwo, szThree, szFour, szFive, List.length_nil, List.length_cons, addD, mulD, mkL, List.replicate_succ, List.replicate_zero, List.replicate, sm, sz, Int.toNat_natCast, List.length_map, List.length_range]
    rw [mapL_rng (c := c) (fun x => .int (w x + 2 * t x + W x k)) fun x hx => by
      have e := idx_tab (m := []) (F := fun x => .int (w x + 2 * t x)) hx
      unfold tab at e
      simp only [execSs, execS, evalE, evalEs, evalB, evalO, evalI, up_ok, Res.bind_ok, List.getElem?_cons_zero, List.getElem?_cons_succ, List.set_cons_zero, List.set_cons_succ, List.map_cons, List.map_nil, List.cons_append, List.nil_append, Nat.add_one_sub_one, Cn.d, if_true, wipe, bindT, bindTs, binD, arD, mkT, Bool.false_eq_true, if_false, Nat.reduceSub, Option.bind_some, szNil, szOne, szTwo, szThree, szFour, szFive, List.length_nil, List.length_cons, addD, mulD, mkL, List.replicate_succ, List.replicate_zero, List.replicate, sm, sz, Int.toNat_natCast, List.length_map, List.length_range, idx_tab hx, idx_tab hk, e, noExn]]
    have e := min1_vec (m := []) (f := fun x => w x + 2 * t x + W x k) (o := false) hc
    unfold vec tab at e
    simp only [execSs, execS, evalE, evalEs, evalB, evalO, evalI, up_ok, Res.bind_ok, List.getElem?_cons_zero, List.getElem?_cons_succ, List.set_cons_zero, List.set_cons_succ, List.map_cons, List.map_nil, List.cons_append, List.nil_append, Nat.add_one_sub_one, Cn.d, if_true, wipe, bindT, bindTs, binD, arD, mkT, Bool.false_eq_true, if_false, Nat.reduceSub, Option.bind_some, szNil, szOne, szTwo, szThree, szFour, szFive, List.length_nil, List.length_cons, addD, mulD, mkL, List.replicate_succ, List.replicate_zero, List.replicate, sm, sz, Int.toNat_natCast, List.length_map, List.length_range, e, noExn, nw]]
  simp only [execSs, execS, evalE, evalEs, evalB, evalO, evalI, up_ok, Res.bind_ok, List.getElem?_cons_zero, List.getElem?_cons_succ, List.set_cons_zero, List.set_cons_succ, List.map_cons, List.map_nil, List.cons_append, List.nil_append, Nat.add_one_sub_one, Cn.d, if_true, wipe, bindT, bindTs, binD, arD, mkT, Bool.false_eq_true, if_false, Nat.reduceSub, Option.bind_some, szNil, szOne, szTwo, szThree, szFour, szFive, List.length_nil, List.length_cons, addD, mulD, mkL, List.replicate_succ, List.replicate_zero, List.replicate, sm, sz, Int.toNat_natCast, List.length_map, List.length_range]
  exact ⟨_, _, rfl, rsv9 nr_vec⟩
def goZ (q : Cst) (x y : Nat) : Int := (q.W x y + q.S y - q.S x) / 2
end PL
namespace DR
open PySem R
variable {p : Pg}
def dDraw : FD := ⟨2, 5, [.ite (.not_ (.var 0)) [.ret (.bin .mod false (.bin .mul false (.var 1) (.lit (.int 5))) (.lit (.int 7)))] [], .set 2 (.blt .int_ false [(.idx (.var 0) (.bin .mod false (.var 1) (.blt .len false [(.var 0)])))]), .set 3 (.bin .fdiv false (.var 1) (.blt .len false [(.var 0)])), .ite (.cmp .ge (.var 2) (.lit (.int 1000000000000000000))) [.for_ (.nm 4) (.rng1 (.blt .min2 false [(.var 3), (.lit (.int 60))])) [.set 2 (.bin .fdiv false (.var 2) (.lit (.int 100003)))], .ret (.bin .mod false (.var 2) (.lit (.int 100003)))] [], .ret (.bin .mod false (.bin .mul false (.bin .mod false (.bin .add false (.bin .add false (.bin .mul false (.var 2) (.lit (.int 48271))) (.bin .mul false (.var 1) (.lit (.int 69621)))) (.lit (.int 13))) (.lit (.int 2147483647))) (.lit (.int 16807))) (.lit (.int 2147483629)))], true, []⟩
def at0 (ns : List Int) (j : Nat) : Int := match ns[j]? with | some x => x | none => 0
theorem idx_scr {m : Mm} {ns : List Int} {j : Nat} (h : j < ns.length) : idxD m (.scr (ns.map .int)) (.int (j : Int)) = some (.int (at0 ns j)) := by
  simp only [idxD, seqOf, lstOf, atI_nat', List.getElem?_map, at0, List.getElem?_eq_getElem h, Option.map_some]
def itn : Nat → Int → Int
  | 0, z => z
  | n + 1, z => itn n z / 100003
def drawZ (ns : List Int) (k : Nat) : Int :=
  if ns.length = 0 then (k : Int) * 5 % 7
  else if 1000000000000000000 ≤ at0 ns (k % ns.length) then itn (if 60 < k / ns.length then 60 else k / ns.length) (at0 ns (k % ns.length)) % 100003
  else (at0 ns (k % ns.length) * 48271 + (k : Int) * 69621 + 13) % 2147483647 * 16807 % 2147483629
theorem mulOk_5 {i : Int} : mulOk i 5 = true := mulOk_r (by decide)
theorem nrs_ints {ns : List Int} : nrs (ns.map D.int) = true := nrs_map fun _ _ => by simp only [nr]
theorem draw_ok {i : Nat} (hf : p.fns[i]? = some dDraw) {ns : List Int} (hl : ns.length ≤ 63) (k n : Nat) (h : Mm) : callN p (n + 1) i [.scr (ns.map .int), .int (k : Int)] h = .ok (.int (drawZ ns k)) h := by
  refine call_pure (fd := dDraw) hf rfl rfl (by simp only [nrs, nr, nrs_ints, Bool.and_self]) ?_
  by_cases h0 : ns.length = 0
  · have e0 : ns = [] := List.eq_nil_of_length_eq_zero h0
    subst e0
    simp only [dDraw, execSs, execS, evalE, evalEs, evalB, evalO, evalI, up_ok, Res.bind_ok, List.getElem?_cons_zero, List.getElem?_cons_succ, List.set_cons_zero, List.set_cons_succ, List.map_cons, List.map_nil, List.cons_append, List.nil_append, Nat.add_one_sub_one, Cn.d, if_true, wipe, bindT, bindTs, binD, arD, mkT, Bool.false_eq_true, if_false, Nat.reduceSub, Option.bind_some, szNil, szOne, szTwo, szThree, szFour, szFive, List.length_nil, List.length_cons, addD, mulD, mkL, List.replicate_succ, List.replicate_zero, List.replicate, truthD, lstOf, Option.map_some, List.isEmpty_nil, Bool.not_true, Bool.not_false, mulOk_5, decide_true, show decide ((0:Int) < 7) = true from rfl]
    exact ⟨_, _, rfl, rsv9 rfl⟩
  · have hp : 0 < ns.length := Nat.pos_of_ne_zero h0
    have hne : (ns.map D.int).isEmpty = false := by
      cases ns with
      | nil => exact absurd rfl h0
      | cons _ _ => rfl
    have e1 : decide ((0 : Int) < ((ns.length : Nat) : Int)) = true := decide_eq_true (by omega)
    have e2 : divOk ((ns.length : Nat) : Int) = true := divOk_small (by omega) (by omega)
    have e3 : ((k : Nat) : Int) % ((ns.length : Nat) : Int) = ((k % ns.length : Nat) : Int) := (Int.natCast_emod _ _).symm
    have e4 : ((k : Nat) : Int) / ((ns.length : Nat) : Int) = ((k / ns.length : Nat) : Int) := (Int.natCast_ediv _ _).symm
    have e5 := idx_scr (m := []) (ns := ns) (Nat.mod_lt k hp)
    have e6 : (if (60 : Int) < ((k / ns.length : Nat) : Int) then (60 : Int) else ((k / ns.length : Nat) : Int)) = (((if 60 < k / ns.length then 60 else k / ns.length : Nat)) : Int) := by
      split <;> split <;> omega
    have e7 : small62 (((if 60 < k / ns.length then 60 else k / ns.length : Nat)) : Int) = true := small_of (by split <;> omega)
    have e8 : ∀ i : Int, mulOk i 48271 = true := fun i => mulOk_r (by decide)
    have e9 : ∀ i : Int, mulOk i 69621 = true := fun i => mulOk_r (by decide)
    have e10 : ∀ i : Int, mulOk i 16807 = true := fun i => mulOk_r (by decide)
    simp only [dDraw, execSs, execS, evalE, evalEs, evalB, evalO, evalI, up_ok, Res.bind_ok, List.getElem?_cons_zero, List.getElem?_cons_succ, List.set_cons_zero, List.set_cons_succ, List.map_cons, List.map_nil, List.cons_append, List.nil_append, Nat.add_one_sub_one, Cn.d, if_true, wipe, bindT, bindTs, binD, arD, mkT, Bool.false_eq_true, if_false, Nat.reduceSub, Option.bind_some, szNil, szOne, szTwo, szThree, szFour, szFive, List.length_nil, List.length_cons, addD, mulD, mkL, List.replicate_succ, List.replicate_zero, List.replicate, truthD, lstOf, Option.map_some, hne, Bool.not_true, Bool.not_false, bltD, seqOf, List.length_map, e1, e2, e3, e4, e5, cmpD, e8, e9, e10, show decide ((0:Int) < 2147483647) = true from rfl, show decide ((0:Int) < 2147483629) = true from rfl, show decide ((0:Int) < 100003) = true from rfl, show divOk 100003 = true from divOk_small (by decide) (by decide)]
    by_cases hb : (1000000000000000000 : Int) ≤ at0 ns (k % ns.length)
    · simp only [decide_eq_true hb, execSs, execS, evalE, evalEs, evalB, evalO, evalI, up_ok, Res.bind_ok, List.getElem?_cons_zero, List.getElem?_cons_succ, List.set_cons_zero, List.set_cons_succ, List.map_cons, List.map_nil, List.cons_append, List.nil_append, Nat.add_one_sub_one, Cn.d, if_true, wipe, bindT, bindTs, binD, arD, mkT, Bool.false_eq_true, if_false, Nat.reduceSub, Option.bind_some, szNil, szOne, szTwo, szThree, szFour, szFive, List.length_nil, List.length_cons, addD, mulD, mkL, List.replicate_succ, List.replicate_zero, List.replicate, e6, e7, Int.toNat_natCast, bltD]
      obtain ⟨s', es, x, hs⟩ := forL_nx (c := (if 60 < k / ns.length then 60 else k / ns.length)) (F := fun k => .int (k : Int)) (f := fun x s => match bindT (.nm 4) x s.sl with | some sl => execSs p (callN p n) [MS.set 2 (.bin .fdiv false (.var 2) (.lit (.int 100003)))] ⟨sl, s.hp⟩ | none => .bad)
        (fun j s => ∃ x, s = ⟨[some (.scr (ns.map .int)), some (.int (k : Int)), some (.int (itn j (at0 ns (k % ns.length)))), some (.int ((k / ns.length : Nat) : Int)), x], []⟩) (s := ⟨[some (.scr (ns.map .int)), some (.int (k : Int)), some (.int (at0 ns (k % ns.length))), some (.int ((k / ns.length : Nat) : Int)), none], []⟩) ⟨none, rfl⟩ (by
          rintro j s hj ⟨x, rfl⟩
          simp only [execSs, execS, evalE, evalEs, evalB, evalO, evalI, up_ok, Res.bind_ok, List.getElem?_cons_zero, List.getElem?_cons_succ, List.set_cons_zero, List.set_cons_succ, List.map_cons, List.map_nil, List.cons_append, List.nil_append, Nat.add_one_sub_one, Cn.d, if_true, wipe, bindT, bindTs, binD, arD, mkT, Bool.false_eq_true, if_false, Nat.reduceSub, Option.bind_some, szNil, szOne, szTwo, szThree, szFour, szFive, List.length_nil, List.length_cons, addD, mulD, mkL, List.replicate_succ, List.replicate_zero, List.replicate, show divOk 100003 = true from divOk_small (by decide) (by decide)]
          exact ⟨_, rfl, _, rfl⟩)
      subst hs
      simp only [bindT, execSs, execS, evalE, evalEs, evalB, evalO, evalI, up_ok, Res.bind_ok, List.getElem?_cons_zero, List.getElem?_cons_succ, List.set_cons_zero, List.set_cons_succ, List.map_cons, List.map_nil, List.cons_append, List.nil_append, Nat.add_one_sub_one, Cn.d, if_true, wipe, bindT, bindTs, binD, arD, mkT, Bool.false_eq_true, if_false, Nat.reduceSub, Option.bind_some, szNil, szOne, szTwo, szThree, szFour, szFive, List.length_nil, List.length_cons, addD, mulD, mkL, List.replicate_succ, List.replicate_zero, List.replicate] at es
      simp only [es, execSs, execS, evalE, evalEs, evalB, evalO, evalI, up_ok, Res.bind_ok, List.getElem?_cons_zero, List.getElem?_cons_succ, List.set_cons_zero, List.set_cons_succ, List.map_cons, List.map_nil, List.cons_append, List.nil_append, Nat.add_one_sub_one, Cn.d, if_true, wipe, bindT, bindTs, binD, arD, mkT, Bool.false_eq_true, if_false, Nat.reduceSub, Option.bind_some, szNil, szOne, szTwo, szThree, szFour, szFive, List.length_nil, List.length_cons, addD, mulD, mkL, List.replicate_succ, List.replicate_zero, List.replicate, show divOk 100003 = true from divOk_small (by decide) (by decide), show decide ((0:Int) < 100003) = true from rfl]
      refine ⟨_, _, rfl, ?_⟩
      rw [rsv9 rfl]
      unfold drawZ
      rw [if_neg h0, if_pos hb]
    · simp only [decide_eq_false hb, execSs, execS, evalE, evalEs, evalB, evalO, evalI, up_ok, Res.bind_ok, List.getElem?_cons_zero, List.getElem?_cons_succ, List.set_cons_zero, List.set_cons_succ, List.map_cons, List.map_nil, List.cons_append, List.nil_append, Nat.add_one_sub_one, Cn.d, if_true, wipe, bindT, bindTs, binD, arD, mkT, Bool.false_eq_true, if_false, Nat.reduceSub, Option.bind_some, szNil, szOne, szTwo, szThree, szFour, szFive, List.length_nil, List.length_cons, addD, mulD, mkL, List.replicate_succ, List.replicate_zero, List.replicate, e8, e9, e10, show decide ((0:Int) < 2147483647) = true from rfl, show decide ((0:Int) < 2147483629) = true from rfl]
      refine ⟨_, _, rfl, ?_⟩
      rw [rsv9 rfl]
      unfold drawZ
      rw [if_neg h0, if_neg hb]
end DR
namespace PH
open PySem R PB
variable {p : Pg}
/-- what a law draws from: the script, where one reads, what is left of a great cell, the mixed number -/
def so (zs : List Int) (i b : Nat) (c : Int) : O := .lst [.lst (zs.map .int), .int (i : Int), .int (b : Int), .int c]
def St (h : Mm) (r : Nat) : Prop := ∃ zs i b c, h[r]? = some (so zs i b c)
theorem set_at {h : Mm} {r : Nat} {o : O} (e : h[r]? = some o) : h.set r o = h := by
  apply List.ext_getElem?
  intro j
  by_cases q : r = j
  · subst q
    rw [List.getElem?_set_self (List.getElem?_eq_some_iff.mp e).1, e]
  · rw [List.getElem?_set_ne q]
theorem eq_str {m : Mm} {x : Str} : cmpD .eq m (.str x) (.str x) = some true := by simp only [cmpD, eqD, decide_true]
end PH
namespace HP
open PySem R
def Hold (h : Mm) (L : List (Nat × O)) : Prop := (∀ q ∈ L, h[q.1]? = some q.2) ∧ (L.map (·.1)).Nodup
variable {h : Mm} {L L' A B : List (Nat × O)} {n : Nat} {o o' : O}
theorem Hold.nil : Hold h [] := ⟨(fun q hq => by cases hq), List.nodup_nil⟩
theorem Hold.perm (H : Hold h L) (p : L.Perm L') : Hold h L' := ⟨fun q hq => H.1 q (p.mem_iff.mpr hq), (p.map _).nodup_iff.mp H.2⟩
theorem Hold.comm (H : Hold h (A ++ B)) : Hold h (B ++ A) := H.perm List.perm_append_comm
theorem Hold.sub (H : Hold h L) (s : L'.Sublist L) : Hold h L' := ⟨fun q hq => H.1 q (s.subset hq), H.2.sublist (s.map _)⟩
theorem Hold.left (H : Hold h (A ++ B)) : Hold h A := H.sub (List.sublist_append_left _ _)
theorem Hold.tail {q : Nat × O} (H : Hold h (q :: L)) : Hold h L := H.sub (List.sublist_cons_self _ _)
theorem Hold.head (H : Hold h ((n, o) :: L)) : h[n]? = some o := H.1 (n, o) List.mem_cons_self
theorem Hold.lt (H : Hold h L) {q : Nat × O} (hq : q ∈ L) : q.1 < h.length := (List.getElem?_eq_some_iff.mp (H.1 q hq)).1
theorem Hold.set (H : Hold h (A ++ (n, o) :: B)) : Hold (h.set n o') (A ++ (n, o') :: B) := by
  have nd : (A ++ (n, o) :: B).map (·.1) = (A ++ (n, o') :: B).map (·.1) := by simp
  refine ⟨fun q hq => ?_, by rw [← nd]; exact H.2⟩
  have hn := H.lt (q := (n, o)) (List.mem_append_right _ List.mem_cons_self)
  have nn := H.2
  rw [List.map_append, List.map_cons] at nn
  have n1 : ∀ q ∈ A, q.1 ≠ n := fun q hq z => by
    have := (List.nodup_append.mp nn).2.2 q.1 (List.mem_map.mpr ⟨q, hq, rfl⟩) n List.mem_cons_self
    exact this z
  have n2 : ∀ q ∈ B, q.1 ≠ n := fun q hq z => by
    have := (List.nodup_cons.mp (List.nodup_append.mp nn).2.1).1
    exact this (List.mem_map.mpr ⟨q, hq, z⟩)
  rcases List.mem_append.mp hq with hq | hq
  · rw [List.getElem?_set_ne (Ne.symm (n1 q hq))]
    exact H.1 q (List.mem_append_left _ hq)
  · rcases List.mem_cons.mp hq with rfl | hq
    · exact List.getElem?_set_self hn
    · rw [List.getElem?_set_ne (Ne.symm (n2 q hq))]
      exact H.1 q (List.mem_append_right _ (List.mem_cons_of_mem _ hq))
theorem Hold.app (H : Hold h L) (g : Mm) : Hold (h ++ g) L := ⟨fun q hq => by rw [List.getElem?_append_left (H.lt hq)]; exact H.1 q hq, H.2⟩
theorem Hold.new (H : Hold h L) (o : O) : Hold (h ++ [o]) ((h.length, o) :: L) := by
  refine ⟨fun q hq => ?_, ?_⟩
  · rcases List.mem_cons.mp hq with rfl | hq
    · simp
    · exact (H.app [o]).1 q hq
  · rw [List.map_cons]
    refine List.nodup_cons.mpr ⟨fun z => ?_, H.2⟩
    obtain ⟨q, hq, e⟩ := List.mem_map.mp z
    have := H.lt hq
    have e : q.1 = h.length := e
    omega
theorem Hold.set0 (H : Hold h ((n, o) :: B)) : Hold (h.set n o') ((n, o') :: B) := Hold.set (A := []) H
theorem Hold.set1 {a : Nat × O} (H : Hold h (a :: (n, o) :: B)) : Hold (h.set n o') (a :: (n, o') :: B) := Hold.set (A := [a]) H
theorem Hold.set2 {a b : Nat × O} (H : Hold h (a :: b :: (n, o) :: B)) : Hold (h.set n o') (a :: b :: (n, o') :: B) := Hold.set (A := [a, b]) H
theorem Hold.set3 {a b c : Nat × O} (H : Hold h (a :: b :: c :: (n, o) :: B)) : Hold (h.set n o') (a :: b :: c :: (n, o') :: B) := Hold.set (A := [a, b, c]) H
theorem Hold.set4 {a b c d : Nat × O} (H : Hold h (a :: b :: c :: d :: (n, o) :: B)) : Hold (h.set n o') (a :: b :: c :: d :: (n, o') :: B) := Hold.set (A := [a, b, c, d]) H
end HP
namespace R
open PySem
end R
namespace EV
open PySem R
variable {p : Pg} {c : Calls} {sl : List (Option D)} {h h1 h2 h3 h4 : Mm} {a b e : ME} {as : List ME} {x y z d : D} {xs ds : List D} {i : Nat} {o : Bool}
theorem ev_var (q : sl[i]? = some (some d)) : evalE p c (.var i) sl h = .ok d h := by simp only [evalE, q]
theorem ev_lit {k : Cn} : evalE p c (.lit k) sl h = .ok k.d h := by simp only [evalE]
theorem es_nil : evalEs p c [] sl h = .ok [] h := by simp only [evalEs]
theorem es_cons (q : evalE p c a sl h = .ok x h1) (r : evalEs p c as sl h1 = .ok xs h2) : evalEs p c (a :: as) sl h = .ok (x :: xs) h2 := by simp only [evalEs, q, r, Res.bind_ok]
theorem es_1 (q : evalE p c a sl h = .ok x h1) : evalEs p c [a] sl h = .ok [x] h1 := es_cons q es_nil
theorem es_2 (q : evalE p c a sl h = .ok x h1) (r : evalE p c b sl h1 = .ok y h2) : evalEs p c [a, b] sl h = .ok [x, y] h2 := es_cons q (es_1 r)
theorem es_3 (q : evalE p c a sl h = .ok x h1) (r : evalE p c b sl h1 = .ok y h2) (s : evalE p c e sl h2 = .ok z h3) : evalEs p c [a, b, e] sl h = .ok [x, y, z] h3 := es_cons q (es_2 r s)
theorem ev_call {f : Nat} (q : evalEs p c as sl h = .ok xs h1) (r : c f xs h1 = .ok d h2) : evalE p c (.call f as) sl h = .ok d h2 := by simp only [evalE, q, Res.bind_ok, r]
theorem ev_blt {t : Bt} (q : evalEs p c as sl h = .ok xs h1) (r : bltD t o xs h1 = .ok d h2) : evalE p c (.blt t o as) sl h = .ok d h2 := by simp only [evalE, q, Res.bind_ok, r]
theorem ev_b1 {t : Bt} (q : evalE p c a sl h = .ok x h1) (r : bltD t o [x] h1 = .ok d h2) : evalE p c (.blt t o [a]) sl h = .ok d h2 := ev_blt (es_1 q) r
theorem ev_lst (q : evalEs p c as sl h = .ok ds h1) (hl : ds.length ≤ 1000) : evalE p c (.lst false as) sl h = .ok (.lst ds) h1 := by
  simp only [evalE, q, Res.bind_ok, mkL, szOk_of (show ds.length ≤ 16777216 by omega), if_true, Bool.false_eq_true, if_false]
theorem ev_lstO (q : evalEs p c as sl h = .ok ds h1) (hl : ds.length ≤ 1000) : evalE p c (.lst true as) sl h = .ok (.ref h1.length) (h1 ++ [.lst ds]) := by
  simp only [evalE, q, Res.bind_ok, mkL, szOk_of (show ds.length ≤ 16777216 by omega), if_true]
theorem ev_idx (q : evalE p c a sl h = .ok x h1) (r : evalE p c b sl h1 = .ok y h2) (s : idxD h2 x y = some d) : evalE p c (.idx a b) sl h = .ok d h2 := by simp only [evalE, q, r, Res.bind_ok, s]
theorem ev_fld {f : Nat} (q : evalE p c a sl h = .ok x h1) (r : fldD h1 f x = some y) : evalE p c (.fld a f) sl h = .ok y h1 := by simp only [evalE, q, Res.bind_ok, r]
theorem ev_bin {t : Op} (q : evalE p c a sl h = .ok x h1) (r : evalE p c b sl h1 = .ok y h2) (s : binD t o x y h2 = .ok d h3) : evalE p c (.bin t o a b) sl h = .ok d h3 := by simp only [evalE, q, r, Res.bind_ok, s]
theorem ev_addI {i j : Int} (q : evalE p c a sl h = .ok (.int i) h1) (r : evalE p c b sl h1 = .ok (.int j) h2) : evalE p c (.bin .add o a b) sl h = .ok (.int (i + j)) h2 := ev_bin q r (by simp only [binD, addD])
theorem ev_subI {i j : Int} (q : evalE p c a sl h = .ok (.int i) h1) (r : evalE p c b sl h1 = .ok (.int j) h2) : evalE p c (.bin .sub o a b) sl h = .ok (.int (i - j)) h2 := ev_bin q r (by simp only [binD, arD, if_true])
theorem ev_mulI {i j : Int} (q : evalE p c a sl h = .ok (.int i) h1) (r : evalE p c b sl h1 = .ok (.int j) h2) (k : mulOk i j = true) : evalE p c (.bin .mul o a b) sl h = .ok (.int (i * j)) h2 := ev_bin q r (by simp only [binD, mulD, k, if_true])
theorem ev_modI {i j : Int} (q : evalE p c a sl h = .ok (.int i) h1) (r : evalE p c b sl h1 = .ok (.int j) h2) (k : 0 < j) : evalE p c (.bin .mod o a b) sl h = .ok (.int (i % j)) h2 := ev_bin q r (by simp only [binD, arD, decide_eq_true k, if_true])
theorem ev_divI {i j : Int} (q : evalE p c a sl h = .ok (.int i) h1) (r : evalE p c b sl h1 = .ok (.int j) h2) (k : divOk j = true) : evalE p c (.bin .fdiv o a b) sl h = .ok (.int (i / j)) h2 := ev_bin q r (by simp only [binD, arD, k, if_true])
theorem ev_cmp {k : Cm} {r : Bool} (q : evalE p c a sl h = .ok x h1) (r' : evalE p c b sl h1 = .ok y h2) (s : cmpD k h2 x y = some r) : evalE p c (.cmp k a b) sl h = .ok (.bl r) h2 := by simp only [evalE, q, r', Res.bind_ok, s]
theorem ev_bop1 {k : Bool} (q : evalE p c a sl h = .ok x h1) : evalE p c (.bop k [a]) sl h = .ok x h1 := by simp only [evalE, evalB, q]
theorem ev_bopN {k r : Bool} (q : evalE p c a sl h = .ok x h1) (t : truthD h1 x = some r) (n : r = k) (s : evalE p c (.bop k (b :: as)) sl h1 = .ok y h2) : evalE p c (.bop k (a :: b :: as)) sl h = .ok y h2 := by
  rw [evalE] at s ⊢
  rw [evalB]
  · simp only [q, Res.bind_ok, t, n, if_true, s]
  · intro z; cases z
theorem ev_bopS {k r : Bool} (q : evalE p c a sl h = .ok x h1) (t : truthD h1 x = some r) (n : r ≠ k) : evalE p c (.bop k (a :: b :: as)) sl h = .ok x h1 := by
  rw [evalE, evalB]
  · simp only [q, Res.bind_ok, t, if_neg n]
  · intro z; cases z
/-- and, or of two truths: the second looked at where need be -/
theorem ev_and {r s : Bool} (q : evalE p c a sl h = .ok (.bl r) h) (t : evalE p c b sl h = .ok (.bl s) h) : evalE p c (.bop true [a, b]) sl h = .ok (.bl (r && s)) h := by
  cases r with
  | true => exact ev_bopN q rfl rfl (ev_bop1 t)
  | false => rw [Bool.false_and]; exact ev_bopS q rfl (by decide)
theorem ev_meth {C m f : Nat} {cd : CD} (q : evalE p c a sl h = .ok x h1) (kc : clsD h1 x = some C) (hc : p.cls[C]? = some cd) (l : cd.meths.lookup m = some f) (r : evalEs p c as sl h1 = .ok xs h2) (s : c f (x :: xs) h2 = .ok d h3) : evalE p c (.meth a m as) sl h = .ok d h3 := by
  simp only [evalE, q, Res.bind_ok, kc, hc, l, r, s]
theorem ev_bm {m : Bm} (q : evalE p c a sl h = .ok x h1) (t : bmTy m h1 x = true) (r : evalEs p c as sl h1 = .ok xs h2) (s : bmD m o x xs h2 = .ok d h3) : evalE p c (.bm m o a as) sl h = .ok d h3 := by
  simp only [evalE, q, Res.bind_ok, t, if_true, r, s]
theorem ev_make {C : Nat} {cd : CD} (q : evalEs p c as sl h = .ok xs h1) (hc : p.cls[C]? = some cd) (r : c cd.init (.ref h1.length :: xs) (h1 ++ [.ins C []]) = .ok .non h2) : evalE p c (.make C as) sl h = .ok (.ref h1.length) h2 := by
  simp only [evalE, q, Res.bind_ok, hc, r]
theorem cm_lt {i j : Int} {m : Mm} : cmpD .lt m (.int i) (.int j) = some (decide (i < j)) := rfl
end EV
namespace K43
open PySem R
/-- 188: _law_draw (_law_script, _law_k, _law_cell, _law_turn, _law_step) -/
def d__law_draw : FD := ⟨2, 5, [.ite (.not_ (.var 0)) [.ret (.bin .mod false (.bin .mul false (.var 1) (.lit (.int 5))) (.lit (.int 7)))] [], .set 2 (.blt .int_ false [(.idx (.var 0) (.bin .mod false (.var 1) (.blt .len false [(.var 0)])))]), .set 3 (.bin .fdiv false (.var 1) (.blt .len false [(.var 0)])), .ite (.cmp .ge (.var 2) (.lit (.int 1000000000000000000))) [.for_ (.nm 4) (.rng1 (.blt .min2 false [(.var 3), (.lit (.int 60))])) [.set 2 (.bin .fdiv false (.var 2) (.lit (.int 100003)))], .ret (.bin .mod false (.var 2) (.lit (.int 100003)))] [], .ret (.bin .mod false (.bin .mul false (.bin .mod false (.bin .add false (.bin .add false (.bin .mul false (.var 2) (.lit (.int 48271))) (.bin .mul false (.var 1) (.lit (.int 69621)))) (.lit (.int 13))) (.lit (.int 2147483647))) (.lit (.int 16807))) (.lit (.int 2147483629)))], true, []⟩
/-- 189: _law_costs (_law_script, _law_count, _law_sizes, _law_layouts, _law_k, _law_stands, _law_ways, _law_first, _law_number, _law_row, _law_second, _law_layout, _law_size, _law_bit) -/
def d__law_costs : FD := ⟨1, 14, [.set 1 (.bin .add false (.lit (.int 1)) (.bin .mod false (.call 188 [(.var 0), (.lit (.int 0))]) (.lit (.int 5)))), .set 2 (.lc false (.bin .add false (.lit (.int 1)) (.bin .mod false (.call 188 [(.var 0), (.bin .add false (.lit (.int 1)) (.var 4))]) (.lit (.int 30)))) (.nm 4) (.rng1 (.lit (.int 4))) none [4]), .set 3 (.lst true []), .for_ (.nm 4) (.rng1 (.var 1)) [.set 8 (.call 188 [(.var 0), (.bin .add false (.lit (.int 6)) (.var 4))]), .ex (.bm .append false (.var 3) [(.lst false [(.bin .mod false (.var 8) (.lit (.int 2))), (.bin .mod false (.bin .fdiv false (.var 8) (.lit (.int 2))) (.lit (.int 2))), (.bin .mod false (.bin .fdiv false (.var 8) (.lit (.int 4))) (.lit (.int 2))), (.bin .mod false (.bin .fdiv false (.var 8) (.lit (.int 8))) (.lit (.int 2)))])])], .frzv 3, .set 5 (.lc false (.blt .sum_ false [(.lc false (.bin .mul false (.var 12) (.var 13)) (.tp [(.nm 12), (.nm 13)]) (.zip (.var 2) (.var 11)) none [12, 13])]) (.nm 11) (.seq (.var 3)) none [11]), .set 6 (.lst true []), .for_ (.nm 7) (.seq (.var 3)) [.set 9 (.lst true []), .for_ (.nm 10) (.seq (.var 3)) [.ex (.bm .append false (.var 9) [(.blt .sum_ false [(.lc false (.bin .mul false (.idx (.var 2) (.var 4)) (.blt .abs_ false [(.bin .sub false (.idx (.var 7) (.var 4)) (.idx (.var 10) (.var 4)))])) (.nm 4) (.rng1 (.lit (.int 4))) none [4])])])], .frzv 9, .ex (.bm .append false (.var 6) [(.var 9)])], .frzv 6, .ret (.tup [(.bin .mod false (.call 188 [(.var 0), (.lit (.int 12))]) (.var 1)), (.var 5), (.var 6)])], true, []⟩
/-- 190: _law_task (_law_number, _law_count, _law_k) -/
def d__law_task : FD := ⟨2, 3, [.ret (.lc true (.bin .mod false (.bin .fdiv false (.var 0) (.bin .add false (.lit (.int 1)) (.bin .mul false (.bin .mul false (.lit (.int 7)) (.var 2)) (.var 2)))) (.idx (.lst false [(.lit (.int 4)), (.lit (.int 40))]) (.bin .mod false (.var 0) (.lit (.int 2))))) (.nm 2) (.rng1 (.var 1)) none [2])], false, []⟩
/-- 191: _law_going (_law_costs_here, _law_first, _law_second) -/
def d__law_going : FD := ⟨3, 3, [.ret (.bin .fdiv false (.bin .sub false (.bin .add false (.idx (.idx (.idx (.var 0) (.lit (.int 2))) (.var 1)) (.var 2)) (.idx (.idx (.var 0) (.lit (.int 1))) (.var 2))) (.idx (.idx (.var 0) (.lit (.int 1))) (.var 1))) (.lit (.int 2)))], true, []⟩
/-- 192: law (_law_script, _law_costs_here, _law_count, _law_passed, _law_given_stands, _law_given_ways, _law_policy, _law_works, _law_now, _law_spent, _law_tasks, _law_k, _law_task_here, _law_sums, _law_goal, _law_x, _law_given, _law_told, _law_after, _law_s, _law_row) -/
def d_law : FD := ⟨1, 21, [.set 1 (.call 189 [(.var 0)]), .set 2 (.blt .len false [(.idx (.var 1) (.lit (.int 1)))]), .set 3 (.blt .repr_ false [(.var 1)]), .set 4 (.blt .list_ true [(.idx (.var 1) (.lit (.int 1)))]), .set 5 (.lc true (.blt .list_ true [(.var 20)]) (.nm 20) (.seq (.idx (.var 1) (.lit (.int 2)))) none [20]), .set 6 (.make 1 [(.idx (.var 1) (.lit (.int 0))), (.var 4), (.var 5)]), .seti (.var 4) (.lit (.int 0)) (.bin .add false (.idx (.var 4) (.lit (.int 0))) (.lit (.int 2))), .seti (.idx (.var 5) (.lit (.int 0))) (.neg (.lit (.int 1))) (.bin .add false (.idx (.idx (.var 5) (.lit (.int 0))) (.neg (.lit (.int 1)))) (.lit (.int 2))), .set 7 (.blt .list_ false [(.idx (.idx (.var 1) (.lit (.int 2))) (.idx (.var 1) (.lit (.int 0))))]), .set 8 (.idx (.var 1) (.lit (.int 0))), .set 9 (.lit (.int 0)), .set 10 (.lst true []), .for_ (.nm 11) (.rng1 (.blt .min2 false [(.lit (.int 40)), (.blt .len false [(.var 0)])])) [.set 12 (.call 190 [(.call 188 [(.var 0), (.bin .add false (.lit (.int 20)) (.var 11))]), (.var 2)]), .set 13 (.lc false (.bin .add false (.bin .add false (.idx (.var 7) (.var 15)) (.bin .mul false (.lit (.int 2)) (.idx (.var 12) (.var 15)))) (.idx (.idx (.idx (.var 1) (.lit (.int 2))) (.var 15)) (.var 8))) (.nm 15) (.rng1 (.var 2)) none [15]), .set 14 (.var 8), .for_ (.nm 15) (.rng1 (.var 2)) [.ite (.cmp .lt (.idx (.var 13) (.var 15)) (.idx (.var 13) (.var 14))) [.set 14 (.var 15)] []], .set 16 (.blt .list_ true [(.var 12)]), .set 17 (.meth (.var 6) 24 [(.var 16)]), .seti (.var 16) (.lit (.int 0)) (.bin .add false (.idx (.var 16) (.lit (.int 0))) (.lit (.int 3))), .set 9 (.bin .add false (.bin .add false (.var 9) (.call 191 [(.var 1), (.var 8), (.var 14)])) (.idx (.var 12) (.var 14))), .set 8 (.var 14), .set 18 (.lst true []), .for_ (.nm 19) (.rng1 (.var 2)) [.ex (.bm .append false (.var 18) [(.blt .min1 false [(.lc false (.bin .add false (.bin .add false (.idx (.var 7) (.var 15)) (.bin .mul false (.lit (.int 2)) (.idx (.var 12) (.var 15)))) (.idx (.idx (.idx (.var 1) (.lit (.int 2))) (.var 15)) (.var 19))) (.nm 15) (.rng1 (.var 2)) none [15])])])], .frzv 18, .set 7 (.var 18), .ex (.bm .append false (.var 10) [(.blt .list_ false [(.var 12)])]), .seti (.var 12) (.lit (.int 0)) (.bin .add false (.idx (.var 12) (.lit (.int 0))) (.lit (.int 5))), .ite (.bop false [(.cmp .ne (.var 17) (.var 14)), (.cmp .ne (.fld (.var 6) 7) (.var 14)), (.cmp .ne (.fld (.var 6) 8) (.var 9)), (.cmp .ne (.idx (.fld (.var 6) 10) (.neg (.lit (.int 1)))) (.var 7))]) [.ret (.lit (.bl false))] []], .ite (.bop false [(.cmp .ne (.lk (.fld (.var 6) 9) (.lc false (.blt .list_ false [(.var 12)]) (.nm 12) (.seq (.fld (.var 6) 9)) none [12])) (.var 10)), (.cmp .ne (.blt .len false [(.fld (.var 6) 10)]) (.bin .add false (.blt .len false [(.var 10)]) (.lit (.int 1))))]) [.ret (.lit (.bl false))] [], .ret (.bop true [(.cmp .eq (.blt .repr_ false [(.var 1)]) (.var 3)), (.cmp .eq (.idx (.fld (.var 6) 10) (.lit (.int 0))) (.idx (.idx (.var 1) (.lit (.int 2))) (.idx (.var 1) (.lit (.int 0)))))])], true, []⟩
def pg : Pg := ⟨PT.fns ++ [d__law_draw, d__law_costs, d__law_task, d__law_going, d_law], [⟨9999, [], []⟩, ⟨82, [(23, 83), (24, 84)], []⟩], PT.cns.take 0⟩
end K43
namespace K43
open PySem R DR
theorem f188 : pg.fns[188]? = some dDraw := rfl
theorem mulOk_sz {i j : Int} (h : i.natAbs ≤ 18446744073709551615) : mulOk i j = true := mulOk_l h
def bitZ (z : Int) (j : Nat) : Int := if j = 0 then z % 2 else if j = 1 then z / 2 % 2 else if j = 2 then z / 4 % 2 else z / 8 % 2
theorem bit_01 (z : Int) (j : Nat) : bitZ z j = 0 ∨ bitZ z j = 1 := by
  unfold bitZ
  split
  · omega
  · split
    · omega
    · split <;> omega
def szZ (ns : List Int) (k : Nat) : Int := 1 + drawZ ns (1 + k) % 30
def bt (ns : List Int) (i k : Nat) : Int := bitZ (drawZ ns (6 + i)) k
def cnt (ns : List Int) : Nat := (1 + drawZ ns 0 % 5).toNat
def stZ (ns : List Int) (i : Nat) : Int := szZ ns 0 * bt ns i 0 + (szZ ns 1 * bt ns i 1 + (szZ ns 2 * bt ns i 2 + (szZ ns 3 * bt ns i 3 + 0)))
def absI (x : Int) : Int := if x < 0 then -x else x
def wyZ (ns : List Int) (i j : Nat) : Int := szZ ns 0 * absI (bt ns i 0 - bt ns j 0) + (szZ ns 1 * absI (bt ns i 1 - bt ns j 1) + (szZ ns 2 * absI (bt ns i 2 - bt ns j 2) + (szZ ns 3 * absI (bt ns i 3 - bt ns j 3) + 0)))
def laying (ns : List Int) (i : Nat) : D := .lst [.int (bt ns i 0), .int (bt ns i 1), .int (bt ns i 2), .int (bt ns i 3)]
theorem cnt_eq (ns : List Int) : ((cnt ns : Nat) : Int) = 1 + drawZ ns 0 % 5 := by
  unfold cnt
  have := Int.emod_nonneg (drawZ ns 0) (by decide : (5 : Int) ≠ 0)
  omega
theorem cnt_pos (ns : List Int) : 0 < cnt ns := by
  have := cnt_eq ns
  have := Int.emod_nonneg (drawZ ns 0) (by decide : (5 : Int) ≠ 0)
  omega
theorem cnt_le (ns : List Int) : cnt ns ≤ 5 := by
  have := cnt_eq ns
  have := Int.emod_lt_of_pos (drawZ ns 0) (by decide : (0 : Int) < 5)
  omega
def stt (ns : List Int) : Nat := (drawZ ns 12 % (cnt ns : Int)).toNat
theorem stt_eq (ns : List Int) : ((stt ns : Nat) : Int) = drawZ ns 12 % (cnt ns : Int) := by
  unfold stt
  have := cnt_pos ns
  have := Int.emod_nonneg (drawZ ns 12) (show (cnt ns : Int) ≠ 0 by omega)
  omega
theorem stt_lt (ns : List Int) : stt ns < cnt ns := by
  have := stt_eq ns
  have := cnt_pos ns
  have := Int.emod_lt_of_pos (drawZ ns 12) (show (0 : Int) < (cnt ns : Int) by omega)
  omega
theorem sz_small (ns : List Int) (k : Nat) : (szZ ns k).natAbs ≤ 18446744073709551615 := by
  unfold szZ
  have := Int.emod_nonneg (drawZ ns (1 + k)) (by decide : (30 : Int) ≠ 0)
  have := Int.emod_lt_of_pos (drawZ ns (1 + k)) (by decide : (0 : Int) < 30)
  omega
def costD (ns : List Int) : D := .tup [.int (stt ns), vec (cnt ns) (stZ ns), tab (cnt ns) fun i => vec (cnt ns) (wyZ ns i)]
theorem sum4 {m : Mm} {o : Bool} {f : Nat → Int} : bltD .sum_ o [vec 4 f] m = .ok (.int (f 0 + (f 1 + (f 2 + (f 3 + 0))))) m := rfl
theorem lay_tab (ns : List Int) (i : Nat) : laying ns i = vec 4 (bt ns i) := rfl
theorem nr_cost (ns : List Int) : nr (costD ns) = true := by
  unfold costD
  simp only [nr, nrs, nr_vec, nr_mat, Bool.and_self]
theorem costs_ok {ns : List Int} (hl : ns.length ≤ 63) (n : Nat) (h : Mm) : callN pg (n + 2) 189 [.scr (ns.map .int)] h = .ok (costD ns) h := by
  refine call_run (fd := d__law_costs) rfl rfl rfl (by simp only [nrs, nr, nrs_ints, Bool.and_self]) ?_
  have hc := cnt_pos ns
  have h5 := cnt_le ns
  have d0 : ∀ h, callN pg (n + 1) 188 [.scr (ns.map .int), .int 0] h = .ok (.int (drawZ ns 0)) h := fun h => draw_ok f188 hl 0 n h
  have d12 : ∀ h, callN pg (n + 1) 188 [.scr (ns.map .int), .int 12] h = .ok (.int (drawZ ns 12)) h := fun h => draw_ok f188 hl 12 n h
  have d1 : ∀ (k : Nat) h, callN pg (n + 1) 188 [.scr (ns.map .int), .int (1 + (k : Int))] h = .ok (.int (drawZ ns (1 + k))) h := fun k h => by
    have := draw_ok f188 hl (1 + k) n h
    rwa [Int.natCast_add] at this
  have d6 : ∀ (k : Nat) h, callN pg (n + 1) 188 [.scr (ns.map .int), .int (6 + (k : Int))] h = .ok (.int (drawZ ns (6 + k))) h := fun k h => by
    have := draw_ok f188 hl (6 + k) n h
    rwa [Int.natCast_add] at this
  have q0 : decide ((0:Int) < 5) = true := rfl
  have q1 : decide ((0:Int) < 30) = true := rfl
  have q2 : decide ((0:Int) < 2) = true := rfl
  have p2 : divOk 2 = true := rfl
  have p4 : divOk 4 = true := rfl
  have p8 : divOk 8 = true := rfl
  have z4 : szOk 4 = true := rfl
  have z0 : szOk 0 = true := rfl
  have qc : decide ((0:Int) < (cnt ns : Int)) = true := decide_eq_true (by omega)
  have F0 : ∀ k, nr (laying ns k) = true := fun k => by rw [lay_tab]; exact nr_vec
  have r4 : ∀ (c : Calls) sl h, evalI pg c (.rng1 (.lit (.int 4))) sl h = .ok ((List.range 4).map fun (k : Nat) => .int (k : Int)) h := fun c sl h => it_rng (n := 4) (by simp only [evalE, Cn.d]; rfl) (by decide)
  show Wp pg (callN pg (n + 1)) _ ⟨[some (.scr (ns.map .int)), none, none, none, none, none, none, none, none, none, none, none, none, none], []⟩ _
  refine wp_set (d := .int (cnt ns)) (h1 := []) (by simp only [execSs, execS, evalE, evalEs, evalB, evalO, evalI, up_ok, Res.bind_ok, List.getElem?_cons_zero, List.getElem?_cons_succ, List.set_cons_zero, List.set_cons_succ, List.map_cons, List.map_nil, List.cons_append, List.nil_append, Nat.add_one_sub_one, Cn.d, if_true, wipe, bindT, bindTs, binD, arD, mkT, Bool.false_eq_true, if_false, Nat.reduceSub, Option.bind_some, szNil, szOne, szTwo, szThree, szFour, szFive, List.length_nil, List.length_cons, addD, mulD, mkL, List.replicate_succ, List.replicate_zero, List.replicate, d0, q0, ← cnt_eq]) ?_
  refine wp_set (d := vec 4 (szZ ns)) (h1 := []) (lc_tab (r4 _ _ _) (by decide) fun k hk => ⟨_, rfl, by simp only [execSs, execS, evalE, evalEs, evalB, evalO, evalI, up_ok, Res.bind_ok, List.getElem?_cons_zero, List.getElem?_cons_succ, List.set_cons_zero, List.set_cons_succ, List.map_cons, List.map_nil, List.cons_append, List.nil_append, Nat.add_one_sub_one, Cn.d, if_true, wipe, bindT, bindTs, binD, arD, mkT, Bool.false_eq_true, if_false, Nat.reduceSub, Option.bind_some, szNil, szOne, szTwo, szThree, szFour, szFive, List.length_nil, List.length_cons, addD, mulD, mkL, List.replicate_succ, List.replicate_zero, List.replicate, d1, q1, szZ]⟩) ?_
  refine wp_set (d := .ref 0) (h1 := [.lst []]) (by simp only [execSs, execS, evalE, evalEs, evalB, evalO, evalI, up_ok, Res.bind_ok, List.getElem?_cons_zero, List.getElem?_cons_succ, List.set_cons_zero, List.set_cons_succ, List.map_cons, List.map_nil, List.cons_append, List.nil_append, Nat.add_one_sub_one, Cn.d, if_true, wipe, bindT, bindTs, binD, arD, mkT, Bool.false_eq_true, if_false, Nat.reduceSub, Option.bind_some, szNil, szOne, szTwo, szThree, szFour, szFive, List.length_nil, List.length_cons, addD, mulD, mkL, List.replicate_succ, List.replicate_zero, List.replicate, z0, List.length_nil]) ?_
  simp only [execSs, execS, evalE, evalEs, evalB, evalO, evalI, up_ok, Res.bind_ok, List.getElem?_cons_zero, List.getElem?_cons_succ, List.set_cons_zero, List.set_cons_succ, List.map_cons, List.map_nil, List.cons_append, List.nil_append, Nat.add_one_sub_one, Cn.d, if_true, wipe, bindT, bindTs, binD, arD, mkT, Bool.false_eq_true, if_false, Nat.reduceSub, Option.bind_some, szNil, szOne, szTwo, szThree, szFour, szFive, List.length_nil, List.length_cons, addD, mulD, mkL, List.replicate_succ, List.replicate_zero, List.replicate]
  refine wp_for (n := cnt ns) (F := fun k => .int (k : Int)) (h1 := [.lst []]) (fun j s => ∃ x4 x8, s = ⟨[some (.scr (ns.map .int)), some (.int (cnt ns : Int)), some (vec 4 (szZ ns)), some (.ref 0), x4, none, none, none, x8, none, none, none, none, none], [.lst ((List.range j).map (laying ns))]⟩)
    (it_rng (by simp only [execSs, execS, evalE, evalEs, evalB, evalO, evalI, up_ok, Res.bind_ok, List.getElem?_cons_zero, List.getElem?_cons_succ, List.set_cons_zero, List.set_cons_succ, List.map_cons, List.map_nil, List.cons_append, List.nil_append, Nat.add_one_sub_one, Cn.d, if_true, wipe, bindT, bindTs, binD, arD, mkT, Bool.false_eq_true, if_false, Nat.reduceSub, Option.bind_some, szNil, szOne, szTwo, szThree, szFour, szFive, List.length_nil, List.length_cons, addD, mulD, mkL, List.replicate_succ, List.replicate_zero, List.replicate] <;> rfl) (by omega)) ⟨none, none, rfl⟩ ?_ ?_
  · rintro j s hj ⟨x4, x8, rfl⟩
    refine ⟨_, rfl, ?_⟩
    refine wp_set (d := .int (drawZ ns (6 + j))) (h1 := [.lst ((List.range j).map (laying ns))]) (by simp only [execSs, execS, evalE, evalEs, evalB, evalO, evalI, up_ok, Res.bind_ok, List.getElem?_cons_zero, List.getElem?_cons_succ, List.set_cons_zero, List.set_cons_succ, List.map_cons, List.map_nil, List.cons_append, List.nil_append, Nat.add_one_sub_one, Cn.d, if_true, wipe, bindT, bindTs, binD, arD, mkT, Bool.false_eq_true, if_false, Nat.reduceSub, Option.bind_some, szNil, szOne, szTwo, szThree, szFour, szFive, List.length_nil, List.length_cons, addD, mulD, mkL, List.replicate_succ, List.replicate_zero, List.replicate, d6]) ?_
    refine wp_ex (ev_app (n := 0) (m := j) (F := laying ns) (h1 := [.lst ((List.range j).map (laying ns))]) (h2 := [.lst ((List.range j).map (laying ns))]) (by simp only [execSs, execS, evalE, evalEs, evalB, evalO, evalI, up_ok, Res.bind_ok, List.getElem?_cons_zero, List.getElem?_cons_succ, List.set_cons_zero, List.set_cons_succ, List.map_cons, List.map_nil, List.cons_append, List.nil_append, Nat.add_one_sub_one, Cn.d, if_true, wipe, bindT, bindTs, binD, arD, mkT, Bool.false_eq_true, if_false, Nat.reduceSub, Option.bind_some, szNil, szOne, szTwo, szThree, szFour, szFive, List.length_nil, List.length_cons, addD, mulD, mkL, List.replicate_succ, List.replicate_zero, List.replicate] <;> rfl) rfl (by simp only [execSs, execS, evalE, evalEs, evalB, evalO, evalI, up_ok, Res.bind_ok, List.getElem?_cons_zero, List.getElem?_cons_succ, List.set_cons_zero, List.set_cons_succ, List.map_cons, List.map_nil, List.cons_append, List.nil_append, Nat.add_one_sub_one, Cn.d, if_true, wipe, bindT, bindTs, binD, arD, mkT, Bool.false_eq_true, if_false, Nat.reduceSub, Option.bind_some, szNil, szOne, szTwo, szThree, szFour, szFive, List.length_nil, List.length_cons, addD, mulD, mkL, List.replicate_succ, List.replicate_zero, List.replicate, q2, p2, p4, p8, List.length_cons, List.length_nil, show szOk (0 + 1 + 1 + 1 + 1) = true from rfl]; rfl) rfl (by omega)) ?_
    exact wp_nil ⟨.inl rfl, _, _, rfl⟩
  rintro s ⟨x4, x8, rfl⟩
  refine wp_frzv rfl (frz_ref rfl (nrs_map fun k _ => F0 k)) ?_
  simp only [execSs, execS, evalE, evalEs, evalB, evalO, evalI, up_ok, Res.bind_ok, List.getElem?_cons_zero, List.getElem?_cons_succ, List.set_cons_zero, List.set_cons_succ, List.map_cons, List.map_nil, List.cons_append, List.nil_append, Nat.add_one_sub_one, Cn.d, if_true, wipe, bindT, bindTs, binD, arD, mkT, Bool.false_eq_true, if_false, Nat.reduceSub, Option.bind_some, szNil, szOne, szTwo, szThree, szFour, szFive, List.length_nil, List.length_cons, addD, mulD, mkL, List.replicate_succ, List.replicate_zero, List.replicate]
  have eS : ∀ (m : Mm) (i : Nat) (a0 a1 a3 a4 a5 a6 a7 a8 a9 a10 : Option D) (c : Calls), evalE pg c (.blt .sum_ false [(.lc false (.bin .mul false (.var 12) (.var 13)) (.tp [(.nm 12), (.nm 13)]) (.zip (.var 2) (.var 11)) none [12, 13])]) [a0, a1, some (vec 4 (szZ ns)), a3, a4, a5, a6, a7, a8, a9, a10, some (laying ns i), none, none] m = .ok (.int (stZ ns i)) m := by
    intro m i a0 a1 a3 a4 a5 a6 a7 a8 a9 a10 c
    refine PL.ev_blt1 (d := vec 4 fun k => szZ ns k * bt ns i k) (lc_tab (n := 4) (it_zip (F := fun k => .int (szZ ns k)) (G := fun k => .int (bt ns i k)) (by simp only [execSs, execS, evalE, evalEs, evalB, evalO, evalI, up_ok, Res.bind_ok, List.getElem?_cons_zero, List.getElem?_cons_succ, List.set_cons_zero, List.set_cons_succ, List.map_cons, List.map_nil, List.cons_append, List.nil_append, Nat.add_one_sub_one, Cn.d, if_true, wipe, bindT, bindTs, binD, arD, mkT, Bool.false_eq_true, if_false, Nat.reduceSub, Option.bind_some, szNil, szOne, szTwo, szThree, szFour, szFive, List.length_nil, List.length_cons, addD, mulD, mkL, List.replicate_succ, List.replicate_zero, List.replicate] <;> rfl) (by simp only [execSs, execS, evalE, evalEs, evalB, evalO, evalI, up_ok, Res.bind_ok, List.getElem?_cons_zero, List.getElem?_cons_succ, List.set_cons_zero, List.set_cons_succ, List.map_cons, List.map_nil, List.cons_append, List.nil_append, Nat.add_one_sub_one, Cn.d, if_true, wipe, bindT, bindTs, binD, arD, mkT, Bool.false_eq_true, if_false, Nat.reduceSub, Option.bind_some, szNil, szOne, szTwo, szThree, szFour, szFive, List.length_nil, List.length_cons, addD, mulD, mkL, List.replicate_succ, List.replicate_zero, List.replicate, lay_tab] <;> rfl)) (by decide) fun k hk => ⟨_, rfl, by
      simp only [execSs, execS, evalE, evalEs, evalB, evalO, evalI, up_ok, Res.bind_ok, List.getElem?_cons_zero, List.getElem?_cons_succ, List.set_cons_zero, List.set_cons_succ, List.map_cons, List.map_nil, List.cons_append, List.nil_append, Nat.add_one_sub_one, Cn.d, if_true, wipe, bindT, bindTs, binD, arD, mkT, Bool.false_eq_true, if_false, Nat.reduceSub, Option.bind_some, szNil, szOne, szTwo, szThree, szFour, szFive, List.length_nil, List.length_cons, addD, mulD, mkL, List.replicate_succ, List.replicate_zero, List.replicate, fun k j => mulOk_sz (j := j) (sz_small ns k)]⟩) sum4
  refine wp_set (d := vec (cnt ns) (stZ ns)) (h1 := [.dead]) (lc_tab (F := laying ns) (n := cnt ns) (h1 := [.dead]) (it_tab (by simp only [execSs, execS, evalE, evalEs, evalB, evalO, evalI, up_ok, Res.bind_ok, List.getElem?_cons_zero, List.getElem?_cons_succ, List.set_cons_zero, List.set_cons_succ, List.map_cons, List.map_nil, List.cons_append, List.nil_append, Nat.add_one_sub_one, Cn.d, if_true, wipe, bindT, bindTs, binD, arD, mkT, Bool.false_eq_true, if_false, Nat.reduceSub, Option.bind_some, szNil, szOne, szTwo, szThree, szFour, szFive, List.length_nil, List.length_cons, addD, mulD, mkL, List.replicate_succ, List.replicate_zero, List.replicate] <;> rfl)) (by omega) fun i hi => ⟨_, rfl, eS _ i _ _ _ _ _ _ _ _ _ _ _⟩) ?_
  refine wp_set (d := .ref 1) (h1 := [.dead, .lst []]) (by simp only [execSs, execS, evalE, evalEs, evalB, evalO, evalI, up_ok, Res.bind_ok, List.getElem?_cons_zero, List.getElem?_cons_succ, List.set_cons_zero, List.set_cons_succ, List.map_cons, List.map_nil, List.cons_append, List.nil_append, Nat.add_one_sub_one, Cn.d, if_true, wipe, bindT, bindTs, binD, arD, mkT, Bool.false_eq_true, if_false, Nat.reduceSub, Option.bind_some, szNil, szOne, szTwo, szThree, szFour, szFive, List.length_nil, List.length_cons, addD, mulD, mkL, List.replicate_succ, List.replicate_zero, List.replicate, z0, List.length_nil, List.length_cons]) ?_
  simp only [execSs, execS, evalE, evalEs, evalB, evalO, evalI, up_ok, Res.bind_ok, List.getElem?_cons_zero, List.getElem?_cons_succ, List.set_cons_zero, List.set_cons_succ, List.map_cons, List.map_nil, List.cons_append, List.nil_append, Nat.add_one_sub_one, Cn.d, if_true, wipe, bindT, bindTs, binD, arD, mkT, Bool.false_eq_true, if_false, Nat.reduceSub, Option.bind_some, szNil, szOne, szTwo, szThree, szFour, szFive, List.length_nil, List.length_cons, addD, mulD, mkL, List.replicate_succ, List.replicate_zero, List.replicate]
  refine wp_for (n := cnt ns) (F := laying ns) (h1 := [.dead, .lst []]) (fun j s => ∃ x4 x7 x9 x10 tl, s = ⟨[some (.scr (ns.map .int)), some (.int (cnt ns : Int)), some (vec 4 (szZ ns)), some (tab (cnt ns) (laying ns)), x4, some (vec (cnt ns) (stZ ns)), some (.ref 1), x7, x8, x9, x10, none, none, none], .dead :: .lst ((List.range j).map fun i => vec (cnt ns) (wyZ ns i)) :: tl⟩)
    (it_tab (by simp only [execSs, execS, evalE, evalEs, evalB, evalO, evalI, up_ok, Res.bind_ok, List.getElem?_cons_zero, List.getElem?_cons_succ, List.set_cons_zero, List.set_cons_succ, List.map_cons, List.map_nil, List.cons_append, List.nil_append, Nat.add_one_sub_one, Cn.d, if_true, wipe, bindT, bindTs, binD, arD, mkT, Bool.false_eq_true, if_false, Nat.reduceSub, Option.bind_some, szNil, szOne, szTwo, szThree, szFour, szFive, List.length_nil, List.length_cons, addD, mulD, mkL, List.replicate_succ, List.replicate_zero, List.replicate] <;> rfl)) ⟨x4, none, none, none, [], rfl⟩ ?_ ?_
  · rintro i s hi ⟨x4, x7, x9, x10, tl, rfl⟩
    refine ⟨_, rfl, ?_⟩
    refine wp_set (d := .ref (tl.length + 1 + 1)) (h1 := .dead :: .lst ((List.range i).map fun i => vec (cnt ns) (wyZ ns i)) :: (tl ++ [.lst []])) (by simp only [execSs, execS, evalE, evalEs, evalB, evalO, evalI, up_ok, Res.bind_ok, List.getElem?_cons_zero, List.getElem?_cons_succ, List.set_cons_zero, List.set_cons_succ, List.map_cons, List.map_nil, List.cons_append, List.nil_append, Nat.add_one_sub_one, Cn.d, if_true, wipe, bindT, bindTs, binD, arD, mkT, Bool.false_eq_true, if_false, Nat.reduceSub, Option.bind_some, szNil, szOne, szTwo, szThree, szFour, szFive, List.length_nil, List.length_cons, addD, mulD, mkL, List.replicate_succ, List.replicate_zero, List.replicate, z0, List.length_nil, List.length_cons]) ?_
    simp only [execSs, execS, evalE, evalEs, evalB, evalO, evalI, up_ok, Res.bind_ok, List.getElem?_cons_zero, List.getElem?_cons_succ, List.set_cons_zero, List.set_cons_succ, List.map_cons, List.map_nil, List.cons_append, List.nil_append, Nat.add_one_sub_one, Cn.d, if_true, wipe, bindT, bindTs, binD, arD, mkT, Bool.false_eq_true, if_false, Nat.reduceSub, Option.bind_some, szNil, szOne, szTwo, szThree, szFour, szFive, List.length_nil, List.length_cons, addD, mulD, mkL, List.replicate_succ, List.replicate_zero, List.replicate]
    refine wp_for (n := cnt ns) (F := laying ns) (h1 := .dead :: .lst ((List.range i).map fun i => vec (cnt ns) (wyZ ns i)) :: (tl ++ [.lst []])) (fun j s => ∃ x10, s = ⟨[some (.scr (ns.map .int)), some (.int (cnt ns : Int)), some (vec 4 (szZ ns)), some (tab (cnt ns) (laying ns)), x4, some (vec (cnt ns) (stZ ns)), some (.ref 1), some (laying ns i), x8, some (.ref (tl.length + 1 + 1)), x10, none, none, none], .dead :: .lst ((List.range i).map fun i => vec (cnt ns) (wyZ ns i)) :: (tl ++ [.lst ((List.range j).map fun k => .int (wyZ ns i k))])⟩)
      (it_tab (by simp only [execSs, execS, evalE, evalEs, evalB, evalO, evalI, up_ok, Res.bind_ok, List.getElem?_cons_zero, List.getElem?_cons_succ, List.set_cons_zero, List.set_cons_succ, List.map_cons, List.map_nil, List.cons_append, List.nil_append, Nat.add_one_sub_one, Cn.d, if_true, wipe, bindT, bindTs, binD, arD, mkT, Bool.false_eq_true, if_false, Nat.reduceSub, Option.bind_some, szNil, szOne, szTwo, szThree, szFour, szFive, List.length_nil, List.length_cons, addD, mulD, mkL, List.replicate_succ, List.replicate_zero, List.replicate] <;> rfl)) ⟨x10, rfl⟩ ?_ ?_
    · rintro j s hj ⟨x10, rfl⟩
      refine ⟨_, rfl, ?_⟩
      have g0 : ∀ m, (O.dead :: O.lst ((List.range i).map fun i => vec (cnt ns) (wyZ ns i)) :: (tl ++ [m]))[tl.length + 1 + 1]? = some m := fun m => by simp only [List.getElem?_cons_succ, get_last]
      refine wp_ex (ev_app (n := tl.length + 1 + 1) (m := j) (F := fun k => .int (wyZ ns i k)) (by simp only [execSs, execS, evalE, evalEs, evalB, evalO, evalI, up_ok, Res.bind_ok, List.getElem?_cons_zero, List.getElem?_cons_succ, List.set_cons_zero, List.set_cons_succ, List.map_cons, List.map_nil, List.cons_append, List.nil_append, Nat.add_one_sub_one, Cn.d, if_true, wipe, bindT, bindTs, binD, arD, mkT, Bool.false_eq_true, if_false, Nat.reduceSub, Option.bind_some, szNil, szOne, szTwo, szThree, szFour, szFive, List.length_nil, List.length_cons, addD, mulD, mkL, List.replicate_succ, List.replicate_zero, List.replicate] <;> rfl) (g0 _) (PL.ev_blt1 (d := vec 4 fun k => szZ ns k * absI (bt ns i k - bt ns j k)) (lc_tab (r4 _ _ _) (by decide) fun k hk => ⟨_, rfl, by
        simp only [execSs, execS, evalE, evalEs, evalB, evalO, evalI, up_ok, Res.bind_ok, List.getElem?_cons_zero, List.getElem?_cons_succ, List.set_cons_zero, List.set_cons_succ, List.map_cons, List.map_nil, List.cons_append, List.nil_append, Nat.add_one_sub_one, Cn.d, if_true, wipe, bindT, bindTs, binD, arD, mkT, Bool.false_eq_true, if_false, Nat.reduceSub, Option.bind_some, szNil, szOne, szTwo, szThree, szFour, szFive, List.length_nil, List.length_cons, addD, mulD, mkL, List.replicate_succ, List.replicate_zero, List.replicate, lay_tab, idx_tab hk, bltD, absI, fun k j => mulOk_sz (j := j) (sz_small ns k)]⟩) sum4) (g0 _) (by omega)) ?_
      simp only [List.set_cons_succ, set_last]
      exact wp_nil ⟨.inl rfl, _, rfl⟩
    rintro s ⟨x10, rfl⟩
    refine wp_frzv rfl (frz_ref (xs := (List.range (cnt ns)).map fun k => .int (wyZ ns i k)) (by simp only [List.getElem?_cons_succ, get_last]) (nrs_map fun k _ => by simp only [nr])) ?_
    simp only [execSs, execS, evalE, evalEs, evalB, evalO, evalI, up_ok, Res.bind_ok, List.getElem?_cons_zero, List.getElem?_cons_succ, List.set_cons_zero, List.set_cons_succ, List.map_cons, List.map_nil, List.cons_append, List.nil_append, Nat.add_one_sub_one, Cn.d, if_true, wipe, bindT, bindTs, binD, arD, mkT, Bool.false_eq_true, if_false, Nat.reduceSub, Option.bind_some, szNil, szOne, szTwo, szThree, szFour, szFive, List.length_nil, List.length_cons, addD, mulD, mkL, List.replicate_succ, List.replicate_zero, List.replicate, set_last]
    refine wp_ex (ev_app (n := 1) (m := i) (F := fun i => vec (cnt ns) (wyZ ns i)) (by simp only [execSs, execS, evalE, evalEs, evalB, evalO, evalI, up_ok, Res.bind_ok, List.getElem?_cons_zero, List.getElem?_cons_succ, List.set_cons_zero, List.set_cons_succ, List.map_cons, List.map_nil, List.cons_append, List.nil_append, Nat.add_one_sub_one, Cn.d, if_true, wipe, bindT, bindTs, binD, arD, mkT, Bool.false_eq_true, if_false, Nat.reduceSub, Option.bind_some, szNil, szOne, szTwo, szThree, szFour, szFive, List.length_nil, List.length_cons, addD, mulD, mkL, List.replicate_succ, List.replicate_zero, List.replicate] <;> rfl) rfl (by simp only [execSs, execS, evalE, evalEs, evalB, evalO, evalI, up_ok, Res.bind_ok, List.getElem?_cons_zero, List.getElem?_cons_succ, List.set_cons_zero, List.set_cons_succ, List.map_cons, List.map_nil, List.cons_append, List.nil_append, Nat.add_one_sub_one, Cn.d, if_true, wipe, bindT, bindTs, binD, arD, mkT, Bool.false_eq_true, if_false, Nat.reduceSub, Option.bind_some, szNil, szOne, szTwo, szThree, szFour, szFive, List.length_nil, List.length_cons, addD, mulD, mkL, List.replicate_succ, List.replicate_zero, List.replicate] <;> rfl) rfl (by omega)) ?_
    exact wp_nil ⟨.inl rfl, _, _, _, _, _, rfl⟩
  rintro s ⟨x4, x7, x9, x10, tl, rfl⟩
  refine wp_frzv rfl (frz_ref (xs := (List.range (cnt ns)).map fun i => vec (cnt ns) (wyZ ns i)) rfl (nrs_map fun k _ => nr_vec)) ?_
  simp only [execSs, execS, evalE, evalEs, evalB, evalO, evalI, up_ok, Res.bind_ok, List.getElem?_cons_zero, List.getElem?_cons_succ, List.set_cons_zero, List.set_cons_succ, List.map_cons, List.map_nil, List.cons_append, List.nil_append, Nat.add_one_sub_one, Cn.d, if_true, wipe, bindT, bindTs, binD, arD, mkT, Bool.false_eq_true, if_false, Nat.reduceSub, Option.bind_some, szNil, szOne, szTwo, szThree, szFour, szFive, List.length_nil, List.length_cons, addD, mulD, mkL, List.replicate_succ, List.replicate_zero, List.replicate]
  refine wp_ret (by simp only [execSs, execS, evalE, evalEs, evalB, evalO, evalI, up_ok, Res.bind_ok, List.getElem?_cons_zero, List.getElem?_cons_succ, List.set_cons_zero, List.set_cons_succ, List.map_cons, List.map_nil, List.cons_append, List.nil_append, Nat.add_one_sub_one, Cn.d, if_true, wipe, bindT, bindTs, binD, arD, mkT, Bool.false_eq_true, if_false, Nat.reduceSub, Option.bind_some, szNil, szOne, szTwo, szThree, szFour, szFive, List.length_nil, List.length_cons, addD, mulD, mkL, List.replicate_succ, List.replicate_zero, List.replicate, d12, qc, ← stt_eq, List.length_cons, List.length_nil, show szOk (0 + 1 + 1 + 1) = true from rfl] <;> rfl) ⟨_, rfl, rsv9 (nr_cost ns)⟩
def tkZ (z : Int) (k : Nat) : Int := z / (1 + 7 * (k : Int) * (k : Int)) % (if z % 2 = 0 then 4 else 40)
end K43
namespace K43
open PySem R PT DR PL HP EV
theorem P : PolP pg := ⟨rfl, rfl, rfl, rfl, rfl, rfl, rfl⟩
def pO (q : Cst) (now spent : Int) (tk wk : Nat) : O := .ins 1 [(4, .int q.st), (5, vec q.c q.S), (6, tab q.c fun i => vec q.c (q.W i)), (7, .int now), (8, .int spent), (9, .ref tk), (10, .ref wk)]
noncomputable def Wf (q : Cst) (Tf : Nat → Nat → Int) : Nat → Nat → Int
  | 0 => q.W q.st
  | i + 1 => nw q.c q.W (Wf q Tf i) (Tf i)
abbrev Tsk (q : Cst) (Tf : Nat → Nat → Int) (k : Nat) : List D := (List.range k).map fun i => vec q.c (Tf i)
noncomputable abbrev Wsk (q : Cst) (Tf : Nat → Nat → Int) (k : Nat) : List D := (List.range (k + 1)).map fun i => vec q.c (Wf q Tf i)
theorem nrs_vecs {c k : Nat} {f : Nat → Nat → Int} : nrs ((List.range k).map fun i => vec c (f i)) = true := nrs_map fun _ _ => nr_vec
section
variable {q : Cst} {now spent : Int} {tk wk d : Nat} {m : Mm} (e : m[d]? = some (pO q now spent tk wk))
include e
theorem f6 : fldD m 6 (.ref d) = some (tab q.c fun i => vec q.c (q.W i)) := by simp only [fldD, e, pO]; rfl
theorem f7 : fldD m 7 (.ref d) = some (.int now) := by simp only [fldD, e, pO]; rfl
theorem f8 : fldD m 8 (.ref d) = some (.int spent) := by simp only [fldD, e, pO]; rfl
theorem f9 : fldD m 9 (.ref d) = some (.ref tk) := by simp only [fldD, e, pO]; rfl
theorem f10 : fldD m 10 (.ref d) = some (.ref wk) := by simp only [fldD, e, pO]; rfl
theorem cl1 : clsD m (.ref d) = some 1 := by simp only [clsD, e, pO]
theorem s7 (z : Int) : setFD (.ref d) 7 (.int z) m = some (m.set d (pO q z spent tk wk)) := by simp only [setFD, e, pO]; rfl
theorem s8 (z : Int) : setFD (.ref d) 8 (.int z) m = some (m.set d (pO q now z tk wk)) := by simp only [setFD, e, pO]; rfl
end
def pV (q : Cst) (now spent : Int) (Ts Ws : List D) : D := .ins 1 [(4, .int q.st), (5, vec q.c q.S), (6, tab q.c fun i => vec q.c (q.W i)), (7, .int now), (8, .int spent), (9, .lst Ts), (10, .lst Ws)]
theorem rsv_p {q : Cst} {now spent : Int} {tk wk d : Nat} {m : Mm} {Ts Ws : List D} (e : m[d]? = some (pO q now spent tk wk)) (e1 : m[tk]? = some (.lst Ts)) (e2 : m[wk]? = some (.lst Ws)) (h1 : nrs Ts = true) (h2 : nrs Ws = true) : rsv m 9 (.ref d) = some (pV q now spent Ts Ws) := by
  unfold rsv
  simp only [nr, Bool.false_eq_true, if_false, e, pO, List.mapM_cons, List.mapM_nil, rsv_ref e1 h1, rsv_ref e2 h2, rsv_nr (h := m) (k := 7) (show nr (D.int (q.st : Int)) = true from rfl), rsv_nr (h := m) (k := 7) (show nr (D.int now) = true from rfl), rsv_nr (h := m) (k := 7) (show nr (D.int spent) = true from rfl), rsv_nr (h := m) (k := 7) (show nr (vec q.c q.S) = true from nr_vec), rsv_nr (h := m) (k := 7) (show nr (tab q.c fun i => vec q.c (q.W i)) = true from nr_mat)]
  rfl
theorem going_ok {q : Cst} {now spent : Int} {tk wk d : Nat} {m : Mm} {Ts Ws : List D} (e : m[d]? = some (pO q now spent tk wk)) (e1 : m[tk]? = some (.lst Ts)) (e2 : m[wk]? = some (.lst Ws)) (h1 : nrs Ts = true) (h2 : nrs Ws = true) {x y : Nat} (hx : x < q.c) (hy : y < q.c) (n : Nat) :
    callN pg (n + 1) 83 [.ref d, .int (x : Int), .int (y : Int)] m = .ok (.int (goZ q x y)) m := by
  refine call_runO (fd := d_Policy_going) (as' := [pV q now spent Ts Ws, .int (x : Int), .int (y : Int)]) rfl rfl rfl rfl (by
    simp only [List.mapM_cons, List.mapM_nil, rsv_p e e1 e2 h1 h2, rsv9 (show nr (.int (x : Int)) = true from rfl), rsv9 (show nr (.int (y : Int)) = true from rfl)]
    rfl) ?_
  show Wp pg (callN pg n) _ ⟨[some (pV q now spent Ts Ws), some (.int (x : Int)), some (.int (y : Int))], []⟩ _
  have f1 : fldD ([] : Mm) 5 (pV q now spent Ts Ws) = some (vec q.c q.S) := rfl
  have f2 : fldD ([] : Mm) 6 (pV q now spent Ts Ws) = some (tab q.c fun i => vec q.c (q.W i)) := rfl
  exact wp_ret (by simp only [execSs, execS, evalE, evalEs, evalB, evalO, evalI, up_ok, Res.bind_ok, List.getElem?_cons_zero, List.getElem?_cons_succ, List.set_cons_zero, List.set_cons_succ, List.map_cons, List.map_nil, List.cons_append, List.nil_append, Nat.add_one_sub_one, Cn.d, if_true, wipe, bindT, bindTs, binD, arD, mkT, Bool.false_eq_true, if_false, Nat.reduceSub, Option.bind_some, szNil, szOne, szTwo, szThree, szFour, szFive, List.length_nil, List.length_cons, addD, mulD, mkL, List.replicate_succ, List.replicate_zero, List.replicate, f1, f2, idx_tab hx, idx_tab hy, show divOk 2 = true from rfl] <;> rfl) ⟨_, rfl, by simp only [own]; rfl⟩
/-- where one is served -/
noncomputable def sm (q : Cst) (w t : Nat → Int) (now : Nat) : Nat → Int := fun x => w x + 2 * t x + q.W x now
noncomputable def goal (q : Cst) (w t : Nat → Int) (now : Nat) : Nat := if mn q.c (sm q w t now) < sm q w t now now then am q.c (sm q w t now) else now
theorem goal_lt {q : Cst} {w t : Nat → Int} {now : Nat} (h : now < q.c) : goal q w t now < q.c := by
  unfold goal
  split
  · exact am_lt q.hc
  · exact h
theorem ix_vec {m : Mm} {c : Nat} {f : Nat → Int} {x : Nat} (h : x < c) : idxD m (vec c f) (.int (x : Int)) = some (.int (f x)) := idx_tab (F := fun k => .int (f k)) h
theorem ix_mat {m : Mm} {c : Nat} {f : Nat → Nat → Int} {x : Nat} (h : x < c) : idxD m (tab c fun i => vec c (f i)) (.int (x : Int)) = some (vec c (f x)) := idx_tab h
theorem serve_ok {q : Cst} {Tf : Nat → Nat → Int} {k now tk wk d g0 : Nat} {spent : Int} {m : Mm} {R : List (Nat × O)} (hk : k ≤ 1000) (hnow : now < q.c) (H : Hold m ((d, pO q now spent tk wk) :: (tk, .lst (Tsk q Tf k)) :: (wk, .lst (Wsk q Tf k)) :: R)) (hg : (g0, .lst ((List.range q.c).map fun x => .int (Tf k x))) ∈ R) (n : Nat) :
    ∃ m', callN pg (n + 2) 84 [.ref d, .ref g0] m = .ok (.int (goal q (Wf q Tf k) (Tf k) now : Int)) m' ∧ Hold m' ((d, pO q (goal q (Wf q Tf k) (Tf k) now) (spent + (goZ q now (goal q (Wf q Tf k) (Tf k) now) + Tf k (goal q (Wf q Tf k) (Tf k) now))) tk wk) :: (tk, .lst (Tsk q Tf (k + 1))) :: (wk, .lst (Wsk q Tf (k + 1))) :: R) := by
  have hc := q.hc
  have h5 := q.h5
  have hG := goal_lt (w := Wf q Tf k) (t := Tf k) hnow
  have eg := H.1 (g0, .lst ((List.range q.c).map fun x => .int (Tf k x))) (List.mem_cons_of_mem _ (List.mem_cons_of_mem _ (List.mem_cons_of_mem _ hg)))
  suffices Z : Wp pg (callN pg (n + 1)) d_Policy_serve.body ⟨[some (.ref d), some (.ref g0), none, none, none, none, none], m⟩ fun f s => rtD f = some (.int (goal q (Wf q Tf k) (Tf k) now : Int)) ∧ Hold s.hp ((d, pO q (goal q (Wf q Tf k) (Tf k) now) (spent + (goZ q now (goal q (Wf q Tf k) (Tf k) now) + Tf k (goal q (Wf q Tf k) (Tf k) now))) tk wk) :: (tk, .lst (Tsk q Tf (k + 1))) :: (wk, .lst (Wsk q Tf (k + 1))) :: R) by
    obtain ⟨f, s, e, e2, e3⟩ := Z
    exact ⟨s.hp, call_imp (fd := d_Policy_serve) rfl rfl rfl ⟨f, s, e, e2, rfl⟩, e3⟩
  simp only [d_Policy_serve, List.map_cons, List.map_nil, List.cons_append, List.nil_append, List.replicate_succ, List.replicate_zero, Nat.reduceSub, List.replicate]
  have e0 := H.head
  refine wp_set (d := vec q.c (Tf k)) (h1 := m) (ev_b1 (ev_var rfl) (by
    simp only [bltD, seqOf, lstOf, eg, mkL, List.length_map, List.length_range, szOk_of (show q.c ≤ 16777216 by omega), if_true, Bool.false_eq_true, if_false]
    rfl)) ?_
  simp only [List.set_cons_zero, List.set_cons_succ]
  have il : idxD m (.ref wk) (.int (-1)) = some (vec q.c (Wf q Tf k)) := by
    simp only [idxD, seqOf, lstOf, H.tail.tail.head]
    rw [show Wsk q Tf k = ((List.range k).map fun i => vec q.c (Wf q Tf i)) ++ [vec q.c (Wf q Tf k)] from map_rng_succ _ _]
    exact atI_last _ _
  have neg1 : ∀ (sl : List (Option D)), evalE pg (callN pg (n + 1)) (.neg (.lit (.int 1))) sl m = .ok (.int (-1)) m := fun sl => by simp only [evalE, Res.bind_ok, Cn.d]
  refine wp_set (ev_idx (ev_fld (ev_var rfl) (f10 e0)) (neg1 _) il) ?_
  simp only [List.set_cons_zero, List.set_cons_succ]
  refine wp_set (d := .int (q.c : Int)) (ev_b1 (ev_var rfl) len_tab) ?_
  simp only [List.set_cons_zero, List.set_cons_succ]
  refine wp_set (d := vec q.c (sm q (Wf q Tf k) (Tf k) now)) (lc_tab (it_rng (ev_var rfl) (by omega)) (by omega) fun x hx => ⟨_, rfl, ev_addI (ev_addI (ev_idx (ev_var rfl) (ev_var rfl) (ix_vec hx)) (ev_mulI ev_lit (ev_idx (ev_var rfl) (ev_var rfl) (ix_vec hx)) mulOk_two)) (ev_idx (ev_idx (ev_fld (ev_var rfl) (f6 e0)) (ev_var rfl) (ix_mat hx)) (ev_fld (ev_var rfl) (f7 e0)) (ix_vec hnow))⟩) ?_
  simp only [List.set_cons_zero, List.set_cons_succ]
  refine wp_set (ev_fld (ev_var rfl) (f7 e0)) ?_
  simp only [List.set_cons_zero, List.set_cons_succ]
  generalize hGd : goal q (Wf q Tf k) (Tf k) now = G at hG
  have cont : Wp pg (callN pg (n + 1)) (d_Policy_serve.body.drop 6) ⟨[some (.ref d), some (vec q.c (Tf k)), some (vec q.c (Wf q Tf k)), some (.int (q.c : Int)), some (vec q.c (sm q (Wf q Tf k) (Tf k) now)), some (.int (G : Int)), none], m⟩ fun f s => rtD f = some (.int (G : Int)) ∧ Hold s.hp ((d, pO q G (spent + (goZ q now G + Tf k G)) tk wk) :: (tk, .lst (Tsk q Tf (k + 1))) :: (wk, .lst (Wsk q Tf (k + 1))) :: R) := by
    simp only [d_Policy_serve, List.drop_succ_cons, List.drop_zero]
    have go := going_ok e0 H.tail.head H.tail.tail.head nrs_vecs nrs_vecs hnow hG n
    refine wp_augf (ev_var rfl) (f8 e0) (d := .int (goZ q now G + Tf k G)) (z := .int (spent + (goZ q now G + Tf k G))) (ev_addI (EV.ev_meth (x := .ref d) (h1 := m) (h2 := m) (C := 1) (cd := pg.cls.getD 1 default) (f := 83) (xs := [.int (now : Int), .int (G : Int)]) (ev_var rfl) (cl1 e0) rfl rfl (es_2 (ev_fld (ev_var rfl) (f7 e0)) (ev_var rfl)) go) (ev_idx (ev_var rfl) (ev_var rfl) (ix_vec hG))) rfl rfl (s8 e0 _) ?_
    have H1 := Hold.set0 (o' := pO q now (spent + (goZ q now G + Tf k G)) tk wk) H
    generalize m.set d (pO q now (spent + (goZ q now G + Tf k G)) tk wk) = m1 at H1
    refine wp_setf (d := .int (G : Int)) (ev_var rfl) (ev_var rfl) (s7 H1.head _) ?_
    have H2 := Hold.set0 (o' := pO q G (spent + (goZ q now G + Tf k G)) tk wk) H1
    generalize m1.set d (pO q G (spent + (goZ q now G + Tf k G)) tk wk) = m2 at H2
    have a1 : bmD .append false (.ref tk) [vec q.c (Tf k)] m2 = .ok .non (m2.set tk (.lst (Tsk q Tf (k + 1)))) := by
      have z : szOk ((Tsk q Tf k).length + 1) = true := szOk_of (by rw [List.length_map, List.length_range]; omega)
      simp only [bmD, H2.tail.head, z, if_true]
      rw [show Tsk q Tf (k + 1) = Tsk q Tf k ++ [vec q.c (Tf k)] from map_rng_succ _ _]
    refine wp_ex (ev_bm (ev_fld (ev_var rfl) (f9 H2.head)) (by simp only [bmTy, lstOf, H2.tail.head]; rfl) (es_1 (ev_var rfl)) a1) ?_
    have H3 := Hold.set1 (o' := O.lst (Tsk q Tf (k + 1))) H2
    generalize m2.set tk (.lst (Tsk q Tf (k + 1))) = m3 at H3
    have a2 : bmD .append false (.ref wk) [vec q.c (nw q.c q.W (Wf q Tf k) (Tf k))] m3 = .ok .non (m3.set wk (.lst (Wsk q Tf (k + 1)))) := by
      have z : szOk ((Wsk q Tf k).length + 1) = true := szOk_of (by rw [List.length_map, List.length_range]; omega)
      simp only [bmD, H3.tail.tail.head, z, if_true]
      rw [show Wsk q Tf (k + 1) = Wsk q Tf k ++ [vec q.c (Wf q Tf (k + 1))] from map_rng_succ _ _]
      rfl
    refine wp_ex (ev_bm (ev_fld (ev_var rfl) (f10 H3.head)) (by simp only [bmTy, lstOf, H3.tail.tail.head]; rfl) (es_1 (ev_call (es_3 (ev_var rfl) (ev_var rfl) (ev_fld (ev_var rfl) (f6 H3.head))) (next_works_ok P (n := n) hc h5))) a2) ?_
    exact wp_ret (ev_var rfl) ⟨rfl, Hold.set2 H3⟩
  have fl := fun h => first_least_ok P (n := n) (c := q.c) (f := sm q (Wf q Tf k) (Tf k) now) (h := h) hc
  have t1 : evalE pg (callN pg (n + 1)) (.cmp .lt (.blt .min1 false [(.var 4)]) (.idx (.var 4) (.fld (.var 0) 7))) [some (.ref d), some (vec q.c (Tf k)), some (vec q.c (Wf q Tf k)), some (.int (q.c : Int)), some (vec q.c (sm q (Wf q Tf k) (Tf k) now)), some (.int (now : Int)), none] m = .ok (.bl (decide (mn q.c (sm q (Wf q Tf k) (Tf k) now) < sm q (Wf q Tf k) (Tf k) now now))) m :=
    ev_cmp (ev_b1 (ev_var rfl) (min1_vec hc)) (ev_idx (ev_var rfl) (ev_fld (ev_var rfl) (f7 e0)) (ix_vec hnow)) cm_lt
  refine wp_dec _ t1 (fun hb => ?_) fun hb => ?_
  · have eG : G = am q.c (sm q (Wf q Tf k) (Tf k) now) := by rw [← hGd]; exact if_pos hb
    refine wp_set (d := .int (G : Int)) (by rw [eG]; exact ev_call (es_1 (ev_var rfl)) (fl _)) (wp_nil ?_)
    have := cont
    simp only [d_Policy_serve, List.drop_succ_cons, List.drop_zero] at this
    exact this
  · have eG : G = now := by rw [← hGd]; exact if_neg hb
    have := cont
    simp only [d_Policy_serve, List.drop_succ_cons, List.drop_zero] at this
    rw [eG] at this ⊢
    exact wp_nil this
end K43
namespace K43
open PySem R PT DR PL HP EV
def bnd (f : Nat → Int) : Prop := ∀ k, 0 ≤ f k ∧ f k ≤ 120
theorem bt01 (ns : List Int) (i k : Nat) : bt ns i k = 0 ∨ bt ns i k = 1 := bit_01 _ _
theorem szb (ns : List Int) (k : Nat) : 1 ≤ szZ ns k ∧ szZ ns k ≤ 30 := by
  unfold szZ
  have := Int.emod_nonneg (drawZ ns (1 + k)) (show (30 : Int) ≠ 0 by decide)
  have := Int.emod_lt_of_pos (drawZ ns (1 + k)) (show (0 : Int) < 30 by decide)
  omega
theorem mul01 {s b : Int} (h : 1 ≤ s ∧ s ≤ 30) (hb : b = 0 ∨ b = 1) : 0 ≤ s * b ∧ s * b ≤ 30 := by
  rcases hb with rfl | rfl
  · rw [Int.mul_zero]; omega
  · rw [Int.mul_one]; omega
theorem abs01 {a b : Int} (ha : a = 0 ∨ a = 1) (hb : b = 0 ∨ b = 1) : absI (a - b) = 0 ∨ absI (a - b) = 1 := by
  rcases ha with rfl | rfl <;> rcases hb with rfl | rfl
  · exact .inl rfl
  · exact .inr rfl
  · exact .inr rfl
  · exact .inl rfl
theorem st_bnd (ns : List Int) : bnd (stZ ns) := fun i => by
  have a := mul01 (szb ns 0) (bt01 ns i 0)
  have b := mul01 (szb ns 1) (bt01 ns i 1)
  have c := mul01 (szb ns 2) (bt01 ns i 2)
  have d := mul01 (szb ns 3) (bt01 ns i 3)
  unfold stZ
  omega
theorem wy_bnd (ns : List Int) (i : Nat) : bnd (wyZ ns i) := fun j => by
  have a := mul01 (szb ns 0) (abs01 (bt01 ns i 0) (bt01 ns j 0))
  have b := mul01 (szb ns 1) (abs01 (bt01 ns i 1) (bt01 ns j 1))
  have c := mul01 (szb ns 2) (abs01 (bt01 ns i 2) (bt01 ns j 2))
  have d := mul01 (szb ns 3) (abs01 (bt01 ns i 3) (bt01 ns j 3))
  unfold wyZ
  omega
def pI (f : Nat → Int) (l : List Nat) : List PyData := l.map fun k => .int (f k)
theorem toP_pI {h : Mm} {f : Nat → Int} {k : Nat} : ∀ l : List Nat, (l.map fun j => D.int (f j)).mapM (toP h (k + 1)) = some (pI f l)
  | [] => rfl
  | a :: l => by
    rw [List.map_cons, List.mapM_cons, toP_pI l]; rfl
theorem int_short {z : Int} (h : 0 ≤ z ∧ z ≤ 120) : (PyData.shown (.int z)).length ≤ 13 := by
  have := PyProof.Rows.toString_length_le h.1 (k := 3) (by decide) (by omega)
  show (Str.ofString (toString z)).length ≤ 13
  omega
theorem int_show {z : Int} (h : 0 ≤ z ∧ z ≤ 120) : PyData.showable (.int z) = true := by
  show decide (z.natAbs.log2 < 1920) = true
  refine decide_eq_true ?_
  have := Nat.log2_le_self z.natAbs
  omega
theorem int_weight {z : Int} (h : 0 ≤ z ∧ z ≤ 120) : (PyData.int z).weight ≤ 121 := by
  show (if z == 0 then 0 else z.natAbs.log2 + 1) ≤ 121
  have := Nat.log2_le_self z.natAbs
  split <;> omega
/-- lists of small numbers -/
theorem pI_ok {f : Nat → Int} (hf : bnd f) : ∀ l : List Nat, PyData.showableAll (pI f l) = true ∧ PyData.hasDictAll (pI f l) = false ∧ PyData.depthAll (pI f l) = 0 ∧ PyData.leavesShortAll 13 (pI f l) = true ∧ PyData.weightAll (pI f l) ≤ 122 * l.length
  | [] => ⟨rfl, rfl, rfl, rfl, Nat.zero_le _⟩
  | a :: l => by
    obtain ⟨h1, h2, h3, h4, h5⟩ := pI_ok hf l
    have b := hf a
    refine ⟨?_, ?_, ?_, ?_, ?_⟩
    · show (PyData.showable (.int (f a)) && PyData.showableAll (pI f l)) = true
      rw [int_show b, h1]; rfl
    · show (false || PyData.hasDictAll (pI f l)) = false
      rw [h2]; rfl
    · show max 0 (PyData.depthAll (pI f l)) = 0
      rw [h3]; rfl
    · show (decide ((PyData.shown (.int (f a))).length ≤ 13) && PyData.leavesShortAll 13 (pI f l)) = true
      rw [decide_eq_true (int_short b), h4]; rfl
    · show (PyData.int (f a)).weight + 1 + PyData.weightAll (pI f l) ≤ _
      have := int_weight b
      rw [List.length_cons]; omega
theorem pM_ok {f : Nat → Nat → Int} (c : Nat) (hf : ∀ i, bnd (f i)) : ∀ l : List Nat, PyData.showableAll (l.map fun i => .list (pI (f i) (List.range c))) = true ∧ PyData.hasDictAll (l.map fun i => .list (pI (f i) (List.range c))) = false ∧ PyData.depthAll (l.map fun i => .list (pI (f i) (List.range c))) ≤ 1 ∧ PyData.leavesShortAll 13 (l.map fun i => .list (pI (f i) (List.range c))) = true ∧ PyData.weightAll (l.map fun i => .list (pI (f i) (List.range c))) ≤ (122 * c + 1) * l.length
  | [] => ⟨rfl, rfl, Nat.zero_le _, rfl, Nat.zero_le _⟩
  | a :: l => by
    obtain ⟨h1, h2, h3, h4, h5⟩ := pM_ok c hf l
    obtain ⟨b1, b2, b3, b4, b5⟩ := pI_ok (hf a) (List.range c)
    rw [List.length_range] at b5
    refine ⟨?_, ?_, ?_, ?_, ?_⟩
    · show (PyData.showableAll (pI (f a) (List.range c)) && PyData.showableAll (l.map fun i => .list (pI (f i) (List.range c)))) = true
      rw [b1, h1]; rfl
    · show (PyData.hasDictAll (pI (f a) (List.range c)) || PyData.hasDictAll (l.map fun i => .list (pI (f i) (List.range c)))) = false
      rw [b2, h2]; rfl
    · show max (PyData.depthAll (pI (f a) (List.range c)) + 1) (PyData.depthAll (l.map fun i => .list (pI (f i) (List.range c)))) ≤ 1
      rw [b3]; omega
    · show (PyData.leavesShortAll 13 (pI (f a) (List.range c)) && PyData.leavesShortAll 13 (l.map fun i => .list (pI (f i) (List.range c)))) = true
      rw [b4, h4]; rfl
    · show PyData.weightAll (pI (f a) (List.range c)) + 1 + PyData.weightAll (l.map fun i => .list (pI (f i) (List.range c))) ≤ _
      rw [List.length_cons, Nat.mul_succ]; omega
def costP (ns : List Int) : PyData := .tuple [.int (stt ns : Int), .list (pI (stZ ns) (List.range (cnt ns))), .list ((List.range (cnt ns)).map fun i => .list (pI (wyZ ns i) (List.range (cnt ns))))]
theorem toP_mat {h : Mm} {f : Nat → Nat → Int} {c k : Nat} : ∀ l : List Nat, (l.map fun i => vec c (f i)).mapM (toP h (k + 2)) = some (l.map fun i => .list (pI (f i) (List.range c)))
  | [] => rfl
  | a :: l => by
    have e : toP h (k + 2) (vec c (f a)) = some (.list (pI (f a) (List.range c))) := by
      show Option.map PyData.list (((List.range c).map fun j => D.int (f a j)).mapM (toP h (k + 1))) = _
      rw [toP_pI]; rfl
    rw [List.map_cons, List.mapM_cons, e, toP_mat l]; rfl
theorem repr_ok (ns : List Int) (m : Mm) : bltD .repr_ false [costD ns] m = .ok (.str (costP ns).shown) m := by
  have e1 : toP m 8 (vec (cnt ns) (stZ ns)) = some (.list (pI (stZ ns) (List.range (cnt ns)))) := by
    show Option.map PyData.list (((List.range (cnt ns)).map fun j => D.int (stZ ns j)).mapM (toP m 7)) = _
    rw [toP_pI]; rfl
  have e2 : toP m 8 (tab (cnt ns) fun i => vec (cnt ns) (wyZ ns i)) = some (.list ((List.range (cnt ns)).map fun i => .list (pI (wyZ ns i) (List.range (cnt ns))))) := by
    show Option.map PyData.list (((List.range (cnt ns)).map fun i => vec (cnt ns) (wyZ ns i)).mapM (toP m 7)) = _
    rw [toP_mat]; rfl
  have e : toP m 9 (costD ns) = some (costP ns) := by
    show Option.map PyData.tuple ([D.int (stt ns : Int), vec (cnt ns) (stZ ns), tab (cnt ns) fun i => vec (cnt ns) (wyZ ns i)].mapM (toP m 8)) = _
    simp only [List.mapM_cons, List.mapM_nil, e1, e2]
    rfl
  have hc := cnt_le ns
  have hst := stt_lt ns
  have b0 : (0 : Int) ≤ (stt ns : Int) ∧ (stt ns : Int) ≤ 120 := by omega
  obtain ⟨a1, a2, a3, a4, a5⟩ := pI_ok (st_bnd ns) (List.range (cnt ns))
  obtain ⟨c1, c2, c3, c4, c5⟩ := pM_ok (cnt ns) (wy_bnd ns) (List.range (cnt ns))
  rw [List.length_range] at a5 c5
  have k1 : (costP ns).showable = true := by
    show (PyData.showable (.int (stt ns : Int)) && (PyData.showableAll (pI (stZ ns) (List.range (cnt ns))) && (PyData.showableAll ((List.range (cnt ns)).map fun i => .list (pI (wyZ ns i) (List.range (cnt ns)))) && true))) = true
    rw [int_show b0, a1, c1]; rfl
  have k2 : (costP ns).hasDict = false := by
    show (false || (PyData.hasDictAll (pI (stZ ns) (List.range (cnt ns))) || (PyData.hasDictAll ((List.range (cnt ns)).map fun i => .list (pI (wyZ ns i) (List.range (cnt ns)))) || false))) = false
    rw [a2, c2]; rfl
  have k3 : (costP ns).depth ≤ 9 := by
    show max 0 (max (PyData.depthAll (pI (stZ ns) (List.range (cnt ns))) + 1) (max (PyData.depthAll ((List.range (cnt ns)).map fun i => .list (pI (wyZ ns i) (List.range (cnt ns)))) + 1) 0)) + 1 ≤ 9
    omega
  have k4 : (costP ns).leavesShort 13 = true := by
    show (decide ((PyData.shown (.int (stt ns : Int))).length ≤ 13) && (PyData.leavesShortAll 13 (pI (stZ ns) (List.range (cnt ns))) && (PyData.leavesShortAll 13 ((List.range (cnt ns)).map fun i => .list (pI (wyZ ns i) (List.range (cnt ns)))) && true))) = true
    rw [decide_eq_true (int_short b0), a4, c4]; rfl
  have k5 : (costP ns).weight ≤ 4000 := by
    show (PyData.int (stt ns : Int)).weight + 1 + (PyData.weightAll (pI (stZ ns) (List.range (cnt ns))) + 1 + (PyData.weightAll ((List.range (cnt ns)).map fun i => .list (pI (wyZ ns i) (List.range (cnt ns)))) + 1 + 0)) ≤ 4000
    have := int_weight b0
    have : (122 * cnt ns + 1) * cnt ns ≤ (122 * 5 + 1) * 5 := Nat.mul_le_mul (by omega) hc
    omega
  have k6 := PyData.shown_le 13 (by decide) (costP ns) k4
  have z : (seqP (costP ns) && (costP ns).showable && !(costP ns).hasDict && Nat.ble (costP ns).depth 9 && Nat.ble (costP ns).shown.length 1000000) = true := by
    rw [k1, k2, Nat.ble_eq_true_of_le k3, Nat.ble_eq_true_of_le (show (costP ns).shown.length ≤ 1000000 by omega)]; rfl
  simp only [bltD, e, z, if_true]
theorem mapL_allocD {f : D → Mm → Res Mm (Option D)} : ∀ {S : List (List D)} {h : Mm}, (∀ s ∈ S, ∀ h, f (.lst s) h = .ok (some (.ref h.length)) (h ++ [.lst s])) → mapL f (S.map .lst) h = .ok (rS h.length S.length) (h ++ S.map O.lst)
  | [], h, _ => by simp [mapL, rS]
  | s :: S, h, H => by
    have e := H s List.mem_cons_self h
    have ih := mapL_allocD (S := S) (h := h ++ [.lst s]) fun x hx => H x (List.mem_cons_of_mem _ hx)
    rw [List.length_append] at ih
    simp only [List.map_cons, mapL, e, Res.bind_ok, ih, List.length_cons, List.length_nil, Nat.zero_add, rS_succ]
    simp
theorem lc_copyD {c : Calls} {it : It} {sl : List (Option D)} {h h1 : Mm} {j : Nat} {S : List (List D)} (a : evalI pg c it sl h = .ok (S.map .lst) h1) (hj : j < sl.length) (hs : S.length ≤ 1000) (hl : ∀ s ∈ S, s.length ≤ 1000) :
    evalE pg c (.lc true (.blt .list_ true [.var j]) (.nm j) it none [j]) sl h = .ok (.ref (h1.length + S.length)) (h1 ++ S.map O.lst ++ [.lst (rS h1.length S.length)]) := by
  simp only [evalE, a, Res.bind_ok]
  rw [mapL_allocD (S := S) fun s hs h => ?_]
  · have z : szOk (rS h1.length S.length).length = true := szOk_of (by rw [rS_len]; omega)
    simp only [Res.bind_ok, mkL, z, if_true, List.length_append, List.length_map]
  · have z : szOk s.length = true := szOk_of (by have := hl s hs; omega)
    have g : ((wipe sl [j]).set j (some (.lst s)))[j]? = some (some (.lst s)) := by
      rw [List.getElem?_set_self]
      simp only [wipe, List.length_set]; exact hj
    simp only [bindT, evalEs, evalE, g, Res.bind_ok, bltD, seqOf, lstOf, mkL, z, if_true, noExn]
/-- the first least, found by going over -/
theorem am_first {c : Nat} {f : Nat → Int} (hc : 0 < c) {G : Nat} (hG : G < c) (h1 : ∀ x, x < c → f G ≤ f x) (h2 : ∀ x, x < G → f G < f x) : am c f = G := by
  have e := (Classical.choose_spec (am_ex c f) hc).2.2
  have em : mn c f = f G := mn_eq h1 hG rfl
  rw [List.idxOf?_eq_some_iff] at e
  obtain ⟨hlt, hb, hmin⟩ := e
  have hb : f (am c f) = mn c f := am_mn hc
  rcases Nat.lt_trichotomy (am c f) G with z | z | z
  · have := h2 _ z
    omega
  · exact z
  · exfalso
    refine hmin G z ?_
    simp [em]
end K43
namespace K43
open PySem R PT DR PL HP EV
theorem ev_lk {c : Calls} {o e : ME} {sl : List (Option D)} {h h1 h2 : Mm} {n : Nat} {xs ys : List D} {d : D} (a : evalE pg c o sl h = .ok (.ref n) h1) (b : h[n]? = some (.lst xs)) (q : evalE pg c e sl (h.set n (.llst xs)) = .ok d h2) (r : h2[n]? = some (.llst ys)) : evalE pg c (.lk o e) sl h = .ok d (h2.set n (.lst ys)) := by
  simp only [evalE, a, b, q, r]
theorem sfC {h r : Mm} {fs : List (Nat × D)} {C f : Nat} {v : D} (hf : fs.length < 900) : setFD (.ref h.length) f v (h ++ (.ins C fs :: r)) = some (h ++ (.ins C (putF f v fs) :: r)) := by
  have e : (h ++ (O.ins C fs :: r))[h.length]? = some (O.ins C fs) := by rw [List.getElem?_append_right (Nat.le_refl _), Nat.sub_self]; rfl
  simp only [setFD, e, if_pos hf]
  rw [List.set_append_right _ _ (Nat.le_refl _), Nat.sub_self]
  rfl
theorem fdC {h r : Mm} {fs : List (Nat × D)} {C f : Nat} : fldD (h ++ (.ins C fs :: r)) f (.ref h.length) = fs.lookup f := by
  have e : (h ++ (O.ins C fs :: r))[h.length]? = some (O.ins C fs) := by rw [List.getElem?_append_right (Nat.le_refl _), Nat.sub_self]; rfl
  simp only [fldD, e]
/-- what is handed to a new policy: what stands at 0, at 1 .., and behind -/
structure Bas (q : Cst) (b : Mm) : Prop where
  l : b.length = 2 + q.c
  s : b[0]? = some (.lst ((List.range q.c).map fun k => .int (q.S k)))
  r : ∀ i, i < q.c → b[1 + i]? = some (.lst ((List.range q.c).map fun k => .int (q.W i k)))
  w : b[1 + q.c]? = some (.lst (rS 1 q.c))
theorem init_ok {q : Cst} {b : Mm} (B : Bas q b) (n : Nat) : callN pg (n + 1) 82 [.ref b.length, .int (q.st : Int), .ref 0, .ref (1 + q.c)] (b ++ [.ins 1 []]) = .ok .non (b ++ [pO q q.st 0 (b.length + 1) (b.length + 2), .lst [], .lst [vec q.c (q.W q.st)]]) := by
  have hc := q.hc
  have h5 := q.h5
  have lb := B.l
  have low : ∀ (X : Mm) (i : Nat) (o : O), b[i]? = some o → (b ++ X)[i]? = some o := fun X i o e => by
    rw [List.getElem?_append_left (List.getElem?_eq_some_iff.mp e).1]; exact e
  refine call_runI (fd := d_Policy___init__) rfl rfl rfl ?_
  show Wp pg (callN pg n) d_Policy___init__.body ⟨[some (.ref b.length), some (.int (q.st : Int)), some (.ref 0), some (.ref (1 + q.c)), none], b ++ [.ins 1 []]⟩ _
  simp only [d_Policy___init__, List.map_cons, List.map_nil, List.cons_append, List.nil_append, List.replicate_succ, List.replicate_zero, Nat.reduceSub, List.replicate]
  refine wp_setf (ev_var rfl) (ev_var rfl) (sfC (by decide)) ?_
  refine wp_setf (d := vec q.c q.S) (ev_b1 (ev_var rfl) (by
    simp only [bltD, seqOf, lstOf, low _ _ _ B.s, mkL, List.length_map, List.length_range, szOk_of (show q.c ≤ 16777216 by omega), if_true, Bool.false_eq_true, if_false]
    rfl)) (ev_var rfl) (sfC (by simp [putF])) ?_
  have lk : ∀ (X : Mm), evalE pg (callN pg n) (.lk (.var 3) (.lc false (.blt .list_ false [(.var 4)]) (.nm 4) (.seq (.var 3)) none [4])) [some (.ref b.length), some (.int (q.st : Int)), some (.ref 0), some (.ref (1 + q.c)), none] (b ++ X) = .ok (tab q.c fun i => vec q.c (q.W i)) (b ++ X) := by
    intro X
    have e0 := low X _ _ B.w
    have lt : 1 + q.c < (b ++ X).length := (List.getElem?_eq_some_iff.mp e0).1
    have g0 : ((b ++ X).set (1 + q.c) (.llst (rS 1 q.c)))[1 + q.c]? = some (.llst (rS 1 q.c)) := List.getElem?_set_self lt
    have it : evalI pg (callN pg n) (.seq (.var 3)) [some (.ref b.length), some (.int (q.st : Int)), some (.ref 0), some (.ref (1 + q.c)), none] ((b ++ X).set (1 + q.c) (.llst (rS 1 q.c))) = .ok ((List.range q.c).map fun i => .ref (1 + i)) ((b ++ X).set (1 + q.c) (.llst (rS 1 q.c))) := by
      rw [evalI, ev_var (d := .ref (1 + q.c)) rfl, Res.bind_ok]
      simp only [g0]
      rfl
    have lc := lc_list (obj := false) (elt := .blt .list_ false [(.var 4)]) (g := .nm 4) (own := [4]) (G := fun i => vec q.c (q.W i)) it (by simp; omega) fun i hi => ⟨_, rfl, ev_b1 (ev_var rfl) (by
      have hi := List.mem_range.mp hi
      have gi : ((b ++ X).set (1 + q.c) (.llst (rS 1 q.c)))[1 + i]? = some (.lst ((List.range q.c).map fun k => .int (q.W i k))) := by
        rw [List.getElem?_set_ne (by omega)]
        exact low X _ _ (B.r i hi)
      simp only [bltD, seqOf, lstOf, gi, mkL, List.length_map, List.length_range, szOk_of (show q.c ≤ 16777216 by omega), if_true, Bool.false_eq_true, if_false]
      rfl)⟩
    have e := ev_lk (o := .var 3) (ev_var rfl) e0 lc g0
    rw [List.set_set, PH.set_at e0] at e
    exact e
  refine wp_setf (lk _) (ev_var rfl) (sfC (by simp [putF])) ?_
  refine wp_setf (ev_var rfl) (ev_var rfl) (sfC (by simp [putF])) ?_
  refine wp_setf ev_lit (ev_var rfl) (sfC (by simp [putF])) ?_
  refine wp_setf (d := .ref (b.length + 1)) (h1 := b ++ (.ins 1 [(4, .int q.st), (5, vec q.c q.S), (6, tab q.c fun i => vec q.c (q.W i)), (7, .int q.st), (8, .int 0)] :: [.lst []])) (by
    have e := ev_lstO (p := pg) (c := callN pg n) (sl := [some (.ref b.length), some (.int (q.st : Int)), some (.ref 0), some (.ref (1 + q.c)), none]) (h := b ++ (.ins 1 [(4, .int q.st), (5, vec q.c q.S), (6, tab q.c fun i => vec q.c (q.W i)), (7, .int q.st), (8, .int 0)] :: [])) es_nil (by simp)
    rw [List.append_assoc] at e
    simp only [List.length_append, List.length_cons, List.length_nil] at e
    exact e) (ev_var rfl) (sfC (by simp)) ?_
  refine wp_setf (d := .ref (b.length + 2)) (h1 := b ++ (.ins 1 [(4, .int q.st), (5, vec q.c q.S), (6, tab q.c fun i => vec q.c (q.W i)), (7, .int q.st), (8, .int 0), (9, .ref (b.length + 1))] :: [.lst [], .lst [vec q.c (q.W q.st)]])) (by
    have e := ev_lstO (p := pg) (c := callN pg n) (sl := [some (.ref b.length), some (.int (q.st : Int)), some (.ref 0), some (.ref (1 + q.c)), none]) (h := b ++ (.ins 1 [(4, .int q.st), (5, vec q.c q.S), (6, tab q.c fun i => vec q.c (q.W i)), (7, .int q.st), (8, .int 0), (9, .ref (b.length + 1))] :: [.lst []])) (ds := [vec q.c (q.W q.st)]) (as := [(.blt .list_ false [(.idx (.fld (.var 0) 6) (.var 1))])]) (es_1 (ev_b1 (ev_idx (ev_fld (ev_var rfl) fdC) (ev_var rfl) (ix_mat q.hs)) (list_tab (by omega)))) (by simp)
    rw [List.append_assoc] at e
    simp only [List.length_append, List.length_cons, List.length_nil] at e
    exact e) (ev_var rfl) (sfC (by simp)) ?_
  exact wp_nil ⟨rfl, rfl⟩
theorem task_ok (z : Int) {c : Nat} (hc : c ≤ 5) (n : Nat) (h : Mm) : callN pg (n + 1) 190 [.int z, .int (c : Int)] h = .ok (.ref h.length) (h ++ [.lst ((List.range c).map fun k => .int (tkZ z k))]) := by
  refine call_runI (fd := d__law_task) rfl rfl rfl ?_
  simp only [d__law_task, List.map_cons, List.map_nil, List.cons_append, List.nil_append, List.replicate_succ, List.replicate_zero, Nat.reduceSub, List.replicate]
  refine wp_ret (lc_obj (it_rng (ev_var rfl) (by omega)) (by omega) fun k hk => ⟨_, rfl, ?_⟩) ⟨rfl, rfl⟩
  have m1 : mulOk 7 (k : Int) = true := mulOk_r (by omega)
  have m2 : mulOk (7 * (k : Int)) (k : Int) = true := mulOk_r (by omega)
  have kk : (0 : Int) ≤ 7 * (k : Int) * (k : Int) := Int.mul_nonneg (by omega) (by omega)
  have kb : 7 * (k : Int) * (k : Int) ≤ 175 := by
    have : k = 0 ∨ k = 1 ∨ k = 2 ∨ k = 3 ∨ k = 4 := by omega
    rcases this with rfl | rfl | rfl | rfl | rfl <;> decide
  have dv : divOk (1 + 7 * (k : Int) * (k : Int)) = true := divOk_small (by omega) (by omega)
  have zr : z % 2 = 0 ∨ z % 2 = 1 := by omega
  have e1 : ∀ m : Mm, idxD m (.lst [.int 4, .int 40]) (.int (z % 2)) = some (.int (if z % 2 = 0 then 4 else 40)) := fun m => by
    rcases zr with e | e
    · rw [e]; rfl
    · rw [e]; rfl
  refine ev_modI (ev_divI (ev_var rfl) (ev_addI ev_lit (ev_mulI (ev_mulI ev_lit (ev_var rfl) m1) (ev_var rfl) m2)) dv) (ev_idx (ev_lst (ds := [.int 4, .int 40]) (es_2 ev_lit ev_lit) (by simp)) (ev_modI (ev_var rfl) ev_lit (by decide)) (e1 _)) ?_
  split <;> decide
def cq (ns : List Int) : Cst := ⟨cnt ns, stt ns, stZ ns, wyZ ns, cnt_pos ns, by have := cnt_le ns; omega, stt_lt ns⟩
theorem jx2 {m : Mm} {ns : List Int} : idxD m (costD ns) (.int 2) = some (tab (cnt ns) fun i => vec (cnt ns) (wyZ ns i)) := rfl
theorem jx1 {m : Mm} {ns : List Int} : idxD m (costD ns) (.int 1) = some (vec (cnt ns) (stZ ns)) := rfl
theorem jx0 {m : Mm} {ns : List Int} : idxD m (costD ns) (.int 0) = some (.int (stt ns : Int)) := rfl
theorem lgo_ok {ns : List Int} {x y : Nat} (hx : x < cnt ns) (hy : y < cnt ns) (n : Nat) (h : Mm) : callN pg (n + 1) 191 [costD ns, .int (x : Int), .int (y : Int)] h = .ok (.int (goZ (cq ns) x y)) h := by
  refine call_run (fd := d__law_going) rfl rfl rfl (by simp only [nrs, nr_cost, nr, Bool.and_self]) ?_
  show Wp pg (callN pg n) d__law_going.body ⟨[some (costD ns), some (.int (x : Int)), some (.int (y : Int))], []⟩ _
  simp only [d__law_going, List.map_cons, List.map_nil, List.cons_append, List.nil_append, List.replicate_succ, List.replicate_zero, Nat.reduceSub, List.replicate]
  refine wp_ret (ev_divI (ev_subI (ev_addI (ev_idx (ev_idx (ev_idx (ev_var rfl) ev_lit jx2) (ev_var rfl) (ix_mat hx)) (ev_var rfl) (ix_vec hy)) (ev_idx (ev_idx (ev_var rfl) ev_lit jx1) (ev_var rfl) (ix_vec hy))) (ev_idx (ev_idx (ev_var rfl) ev_lit jx1) (ev_var rfl) (ix_vec hx))) ev_lit rfl) ⟨_, rfl, rsv9 rfl⟩
end K43
namespace K43
open PySem R PT DR PL HP EV
noncomputable def Tf (ns : List Int) (k : Nat) : Nat → Int := tkZ (drawZ ns (20 + k))
/-- going over the sums -/
def Ov (c now : Nat) (f : Nat → Int) (j G : Nat) : Prop := (G = now ∧ ∀ x, x < j → f now ≤ f x) ∨ (G < j ∧ f G < f now ∧ (∀ x, x < j → f G ≤ f x) ∧ ∀ x, x < G → f G < f x)
theorem Ov.lt {c now j G : Nat} {f : Nat → Int} (h : Ov c now f j G) (hnow : now < c) (hj : j ≤ c) : G < c := by
  rcases h with ⟨rfl, _⟩ | ⟨h, _⟩
  · exact hnow
  · omega
theorem Ov.yes {c now j G : Nat} {f : Nat → Int} (h : Ov c now f j G) (z : f j < f G) : Ov c now f (j + 1) j := by
  rcases h with ⟨rfl, q⟩ | ⟨q1, q2, q3, q4⟩
  · exact .inr ⟨by omega, z, (fun x hx => by rcases (by omega : x < j ∨ x = j) with hx | rfl; have := q x hx; omega; omega), fun x hx => by have := q x hx; omega⟩
  · exact .inr ⟨by omega, by omega, (fun x hx => by rcases (by omega : x < j ∨ x = j) with hx | rfl; have := q3 x hx; omega; omega), fun x hx => by have := q3 x hx; omega⟩
theorem Ov.no {c now j G : Nat} {f : Nat → Int} (h : Ov c now f j G) (z : ¬ f j < f G) : Ov c now f (j + 1) G := by
  rcases h with ⟨rfl, q⟩ | ⟨q1, q2, q3, q4⟩
  · exact .inl ⟨rfl, fun x hx => by rcases (by omega : x < j ∨ x = j) with hx | rfl; exact q x hx; omega⟩
  · exact .inr ⟨by omega, q2, (fun x hx => by rcases (by omega : x < j ∨ x = j) with hx | rfl; exact q3 x hx; omega), q4⟩
theorem Ov.goal {q : Cst} {w t : Nat → Int} {now G : Nat} (h : Ov q.c now (sm q w t now) q.c G) (hnow : now < q.c) : G = goal q w t now := by
  unfold K43.goal
  rcases h with ⟨rfl, h⟩ | ⟨h1, h2, h3, h4⟩
  · rw [if_neg]
    obtain ⟨x, hx, e⟩ := mn_at (sm q w t G) q.hc
    have := h x hx
    omega
  · have e : mn q.c (sm q w t now) = sm q w t now G := mn_eq h3 h1 rfl
    rw [if_pos (by omega)]
    exact (am_first q.hc h1 h3 h4).symm
theorem eq_vec {m : Mm} {c : Nat} {f : Nat → Int} : cmpD .ne m (vec c f) (vec c f) = some false := by
  show (eqD m (vec c f) (vec c f)).map not = _
  have pl : ∀ l : List Nat, plDs 7 (l.map fun k => D.int (f k)) = true := by
    intro l
    induction l with
    | nil => simp only [List.map_nil, plDs]
    | cons a l ih => simp only [List.map_cons, plDs, plD, ih, Bool.and_self]
  rw [eq_same (by show plD 8 (.lst ((List.range c).map fun k => D.int (f k))) = true; simp only [plD, pl])]
  rfl
theorem eq_vecE {m : Mm} {c : Nat} {f : Nat → Int} : cmpD .eq m (vec c f) (vec c f) = some true := by
  have e := eq_vec (m := m) (c := c) (f := f)
  show eqD m (vec c f) (vec c f) = _
  have e : (eqD m (vec c f) (vec c f)).map not = some false := e
  cases z : eqD m (vec c f) (vec c f) with
  | none => rw [z] at e; cases e
  | some b =>
    rw [z] at e
    cases b with
    | true => rfl
    | false => cases e
theorem ne_i {m : Mm} {z : Int} : cmpD .ne m (.int z) (.int z) = some false := by
  show (eqD m (.int z) (.int z)).map not = _
  have : eqD m (.int z) (.int z) = some (z == z) := rfl
  rw [this]; simp
theorem ne_mat {m : Mm} {lt : Nat} {c k : Nat} {f : Nat → Nat → Int} (e : m[lt]? = some (.lst ((List.range k).map fun i => vec c (f i)))) : cmpD .ne m (.lst ((List.range k).map fun i => vec c (f i))) (.ref lt) = some false := by
  have pl7 : ∀ (g : Nat → Int) (l : List Nat), plDs 6 (l.map fun k => D.int (g k)) = true := by
    intro g l
    induction l with
    | nil => simp only [List.map_nil, plDs]
    | cons a l ih => simp only [List.map_cons, plDs, plD, ih, Bool.and_self]
  have pl : ∀ l : List Nat, plDs 7 (l.map fun i => vec c (f i)) = true := by
    intro l
    induction l with
    | nil => simp only [List.map_nil, plDs]
    | cons a l ih =>
      have : plD 7 (vec c (f a)) = true := by
        show plD 7 (.lst ((List.range c).map fun k => D.int (f a k))) = true
        simp only [plD, pl7]
      simp only [List.map_cons, plDs, this, ih, Bool.and_self]
  have es := eq_same (m := m) (a := .lst ((List.range k).map fun i => vec c (f i))) (by simp only [plD, pl])
  have et : toP m 9 (.ref lt) = toP m 9 (.lst ((List.range k).map fun i => vec c (f i))) := by simp only [toP, e]
  show (eqD m (.lst ((List.range k).map fun i => vec c (f i))) (.ref lt)).map not = _
  have e2 : eqD m (.lst ((List.range k).map fun i => vec c (f i))) (.ref lt) = eqD m (.lst ((List.range k).map fun i => vec c (f i))) (.lst ((List.range k).map fun i => vec c (f i))) := by
    simp only [eqD, et]
  rw [e2, es]; rfl
theorem ix_ref {m : Mm} {t c : Nat} {f : Nat → Int} (e : m[t]? = some (.lst ((List.range c).map fun k => .int (f k)))) {x : Nat} (h : x < c) : idxD m (.ref t) (.int (x : Int)) = some (.int (f x)) := by
  simp only [idxD, seqOf, lstOf, e, atI_nat']
  exact get_tab (F := fun k => .int (f k)) h
theorem list_ref {m : Mm} {t c : Nat} {f : Nat → Int} {o : Bool} (hc : c ≤ 1000) (e : m[t]? = some (.lst ((List.range c).map fun k => .int (f k)))) : bltD .list_ o [.ref t] m = mkL o ((List.range c).map fun k => .int (f k)) m := by
  simp only [bltD, seqOf, lstOf, e]
theorem set_0 {m : Mm} {t c : Nat} {f : Nat → Int} {z : D} (hc : 0 < c) (e : m[t]? = some (.lst ((List.range c).map fun k => .int (f k)))) : setID (.ref t) (.int 0) z m = some (m.set t (.lst (((List.range c).map fun k => D.int (f k)).set 0 z))) := by
  have ix : L2.ixN ((List.range c).map fun k => D.int (f k)).length 0 = some 0 := by
    unfold L2.ixN
    rw [if_pos (by decide), List.length_map, List.length_range]
    exact (if_pos (by omega)).trans rfl
  simp only [setID, e, ix]
end K43
namespace K43
open PySem R PT DR PL HP EV
theorem law_runs : LawR pg 12 192 := by
  intro zs hz
  refine ⟨[], ?_⟩
  refine call_run (fd := d_law) rfl rfl rfl (by simp only [nrs, nr, nrs_map (F := D.int) (xs := zs) fun _ _ => rfl, Bool.and_self]) ?_
  show Wp pg (callN pg 11) d_law.body ⟨[some (.scr (zs.map .int)), none, none, none, none, none, none, none, none, none, none, none, none, none, none, none, none, none, none, none, none], []⟩ _
  simp only [d_law, List.map_cons, List.map_nil, List.cons_append, List.nil_append, List.replicate_succ, List.replicate_zero, Nat.reduceSub, List.replicate]
  let q := cq zs
  have hc : 0 < cnt zs := cnt_pos zs
  have h5 : cnt zs ≤ 5 := cnt_le zs
  have hst : stt zs < cnt zs := stt_lt zs
  refine wp_set (ev_call (es_1 (ev_var rfl)) (costs_ok hz 9 _)) ?_
  simp only [List.set_cons_zero, List.set_cons_succ]
  refine wp_set (ev_b1 (ev_idx (ev_var rfl) ev_lit jx1) len_tab) ?_
  simp only [List.set_cons_zero, List.set_cons_succ]
  refine wp_set (ev_b1 (ev_var rfl) (repr_ok zs _)) ?_
  simp only [List.set_cons_zero, List.set_cons_succ]
  -- what is handed over
  refine wp_set (d := .ref 0) (h1 := [.lst ((List.range (cnt zs)).map fun k => .int (stZ zs k))]) (ev_b1 (ev_idx (ev_var rfl) ev_lit jx1) (by
    show bltD .list_ true [.lst ((List.range (cnt zs)).map fun k => D.int (stZ zs k))] [] = _
    simp only [bltD, seqOf, lstOf, mkL, List.length_map, List.length_range, szOk_of (show cnt zs ≤ 16777216 by omega), if_true]
    rfl)) ?_
  simp only [List.set_cons_zero, List.set_cons_succ]
  let rows : List (List D) := (List.range (cnt zs)).map fun i => (List.range (cnt zs)).map fun k => .int (wyZ zs i k)
  have lr : rows.length = cnt zs := by simp [rows]
  let b : Mm := [O.lst ((List.range (cnt zs)).map fun k => .int (stZ zs k))] ++ rows.map O.lst ++ [.lst (rS 1 rows.length)]
  have e5 := lc_copyD (c := callN pg 11) (it := .seq (.idx (.var 1) (.lit (.int 2)))) (sl := [some (.scr (zs.map .int)), some (costD zs), some (.int (cnt zs : Int)), some (.str (costP zs).shown), some (.ref 0), none, none, none, none, none, none, none, none, none, none, none, none, none, none, none, none]) (h := [.lst ((List.range (cnt zs)).map fun k => .int (stZ zs k))]) (h1 := [.lst ((List.range (cnt zs)).map fun k => .int (stZ zs k))]) (j := 20) (S := rows) (by
    rw [evalI, ev_idx (ev_var rfl) ev_lit jx2, Res.bind_ok]
    show Res.ok ((List.range (cnt zs)).map fun i => vec (cnt zs) (wyZ zs i)) _ = _
    simp only [rows, List.map_map]
    rfl) (by simp) (by omega) (by
    intro s hs
    obtain ⟨i, _, rfl⟩ := List.mem_map.mp hs
    simp; omega)
  refine wp_set e5 ?_
  simp only [List.set_cons_zero, List.set_cons_succ]
  have lb : b.length = 2 + cnt zs := by simp [b, lr]; omega
  have B : Bas q b := ⟨lb, rfl, (fun i hi => by
      show ([O.lst ((List.range (cnt zs)).map fun k => .int (stZ zs k))] ++ rows.map O.lst ++ [.lst (rS 1 rows.length)])[1 + i]? = _
      rw [List.getElem?_append_left (by simp [lr]; have : i < cnt zs := hi; omega), List.getElem?_append_right (by simp)]
      simp only [List.length_cons, List.length_nil, Nat.zero_add, Nat.add_sub_cancel_left, rows, List.map_map, List.getElem?_map, List.getElem?_range (show i < cnt zs from hi)]
      rfl), by
      have e : (1 + q.c) = ([O.lst ((List.range (cnt zs)).map fun k => .int (stZ zs k))] ++ rows.map O.lst).length := by
        show 1 + cnt zs = _
        simp [lr]; omega
      rw [e]
      show ([O.lst ((List.range (cnt zs)).map fun k => .int (stZ zs k))] ++ rows.map O.lst ++ [.lst (rS 1 rows.length)])[_]? = _
      rw [get_last, lr]; rfl⟩
  have e6 : ([O.lst ((List.range (cnt zs)).map fun k => .int (stZ zs k))] : Mm).length + rows.length = 1 + cnt zs := by simp [lr]
  have ei := init_ok B 10
  show Wp pg (callN pg 11) _ ⟨[some (.scr (zs.map .int)), some (costD zs), some (.int (cnt zs : Int)), some (.str (costP zs).shown), some (.ref 0), some (.ref (([O.lst ((List.range (cnt zs)).map fun k => .int (stZ zs k))] : Mm).length + rows.length)), none, none, none, none, none, none, none, none, none, none, none, none, none, none, none], b⟩ _
  rw [e6]
  refine wp_set (ev_make (cd := pg.cls.getD 1 default) (xs := [.int (stt zs : Int), .ref 0, .ref (1 + cnt zs)]) (es_3 (ev_idx (ev_var rfl) ev_lit jx0) (ev_var rfl) (ev_var rfl)) rfl ei) ?_
  simp only [List.set_cons_zero, List.set_cons_succ]
  -- what was handed over is changed
  generalize hm4 : b ++ [pO q q.st 0 (b.length + 1) (b.length + 2), O.lst [], O.lst [vec q.c (q.W q.st)]] = m4
  have low : ∀ (i : Nat) (o : O), b[i]? = some o → m4[i]? = some o := fun i o e => by
    rw [← hm4, List.getElem?_append_left (List.getElem?_eq_some_iff.mp e).1]; exact e
  have H4 : Hold m4 [(b.length, pO q q.st 0 (b.length + 1) (b.length + 2)), (b.length + 1, .lst []), (b.length + 2, .lst [vec q.c (q.W q.st)])] := by
    refine ⟨fun x hx => ?_, by simp⟩
    simp only [List.mem_cons, List.not_mem_nil, or_false] at hx
    rw [← hm4]
    rcases hx with rfl | rfl | rfl
    · rw [List.getElem?_append_right (Nat.le_refl _), Nat.sub_self]; rfl
    · rw [List.getElem?_append_right (by omega), Nat.add_sub_cancel_left]; rfl
    · rw [List.getElem?_append_right (by omega), Nat.add_sub_cancel_left]; rfl
  have b0 : m4[0]? = some (.lst ((List.range (cnt zs)).map fun k => .int (stZ zs k))) := low 0 _ B.s
  have b1 : m4[1]? = some (.lst ((List.range (cnt zs)).map fun k => .int (wyZ zs 0 k))) := low 1 _ (B.r 0 hc)
  have bw : m4[1 + cnt zs]? = some (.lst (rS 1 (cnt zs))) := low _ _ B.w
  refine wp_seti (d := .int (stZ zs 0 + 2)) (ev_addI (ev_idx (ev_var rfl) ev_lit (ix_ref (x := 0) b0 hc)) ev_lit) (ev_var rfl) ev_lit (set_0 hc b0) ?_
  generalize hm5 : m4.set 0 (O.lst (((List.range (cnt zs)).map fun k => D.int (stZ zs k)).set 0 (.int (stZ zs 0 + 2)))) = m5
  have b1' : m5[1]? = some (.lst ((List.range (cnt zs)).map fun k => .int (wyZ zs 0 k))) := by rw [← hm5, List.getElem?_set_ne (by decide)]; exact b1
  have bw' : m5[1 + cnt zs]? = some (.lst (rS 1 (cnt zs))) := by rw [← hm5, List.getElem?_set_ne (by omega)]; exact bw
  have H5 : Hold m5 [(b.length, pO q q.st 0 (b.length + 1) (b.length + 2)), (b.length + 1, .lst []), (b.length + 2, .lst [vec q.c (q.W q.st)])] := ⟨fun x hx => by
    have e := H4.1 x hx
    rw [← hm5, List.getElem?_set_ne (by
      simp only [List.mem_cons, List.not_mem_nil, or_false] at hx
      rcases hx with rfl | rfl | rfl <;> show 0 ≠ _ <;> omega)]
    exact e, H4.2⟩
  have r0 : idxD m5 (.ref (1 + cnt zs)) (.int 0) = some (.ref 1) := by
    simp only [idxD, seqOf, lstOf, bw']
    show L2.atI (rS 1 (cnt zs)) ((0 : Nat) : Int) = _
    rw [atI_nat']
    exact get_tab (F := fun k => D.ref (1 + k)) hc
  obtain ⟨c', hc'⟩ : ∃ c', cnt zs = c' + 1 := ⟨cnt zs - 1, by omega⟩
  have rn : idxD m5 (.ref 1) (.int (-1)) = some (.int (wyZ zs 0 c')) := by
    simp only [idxD, seqOf, lstOf, b1']
    rw [hc', map_rng_succ]
    exact atI_last _ _
  have neg1 : ∀ (sl : List (Option D)) (m : Mm), evalE pg (callN pg 11) (.neg (.lit (.int 1))) sl m = .ok (.int (-1)) m := fun sl m => by simp only [evalE, Res.bind_ok, Cn.d]
  have sn : setID (.ref 1) (.int (-1)) (.int (wyZ zs 0 c' + 2)) m5 = some (m5.set 1 (.lst (((List.range (cnt zs)).map fun k => D.int (wyZ zs 0 k)).set c' (.int (wyZ zs 0 c' + 2))))) := by
    have ix : L2.ixN ((List.range (cnt zs)).map fun k => D.int (wyZ zs 0 k)).length (-1) = some c' := by
      unfold L2.ixN
      rw [List.length_map, List.length_range, hc']
      simp
      omega
    simp only [setID, b1', ix]
  refine wp_seti (d := .int (wyZ zs 0 c' + 2)) (ev_addI (ev_idx (ev_idx (ev_var rfl) ev_lit r0) (neg1 _ _) rn) ev_lit) (ev_idx (ev_var rfl) ev_lit r0) (neg1 _ _) sn ?_
  generalize hm6 : m5.set 1 (O.lst (((List.range (cnt zs)).map fun k => D.int (wyZ zs 0 k)).set c' (.int (wyZ zs 0 c' + 2)))) = m6
  have H6 : Hold m6 [(b.length, pO q q.st 0 (b.length + 1) (b.length + 2)), (b.length + 1, .lst []), (b.length + 2, .lst [vec q.c (q.W q.st)])] := ⟨fun x hx => by
    have e := H5.1 x hx
    rw [← hm6, List.getElem?_set_ne (by
      simp only [List.mem_cons, List.not_mem_nil, or_false] at hx
      rcases hx with rfl | rfl | rfl <;> show 1 ≠ _ <;> omega)]
    exact e, H5.2⟩
  generalize b.length = d at H6
  generalize htk : d + 1 = tk at H6
  generalize hwk : d + 2 = wk at H6
  refine wp_set (d := vec (cnt zs) (wyZ zs (stt zs))) (ev_b1 (ev_idx (ev_idx (ev_var rfl) ev_lit jx2) (ev_idx (ev_var rfl) ev_lit jx0) (ix_mat hst)) (list_tab (by omega))) ?_
  simp only [List.set_cons_zero, List.set_cons_succ]
  refine wp_set (ev_idx (ev_var rfl) ev_lit jx0) ?_
  simp only [List.set_cons_zero, List.set_cons_succ]
  refine wp_set ev_lit ?_
  simp only [List.set_cons_zero, List.set_cons_succ]
  refine wp_set (ev_lstO es_nil (by simp)) ?_
  simp only [List.set_cons_zero, List.set_cons_succ]
  have H7 := H6.new (O.lst [])
  generalize m6.length = lt at H7
  generalize m6 ++ [O.lst []] = m7 at H7
  -- tasks
  have lsc : ∀ m : Mm, bltD .len false [.scr (zs.map .int)] m = .ok (.int (zs.length : Int)) m := fun m => by simp only [bltD, seqOf, lstOf, List.length_map]
  let I : Nat → Sx → Prop := fun k s => ∃ (now : Nat) (spent : Int) (x11 x12 x13 x14 x15 x16 x17 x18 x19 x20 : Option D), now < cnt zs ∧ s.sl = [some (.scr (zs.map .int)), some (costD zs), some (.int (cnt zs : Int)), some (.str (costP zs).shown), some (.ref 0), some (.ref (1 + cnt zs)), some (.ref d), some (vec (cnt zs) (Wf q (Tf zs) k)), some (.int (now : Int)), some (.int spent), some (.ref lt), x11, x12, x13, x14, x15, x16, x17, x18, x19, x20] ∧
    Hold s.hp ((d, pO q now spent tk wk) :: (tk, .lst (Tsk q (Tf zs) k)) :: (wk, .lst (Wsk q (Tf zs) k)) :: [(lt, .lst (Tsk q (Tf zs) k))])
  refine wp_for (n := min 40 zs.length) (F := fun k => .int (k : Int)) (h1 := m7) I (it_rng (ev_blt (es_2 ev_lit (ev_b1 (ev_var rfl) (lsc _))) (by
      show Res.ok (D.int (if (zs.length : Int) < 40 then (zs.length : Int) else 40)) m7 = _
      congr 2
      split <;> omega)) (by omega)) ⟨stt zs, 0, none, none, none, none, none, none, none, none, none, none, hst, rfl, H7.perm (by
      refine (List.Perm.swap _ _ _).trans (.cons _ ((List.Perm.swap _ _ _).trans (.cons _ (.swap _ _ _))))) ⟩ ?_ ?_
  · rintro k ⟨sl, g⟩ hk ⟨now, spent, x11, x12, x13, x14, x15, x16, x17, x18, x19, x20, hnow, rfl, H⟩
    refine ⟨[some (.scr (zs.map .int)), some (costD zs), some (.int (cnt zs : Int)), some (.str (costP zs).shown), some (.ref 0), some (.ref (1 + cnt zs)), some (.ref d), some (vec (cnt zs) (Wf q (Tf zs) k)), some (.int (now : Int)), some (.int spent), some (.ref lt), some (.int (k : Int)), x12, x13, x14, x15, x16, x17, x18, x19, x20], rfl, ?_⟩
    have i20 : (20 : Int) + (k : Int) = ((20 + k : Nat) : Int) := by omega
    have dr := draw_ok (p := pg) (i := 188) rfl hz (20 + k) 10 g
    refine wp_set (ev_call (es_2 (ev_call (es_2 (ev_var rfl) (by
      have e := ev_addI (p := pg) (c := callN pg 11) (o := false) (sl := [some (.scr (zs.map .int)), some (costD zs), some (.int (cnt zs : Int)), some (.str (costP zs).shown), some (.ref 0), some (.ref (1 + cnt zs)), some (.ref d), some (vec (cnt zs) (Wf q (Tf zs) k)), some (.int (now : Int)), some (.int spent), some (.ref lt), some (.int (k : Int)), x12, x13, x14, x15, x16, x17, x18, x19, x20]) (h := g) (a := .lit (.int 20)) (b := .var 11) ev_lit (ev_var rfl)
      rw [i20] at e
      exact e)) dr) (ev_var rfl)) (task_ok (drawZ zs (20 + k)) h5 10 g)) ?_
    simp only [List.set_cons_zero, List.set_cons_succ]
    have H1 : Hold (g ++ [O.lst ((List.range (cnt zs)).map fun x => .int (Tf zs k x))]) _ := H.new (O.lst ((List.range (cnt zs)).map fun x => .int (Tf zs k x)))
    show Wp pg (callN pg 11) _ ⟨_, g ++ [O.lst ((List.range (cnt zs)).map fun x => .int (Tf zs k x))]⟩ _
    generalize g.length = ta at H1
    generalize g ++ [O.lst ((List.range (cnt zs)).map fun x => .int (Tf zs k x))] = g1 at H1
    -- the sums
    refine wp_set (d := vec (cnt zs) (sm q (Wf q (Tf zs) k) (Tf zs k) now)) (lc_tab (it_rng (ev_var rfl) (by omega)) (by omega) fun x hx => ⟨_, rfl, ev_addI (ev_addI (ev_idx (ev_var rfl) (ev_var rfl) (ix_vec hx)) (ev_mulI ev_lit (ev_idx (ev_var rfl) (ev_var rfl) (ix_ref H1.head hx)) mulOk_two)) (ev_idx (ev_idx (ev_idx (ev_var rfl) ev_lit jx2) (ev_var rfl) (ix_mat hx)) (ev_var rfl) (ix_vec hnow))⟩) ?_
    simp only [List.set_cons_zero, List.set_cons_succ]
    refine wp_set (ev_var rfl) ?_
    simp only [List.set_cons_zero, List.set_cons_succ]
    refine wp_for (n := cnt zs) (F := fun k => .int (k : Int)) (h1 := g1) (fun j s => ∃ (G : Nat) (y15 : Option D), Ov (cnt zs) now (sm q (Wf q (Tf zs) k) (Tf zs k) now) j G ∧ s = ⟨[some (.scr (zs.map .int)), some (costD zs), some (.int (cnt zs : Int)), some (.str (costP zs).shown), some (.ref 0), some (.ref (1 + cnt zs)), some (.ref d), some (vec (cnt zs) (Wf q (Tf zs) k)), some (.int (now : Int)), some (.int spent), some (.ref lt), some (.int (k : Int)), some (.ref ta), some (vec (cnt zs) (sm q (Wf q (Tf zs) k) (Tf zs k) now)), some (.int (G : Int)), y15, x16, x17, x18, x19, x20], g1⟩) (it_rng (ev_var rfl) (by omega)) ⟨now, x15, .inl ⟨rfl, fun x h => absurd h (by omega)⟩, rfl⟩ ?_ ?_
    · rintro j s hj ⟨G, y15, hG, rfl⟩
      refine ⟨[some (.scr (zs.map .int)), some (costD zs), some (.int (cnt zs : Int)), some (.str (costP zs).shown), some (.ref 0), some (.ref (1 + cnt zs)), some (.ref d), some (vec (cnt zs) (Wf q (Tf zs) k)), some (.int (now : Int)), some (.int spent), some (.ref lt), some (.int (k : Int)), some (.ref ta), some (vec (cnt zs) (sm q (Wf q (Tf zs) k) (Tf zs k) now)), some (.int (G : Int)), some (.int (j : Int)), x16, x17, x18, x19, x20], rfl, ?_⟩
      refine wp_dec _ (ev_cmp (ev_idx (ev_var rfl) (ev_var rfl) (ix_vec hj)) (ev_idx (ev_var rfl) (ev_var rfl) (ix_vec (hG.lt hnow (by omega)))) cm_lt) (fun z => ?_) fun z => ?_
      · exact wp_set (ev_var rfl) (wp_nil (wp_nil ⟨.inl rfl, j, some (.int (j : Int)), hG.yes z, rfl⟩))
      · exact wp_nil (wp_nil ⟨.inl rfl, G, some (.int (j : Int)), hG.no z, rfl⟩)
    rintro s ⟨G, y15, hO, rfl⟩
    have hGl : G < cnt zs := hO.lt hnow (by omega)
    have hGg : G = goal q (Wf q (Tf zs) k) (Tf zs k) now := Ov.goal (q := q) hO hnow
    -- served
    refine wp_set (d := .ref g1.length) (h1 := g1 ++ [O.lst ((List.range (cnt zs)).map fun x => D.int (Tf zs k x))]) (ev_b1 (ev_var rfl) (by
      rw [list_ref (by omega) H1.head]
      simp only [mkL, List.length_map, List.length_range, szOk_of (show cnt zs ≤ 16777216 by omega), if_true])) ?_
    simp only [List.set_cons_zero, List.set_cons_succ]
    have H2 := H1.new (O.lst ((List.range (cnt zs)).map fun x => .int (Tf zs k x)))
    generalize g1.length = gv at H2
    generalize g1 ++ [O.lst ((List.range (cnt zs)).map fun x => D.int (Tf zs k x))] = g2 at H2
    have H2' : Hold g2 ((d, pO q now spent tk wk) :: (tk, .lst (Tsk q (Tf zs) k)) :: (wk, .lst (Wsk q (Tf zs) k)) :: [(lt, .lst (Tsk q (Tf zs) k)), (gv, .lst ((List.range (cnt zs)).map fun x => .int (Tf zs k x))), (ta, .lst ((List.range (cnt zs)).map fun x => .int (Tf zs k x)))]) := Hold.comm (A := [_, _]) H2
    obtain ⟨g3, es, H3⟩ := serve_ok (q := q) (Tf := Tf zs) (k := k) (now := now) (g0 := gv) (by omega) hnow H2' (by exact List.mem_cons_of_mem _ List.mem_cons_self) 9
    rw [← hGg] at es H3
    refine wp_set (EV.ev_meth (x := .ref d) (h1 := g2) (h2 := g2) (C := 1) (cd := pg.cls.getD 1 default) (f := 84) (xs := [.ref gv]) (ev_var rfl) (cl1 H2'.head) rfl rfl (es_1 (ev_var rfl)) es) ?_
    simp only [List.set_cons_zero, List.set_cons_succ]
    have gv3 := H3.tail.tail.tail.tail.head
    refine wp_seti (d := .int (Tf zs k 0 + 3)) (ev_addI (ev_idx (ev_var rfl) ev_lit (ix_ref (x := 0) gv3 hc)) ev_lit) (ev_var rfl) ev_lit (set_0 hc gv3) ?_
    have H4 := Hold.set4 (o' := O.lst (((List.range (cnt zs)).map fun x => D.int (Tf zs k x)).set 0 (.int (Tf zs k 0 + 3)))) H3
    generalize g3.set gv (O.lst (((List.range (cnt zs)).map fun x => D.int (Tf zs k x)).set 0 (.int (Tf zs k 0 + 3)))) = g4 at H4
    have ta4 := H4.tail.tail.tail.tail.tail.head
    refine wp_set (d := .int (spent + (goZ q now G + Tf zs k G))) (h1 := g4) (by
      have e := ev_addI (p := pg) (c := callN pg 11) (o := false) (ev_addI (o := false) (ev_var (i := 9) (sl := [some (.scr (zs.map .int)), some (costD zs), some (.int (cnt zs : Int)), some (.str (costP zs).shown), some (.ref 0), some (.ref (1 + cnt zs)), some (.ref d), some (vec (cnt zs) (Wf q (Tf zs) k)), some (.int (now : Int)), some (.int spent), some (.ref lt), some (.int (k : Int)), some (.ref ta), some (vec (cnt zs) (sm q (Wf q (Tf zs) k) (Tf zs k) now)), some (.int (G : Int)), y15, some (.ref gv), some (.int (G : Int)), x18, x19, x20]) (h := g4) rfl) (ev_call (f := 191) (as := [.var 1, .var 8, .var 14]) (es_3 (ev_var rfl) (ev_var rfl) (ev_var rfl)) (lgo_ok hnow hGl 10 _))) (ev_idx (a := .var 12) (b := .var 14) (ev_var rfl) (ev_var rfl) (ix_ref ta4 hGl))
      rw [Int.add_assoc] at e
      exact e) ?_
    simp only [List.set_cons_zero, List.set_cons_succ]
    refine wp_set (ev_var rfl) ?_
    simp only [List.set_cons_zero, List.set_cons_succ]
    -- the works behind
    refine wp_set (ev_lstO es_nil (by simp)) ?_
    simp only [List.set_cons_zero, List.set_cons_succ]
    have H5 := H4.new (O.lst [])
    generalize g4.length = aw at H5
    generalize g4 ++ [O.lst []] = g5 at H5
    refine wp_for (n := cnt zs) (F := fun k => .int (k : Int)) (h1 := g5) (fun j s => ∃ (y15 y19 : Option D) (m : Mm), s = ⟨[some (.scr (zs.map .int)), some (costD zs), some (.int (cnt zs : Int)), some (.str (costP zs).shown), some (.ref 0), some (.ref (1 + cnt zs)), some (.ref d), some (vec (cnt zs) (Wf q (Tf zs) k)), some (.int (G : Int)), some (.int (spent + (goZ q now G + Tf zs k G))), some (.ref lt), some (.int (k : Int)), some (.ref ta), some (vec (cnt zs) (sm q (Wf q (Tf zs) k) (Tf zs k) now)), some (.int (G : Int)), y15, some (.ref gv), some (.int (G : Int)), some (.ref aw), y19, x20], m⟩ ∧ Hold m ((aw, .lst ((List.range j).map fun x => .int (Wf q (Tf zs) (k + 1) x))) :: (d, pO q G (spent + (goZ q now G + Tf zs k G)) tk wk) :: (tk, .lst (Tsk q (Tf zs) (k + 1))) :: (wk, .lst (Wsk q (Tf zs) (k + 1))) :: [(lt, .lst (Tsk q (Tf zs) k)), (gv, .lst (((List.range (cnt zs)).map fun x => D.int (Tf zs k x)).set 0 (.int (Tf zs k 0 + 3)))), (ta, .lst ((List.range (cnt zs)).map fun x => .int (Tf zs k x)))])) (it_rng (ev_var rfl) (by omega)) ⟨y15, x19, g5, rfl, H5⟩ ?_ ?_
    · rintro j s hj ⟨z15, z19, m, rfl, Hm⟩
      refine ⟨[some (.scr (zs.map .int)), some (costD zs), some (.int (cnt zs : Int)), some (.str (costP zs).shown), some (.ref 0), some (.ref (1 + cnt zs)), some (.ref d), some (vec (cnt zs) (Wf q (Tf zs) k)), some (.int (G : Int)), some (.int (spent + (goZ q now G + Tf zs k G))), some (.ref lt), some (.int (k : Int)), some (.ref ta), some (vec (cnt zs) (sm q (Wf q (Tf zs) k) (Tf zs k) now)), some (.int (G : Int)), z15, some (.ref gv), some (.int (G : Int)), some (.ref aw), some (.int (j : Int)), x20], rfl, ?_⟩
      have tam := Hm.tail.tail.tail.tail.tail.tail.head
      have es : evalE pg (callN pg 11) (.lc false (.bin .add false (.bin .add false (.idx (.var 7) (.var 15)) (.bin .mul false (.lit (.int 2)) (.idx (.var 12) (.var 15)))) (.idx (.idx (.idx (.var 1) (.lit (.int 2))) (.var 15)) (.var 19))) (.nm 15) (.rng1 (.var 2)) none [15]) [some (.scr (zs.map .int)), some (costD zs), some (.int (cnt zs : Int)), some (.str (costP zs).shown), some (.ref 0), some (.ref (1 + cnt zs)), some (.ref d), some (vec (cnt zs) (Wf q (Tf zs) k)), some (.int (G : Int)), some (.int (spent + (goZ q now G + Tf zs k G))), some (.ref lt), some (.int (k : Int)), some (.ref ta), some (vec (cnt zs) (sm q (Wf q (Tf zs) k) (Tf zs k) now)), some (.int (G : Int)), z15, some (.ref gv), some (.int (G : Int)), some (.ref aw), some (.int (j : Int)), x20] m = .ok (vec (cnt zs) fun x => Wf q (Tf zs) k x + 2 * Tf zs k x + wyZ zs x j) m :=
        lc_tab (it_rng (ev_var rfl) (by omega)) (by omega) fun x hx => ⟨_, rfl, ev_addI (ev_addI (ev_idx (ev_var rfl) (ev_var rfl) (ix_vec hx)) (ev_mulI ev_lit (ev_idx (ev_var rfl) (ev_var rfl) (ix_ref tam hx)) mulOk_two)) (ev_idx (ev_idx (ev_idx (ev_var rfl) ev_lit jx2) (ev_var rfl) (ix_mat hx)) (ev_var rfl) (ix_vec hj))⟩
      have ap : bmD .append false (.ref aw) [.int (mn (cnt zs) fun x => Wf q (Tf zs) k x + 2 * Tf zs k x + wyZ zs x j)] m = .ok .non (m.set aw (.lst ((List.range (j + 1)).map fun x => .int (Wf q (Tf zs) (k + 1) x)))) := by
        have z : szOk (((List.range j).map fun x => D.int (Wf q (Tf zs) (k + 1) x)).length + 1) = true := szOk_of (by rw [List.length_map, List.length_range]; omega)
        simp only [bmD, Hm.head, z, if_true]
        rw [map_rng_succ]
        rfl
      refine wp_ex (ev_bm (ev_var rfl) (by simp only [bmTy, lstOf, Hm.head]; rfl) (es_1 (ev_b1 es (min1_vec hc))) ap) (wp_nil ⟨.inl rfl, _, _, _, rfl, Hold.set0 Hm⟩)
    rintro s ⟨z15, z19, m, rfl, Hm⟩
    refine wp_frzv rfl (frz_ref Hm.head (nrs_map fun _ _ => rfl)) ?_
    simp only [List.set_cons_zero, List.set_cons_succ]
    have H6 := (Hold.set0 (o' := O.dead) Hm).tail
    generalize m.set aw .dead = g6 at H6
    refine wp_set (d := vec (cnt zs) (Wf q (Tf zs) (k + 1))) (ev_var rfl) ?_
    simp only [List.set_cons_zero, List.set_cons_succ]
    have lt6 := H6.tail.tail.tail.head
    have ta6 := H6.tail.tail.tail.tail.tail.head
    have ap2 : bmD .append false (.ref lt) [vec (cnt zs) (Tf zs k)] g6 = .ok .non (g6.set lt (.lst (Tsk q (Tf zs) (k + 1)))) := by
      have z : szOk ((Tsk q (Tf zs) k).length + 1) = true := szOk_of (by rw [List.length_map, List.length_range]; omega)
      simp only [bmD, lt6, z, if_true]
      rw [show Tsk q (Tf zs) (k + 1) = Tsk q (Tf zs) k ++ [vec q.c (Tf zs k)] from map_rng_succ _ _]
      rfl
    refine wp_ex (ev_bm (ev_var rfl) (by simp only [bmTy, lstOf, lt6]; rfl) (es_1 (ev_b1 (ev_var rfl) (by
      rw [list_ref (by omega) ta6]
      simp only [mkL, List.length_map, List.length_range, szOk_of (show cnt zs ≤ 16777216 by omega), if_true, Bool.false_eq_true, if_false]
      rfl))) ap2) ?_
    have H7 := Hold.set3 (o' := O.lst (Tsk q (Tf zs) (k + 1))) H6
    generalize g6.set lt (.lst (Tsk q (Tf zs) (k + 1))) = g7 at H7
    have ta7 := H7.tail.tail.tail.tail.tail.head
    refine wp_seti (d := .int (Tf zs k 0 + 5)) (ev_addI (ev_idx (ev_var rfl) ev_lit (ix_ref (x := 0) ta7 hc)) ev_lit) (ev_var rfl) ev_lit (set_0 hc ta7) ?_
    have H8 : Hold (g7.set ta (O.lst (((List.range (cnt zs)).map fun x => D.int (Tf zs k x)).set 0 (.int (Tf zs k 0 + 5))))) _ := Hold.set (A := [_, _, _, _, _]) H7
    generalize g7.set ta (O.lst (((List.range (cnt zs)).map fun x => D.int (Tf zs k x)).set 0 (.int (Tf zs k 0 + 5)))) = g8 at H8
    have H9 : Hold g8 ((d, pO q G (spent + (goZ q now G + Tf zs k G)) tk wk) :: (tk, .lst (Tsk q (Tf zs) (k + 1))) :: (wk, .lst (Wsk q (Tf zs) (k + 1))) :: [(lt, .lst (Tsk q (Tf zs) (k + 1)))]) := Hold.left (A := [_, _, _, _]) (B := [_, _]) H8
    have il : idxD g8 (.ref wk) (.int (-1)) = some (vec (cnt zs) (Wf q (Tf zs) (k + 1))) := by
      simp only [idxD, seqOf, lstOf, H9.tail.tail.head]
      rw [show Wsk q (Tf zs) (k + 1) = ((List.range (k + 1)).map fun i => vec q.c (Wf q (Tf zs) i)) ++ [vec q.c (Wf q (Tf zs) (k + 1))] from map_rng_succ _ _]
      exact atI_last _ _
    refine wp_else (h1 := g8) (x := .bl false) (ev_bopN (ev_cmp (ev_var rfl) (ev_var rfl) ne_i) rfl rfl (ev_bopN (ev_cmp (ev_fld (ev_var rfl) (f7 H9.head)) (ev_var rfl) ne_i) rfl rfl (ev_bopN (ev_cmp (ev_fld (ev_var rfl) (f8 H9.head)) (ev_var rfl) ne_i) rfl rfl (ev_bop1 (ev_cmp (ev_idx (ev_fld (ev_var rfl) (f10 H9.head)) (neg1 _ _) il) (ev_var rfl) eq_vec))))) rfl (wp_nil (wp_nil ⟨.inl rfl, G, _, _, _, _, _, _, _, _, _, _, _, hGl, rfl, H9⟩))
  rintro ⟨sl, g⟩ ⟨now, spent, x11, x12, x13, x14, x15, x16, x17, x18, x19, x20, hnow, rfl, H⟩
  have hN : min 40 zs.length ≤ 40 := by omega
  generalize min 40 zs.length = N at H hN
  have HL : Hold (g.set tk (.llst (Tsk q (Tf zs) N))) ((d, pO q now spent tk wk) :: (tk, .llst (Tsk q (Tf zs) N)) :: (wk, .lst (Wsk q (Tf zs) N)) :: [(lt, .lst (Tsk q (Tf zs) N))]) := Hold.set1 H
  have it : evalI pg (callN pg 11) (.seq (.fld (.var 6) 9)) [some (.scr (zs.map .int)), some (costD zs), some (.int (cnt zs : Int)), some (.str (costP zs).shown), some (.ref 0), some (.ref (1 + cnt zs)), some (.ref d), some (vec (cnt zs) (Wf q (Tf zs) N)), some (.int (now : Int)), some (.int spent), some (.ref lt), x11, x12, x13, x14, x15, x16, x17, x18, x19, x20] (g.set tk (.llst (Tsk q (Tf zs) N))) = .ok ((List.range N).map fun i => vec (cnt zs) (Tf zs i)) (g.set tk (.llst (Tsk q (Tf zs) N))) := by
    rw [evalI, ev_fld (ev_var rfl) (f9 HL.head), Res.bind_ok]
    simp only [HL.tail.head]
    rfl
  have lc := lc_list (obj := false) (elt := .blt .list_ false [(.var 12)]) (g := .nm 12) (own := [12]) (G := fun i => vec (cnt zs) (Tf zs i)) it (by simp; omega) fun i hi => ⟨_, rfl, ev_b1 (ev_var rfl) (list_tab (by omega))⟩
  have lk := ev_lk (o := .fld (.var 6) 9) (ev_fld (ev_var rfl) (f9 H.head)) H.tail.head lc HL.tail.head
  rw [List.set_set, PH.set_at H.tail.head] at lk
  have n2 : cmpD .ne g (.int ((N + 1 : Nat) : Int)) (.int ((N : Int) + 1)) = some false := ne_i (z := (N : Int) + 1)
  have l1 : ∀ sl : List (Option D), sl[6]? = some (some (.ref d)) → evalE pg (callN pg 11) (.blt .len false [(.fld (.var 6) 10)]) sl g = .ok (.int ((N + 1 : Nat) : Int)) g := fun sl h => ev_b1 (ev_fld (ev_var h) (f10 H.head)) (by
    simp only [bltD, seqOf, lstOf, H.tail.tail.head, List.length_map, List.length_range])
  have l2 : ∀ sl : List (Option D), sl[10]? = some (some (.ref lt)) → evalE pg (callN pg 11) (.blt .len false [(.var 10)]) sl g = .ok (.int (N : Int)) g := fun sl h => ev_b1 (ev_var h) (by
    simp only [bltD, seqOf, lstOf, H.tail.tail.tail.head, List.length_map, List.length_range])
  refine wp_else (h1 := g) (x := .bl false) (ev_bopN (ev_cmp lk (ev_var rfl) (ne_mat H.tail.tail.tail.head)) rfl rfl (ev_bop1 (ev_cmp (l1 _ rfl) (ev_addI (l2 _ rfl) ev_lit) n2))) rfl (wp_nil ?_)
  have w0 : idxD g (.ref wk) (.int 0) = some (vec (cnt zs) (wyZ zs (stt zs))) := by
    simp only [idxD, seqOf, lstOf, H.tail.tail.head]
    show L2.atI (Wsk q (Tf zs) N) ((0 : Nat) : Int) = _
    rw [atI_nat']
    exact get_tab (F := fun i => vec q.c (Wf q (Tf zs) i)) (Nat.succ_pos N)
  have es : cmpD .eq g (.str (costP zs).shown) (.str (costP zs).shown) = some true := PH.eq_str
  exact wp_ret (ev_and (r := true) (s := true) (ev_cmp (ev_b1 (ev_var rfl) (repr_ok zs _)) (ev_var rfl) es) (ev_cmp (ev_idx (ev_fld (ev_var rfl) (f10 H.head)) ev_lit w0) (ev_idx (ev_idx (ev_var rfl) ev_lit jx2) (ev_idx (ev_var rfl) ev_lit jx0) (ix_mat hst)) eq_vecE)) ⟨_, rfl, rsv9 rfl⟩
end K43
namespace K43
open PySem PySem.Spec PyProof.Rows L2 R
def cf : Cf := ⟨[none, none, none, none, none, none, none, none, none, none, none, none, none, none, none, none, none, none, none, none, none, none, none, none, none, none, none, none, none, none, none, none, none, none, none, none, none, none, none, none, none, none, none, none, none, none, none, none, none, none, none, none, none, none, none, none, none, none, none, none, none, none, none, none, none, none, none, none, none, none, none, none, none, none, none, none, none, none, none, none, some ("next_works" : Str), some ("first_least" : Str), none, none, none, none, none, none, none, none, none, none, none, none, none, none, none, none, none, none, none, none, none, none, none, none, none, none, none, none, none, none, none, none, none, none, none, none, none, none, none, none, none, none, none, none, none, none, none, none, none, none, none, none, none, none, none, none, none, none, none, none, none, none, none, none, none, none, none, none, none, none, none, none, none, none, none, none, none, none, none, none, none, none, none, none, none, none, none, none, none, none, none, none, none, none, none, none, none, none, none, none, none, none, none, none, none, none, some ("_law_draw" : Str), some ("_law_costs" : Str), some ("_law_task" : Str), some ("_law_going" : Str), some ("law" : Str)], [none, some ("Policy" : Str)], [("_put" : Str), ("_take" : Str), ("_order_facts" : Str), ("all_items" : Str), ("has" : Str), ("copy" : Str), ("change" : Str), ("same_schema" : Str), ("read_byte" : Str), ("read_choice" : Str), ("end" : Str), ("read_number" : Str), ("read_integer" : Str), ("read_count" : Str), ("read_character" : Str), ("read_string" : Str), ("read_names" : Str), ("read_value" : Str), ("read_row" : Str), ("read_item" : Str), ("read_change" : Str), ("read_changes" : Str), ("read_image" : Str), ("going" : Str), ("serve" : Str), ("hindsight" : Str), ("paper" : Str), ("new_turn" : Str), ("write_all" : Str), ("write_new" : Str), ("can_hold" : Str), ("fits" : Str), ("commit" : Str), ("go_back" : Str), ("take" : Str), ("_run" : Str), ("own" : Str), ("say" : Str), ("savepoint" : Str), ("rollback_to" : Str), ("again" : Str), ("all_calls" : Str), ("check_open" : Str), ("state" : Str), ("_shape" : Str), ("_write" : Str), ("_whole" : Str), ("_write_all" : Str), ("_begin_phase" : Str), ("_move" : Str), ("_serve" : Str), ("_restart" : Str), ("read_call" : Str), ("commit_call" : Str), ("_commit_schema" : Str), ("session" : Str), ("status" : Str), ("run" : Str), ("begin" : Str), ("_open_words" : Str), ("rollback" : Str), ("size" : Str), ("read" : Str), ("pending" : Str), ("counts" : Str), ("note_reads" : Str), ("lose_power" : Str), ("operate" : Str), ("write" : Str), ("sync" : Str), ("fail_after" : Str), ("power" : Str), ("is_on" : Str), ("losses" : Str)], [("relations" : Str), ("facts" : Str), ("structures" : Str), ("layouts" : Str), ("start" : Str), ("stands" : Str), ("ways" : Str), ("now" : Str), ("spent" : Str), ("tasks" : Str), ("works" : Str)], [], [], none⟩
def top (i : Nat) : Stmt := PySem.Challenge.pw_turnshelves_k43_policy_serves_by_works.main.body.getD i (.Pass ⟨0, 0, 0, 0⟩)
abbrev s_next_works : Stmt := top 2
theorem sc_next_works : FnScope ["works", "task", "ways", "count", "served", "x", "s"] ["works", "task", "ways"] (defScope s_next_works) := ⟨rfl, rfl, rfl, by decide +kernel, rfl, by decide +kernel, by decide +kernel⟩
theorem m_next_works : mSs pg cf ["works", "task", "ways", "count", "served", "x", "s"] (defScope s_next_works) (fun _ => true) PT.d_next_works.body (defBody s_next_works) = true := by decide +kernel
abbrev s_first_least : Stmt := top 3
theorem sc_first_least : FnScope ["sums"] ["sums"] (defScope s_first_least) := ⟨rfl, rfl, rfl, by decide +kernel, rfl, by decide +kernel, by decide +kernel⟩
theorem m_first_least : mSs pg cf ["sums"] (defScope s_first_least) (fun _ => true) PT.d_first_least.body (defBody s_first_least) = true := by decide +kernel
abbrev s_Policy___init__ : Stmt := inClass (top 4) 0
theorem sc_Policy___init__ : FnScope ["self", "start", "stands", "ways", "row"] ["self", "start", "stands", "ways"] (defScope s_Policy___init__) := ⟨rfl, rfl, rfl, by decide +kernel, rfl, by decide +kernel, by decide +kernel⟩
theorem m_Policy___init__ : mSs pg cf ["self", "start", "stands", "ways", "row"] (defScope s_Policy___init__) (fun _ => true) PT.d_Policy___init__.body (defBody s_Policy___init__) = true := by decide +kernel
abbrev s_Policy_going : Stmt := inClass (top 4) 1
theorem sc_Policy_going : FnScope ["self", "first", "second"] ["self", "first", "second"] (defScope s_Policy_going) := ⟨rfl, rfl, rfl, by decide +kernel, rfl, by decide +kernel, by decide +kernel⟩
theorem m_Policy_going : mSs pg cf ["self", "first", "second"] (defScope s_Policy_going) (fun _ => true) PT.d_Policy_going.body (defBody s_Policy_going) = true := by decide +kernel
abbrev s_Policy_serve : Stmt := inClass (top 4) 2
theorem sc_Policy_serve : FnScope ["self", "task", "works", "count", "sums", "goal", "x"] ["self", "task"] (defScope s_Policy_serve) := ⟨rfl, rfl, rfl, by decide +kernel, rfl, by decide +kernel, by decide +kernel⟩
theorem m_Policy_serve : mSs pg cf ["self", "task", "works", "count", "sums", "goal", "x"] (defScope s_Policy_serve) (fun _ => true) PT.d_Policy_serve.body (defBody s_Policy_serve) = true := by decide +kernel
abbrev s__law_draw : Stmt := top 6
theorem sc__law_draw : FnScope ["_law_script", "_law_k", "_law_cell", "_law_turn", "_law_step"] ["_law_script", "_law_k"] (defScope s__law_draw) := ⟨rfl, rfl, rfl, by decide +kernel, rfl, by decide +kernel, by decide +kernel⟩
theorem m__law_draw : mSs pg cf ["_law_script", "_law_k", "_law_cell", "_law_turn", "_law_step"] (defScope s__law_draw) (fun _ => true) d__law_draw.body (defBody s__law_draw) = true := by decide +kernel
abbrev s__law_costs : Stmt := top 7
theorem sc__law_costs : FnScope ["_law_script", "_law_count", "_law_sizes", "_law_layouts", "_law_k", "_law_stands", "_law_ways", "_law_first", "_law_number", "_law_row", "_law_second", "_law_layout", "_law_size", "_law_bit"] ["_law_script"] (defScope s__law_costs) := ⟨rfl, rfl, rfl, by decide +kernel, rfl, by decide +kernel, by decide +kernel⟩
theorem m__law_costs : mSs pg cf ["_law_script", "_law_count", "_law_sizes", "_law_layouts", "_law_k", "_law_stands", "_law_ways", "_law_first", "_law_number", "_law_row", "_law_second", "_law_layout", "_law_size", "_law_bit"] (defScope s__law_costs) (fun _ => true) d__law_costs.body (defBody s__law_costs) = true := by decide +kernel
abbrev s__law_task : Stmt := top 8
theorem sc__law_task : FnScope ["_law_number", "_law_count", "_law_k"] ["_law_number", "_law_count"] (defScope s__law_task) := ⟨rfl, rfl, rfl, by decide +kernel, rfl, by decide +kernel, by decide +kernel⟩
theorem m__law_task : mSs pg cf ["_law_number", "_law_count", "_law_k"] (defScope s__law_task) (fun _ => true) d__law_task.body (defBody s__law_task) = true := by decide +kernel
abbrev s__law_going : Stmt := top 9
theorem sc__law_going : FnScope ["_law_costs_here", "_law_first", "_law_second"] ["_law_costs_here", "_law_first", "_law_second"] (defScope s__law_going) := ⟨rfl, rfl, rfl, by decide +kernel, rfl, by decide +kernel, by decide +kernel⟩
theorem m__law_going : mSs pg cf ["_law_costs_here", "_law_first", "_law_second"] (defScope s__law_going) (fun _ => true) d__law_going.body (defBody s__law_going) = true := by decide +kernel
abbrev s_law : Stmt := top 10
theorem sc_law : FnScope ["_law_script", "_law_costs_here", "_law_count", "_law_passed", "_law_given_stands", "_law_given_ways", "_law_policy", "_law_works", "_law_now", "_law_spent", "_law_tasks", "_law_k", "_law_task_here", "_law_sums", "_law_goal", "_law_x", "_law_given", "_law_told", "_law_after", "_law_s", "_law_row"] ["_law_script"] (defScope s_law) := ⟨rfl, rfl, rfl, by decide +kernel, rfl, by decide +kernel, by decide +kernel⟩
theorem m_law : mSs pg cf ["_law_script", "_law_costs_here", "_law_count", "_law_passed", "_law_given_stands", "_law_given_ways", "_law_policy", "_law_works", "_law_now", "_law_spent", "_law_tasks", "_law_k", "_law_task_here", "_law_sums", "_law_goal", "_law_x", "_law_given", "_law_told", "_law_after", "_law_s", "_law_row"] (defScope s_law) (fun _ => true) d_law.body (defBody s_law) = true := by decide +kernel
set_option maxHeartbeats 0 in
theorem all_mk {K : PySem.W.Frag} {h : Heap} {mg : Str → Option Value} {fa C1 f80 f81 f82 f83 f84 f188 f189 f190 f191 f192  : Addr} (X : K.In h) (G : h.Ns mainGlobals mg) (hfa : mg "law" = some (.ref fa)) {od80 an80 od81 an81 od82 an82 od83 an83 od84 an84 od188 an188 od189 an189 od190 an190 od191 an191 od192 an192 : Option Addr} {sl80 sl81 sl82 sl83 sl84 sl188 sl189 sl190 sl191 sl192 : Array (Option Value)} {oc80 kV80 dc80 pm80 cd80 ct80 oc81 kV81 dc81 pm81 cd81 ct81 oc82 kV82 dc82 pm82 cd82 ct82 oc83 kV83 dc83 pm83 cd83 ct83 oc84 kV84 dc84 pm84 cd84 ct84 oc188 kV188 dc188 pm188 cd188 ct188 oc189 kV189 dc189 pm189 cd189 ct189 oc190 kV190 dc190 pm190 cd190 ct190 oc191 kV191 dc191 pm191 cd191 ct191 oc192 kV192 dc192 pm192 cd192 ct192 : Value}  
    (aC1 : PySem.W.nsIn K mainGlobals "Policy" = some (some (.ref C1)))
    (pg1 : PySem.W.plainGet K C1 Str.empty = true)
    (hd1 : PySem.W.hasDictIn K C1 = true)
    (po1 : PySem.W.plainOver K C1 = true)
    (sa1 : PySem.W.findIn K (.ref C1) "__setattr__" = some (some (.builtin "object.__setattr__")))
    (mk1 : PySem.W.makesIn K C1 = true)
    (kc1 : PySem.W.keepIn K (.ref C1) = true)
    (n1_0 : PySem.W.findIn K (.ref C1) "relations" = some none)
    (n1_1 : PySem.W.findIn K (.ref C1) "facts" = some none)
    (n1_2 : PySem.W.findIn K (.ref C1) "structures" = some none)
    (n1_3 : PySem.W.findIn K (.ref C1) "layouts" = some none)
    (n1_4 : PySem.W.findIn K (.ref C1) "start" = some none)
    (n1_5 : PySem.W.findIn K (.ref C1) "stands" = some none)
    (n1_6 : PySem.W.findIn K (.ref C1) "ways" = some none)
    (n1_7 : PySem.W.findIn K (.ref C1) "now" = some none)
    (n1_8 : PySem.W.findIn K (.ref C1) "spent" = some none)
    (n1_9 : PySem.W.findIn K (.ref C1) "tasks" = some none)
    (n1_10 : PySem.W.findIn K (.ref C1) "works" = some none)
    (a80 : PySem.W.nsIn K mainGlobals "next_works" = some (some (.ref f80)))
    (l80 : K.lookup f80 = some ⟨oc80, od80, .func (PySem.W.fnOf "next_works" "next_works" (defArgs s_next_works) (defBody s_next_works) (defScope s_next_works) .none kV80 dc80 pm80 an80 cd80 ct80), sl80⟩)
    (c80 : PySem.W.codeIn K cd80 "next_works" = true)
    (k80 : PySem.W.keepIn K (.ref f80) = true)
    (a81 : PySem.W.nsIn K mainGlobals "first_least" = some (some (.ref f81)))
    (l81 : K.lookup f81 = some ⟨oc81, od81, .func (PySem.W.fnOf "first_least" "first_least" (defArgs s_first_least) (defBody s_first_least) (defScope s_first_least) .none kV81 dc81 pm81 an81 cd81 ct81), sl81⟩)
    (c81 : PySem.W.codeIn K cd81 "first_least" = true)
    (k81 : PySem.W.keepIn K (.ref f81) = true)
    (a82 : PySem.W.findIn K (.ref C1) "__init__" = some (some (.ref f82)))
    (i82 : PySem.W.isFn K (.ref f82) = true)
    (l82 : K.lookup f82 = some ⟨oc82, od82, .func (PySem.W.fnOf "__init__" "Policy.__init__" (defArgs s_Policy___init__) (defBody s_Policy___init__) (defScope s_Policy___init__) .none kV82 dc82 pm82 an82 cd82 ct82), sl82⟩)
    (c82 : PySem.W.codeIn K cd82 "Policy.__init__" = true)
    (k82 : PySem.W.keepIn K (.ref f82) = true)
    (a83 : PySem.W.findIn K (.ref C1) "going" = some (some (.ref f83)))
    (i83 : PySem.W.isFn K (.ref f83) = true)
    (l83 : K.lookup f83 = some ⟨oc83, od83, .func (PySem.W.fnOf "going" "Policy.going" (defArgs s_Policy_going) (defBody s_Policy_going) (defScope s_Policy_going) .none kV83 dc83 pm83 an83 cd83 ct83), sl83⟩)
    (c83 : PySem.W.codeIn K cd83 "Policy.going" = true)
    (k83 : PySem.W.keepIn K (.ref f83) = true)
    (a84 : PySem.W.findIn K (.ref C1) "serve" = some (some (.ref f84)))
    (i84 : PySem.W.isFn K (.ref f84) = true)
    (l84 : K.lookup f84 = some ⟨oc84, od84, .func (PySem.W.fnOf "serve" "Policy.serve" (defArgs s_Policy_serve) (defBody s_Policy_serve) (defScope s_Policy_serve) .none kV84 dc84 pm84 an84 cd84 ct84), sl84⟩)
    (c84 : PySem.W.codeIn K cd84 "Policy.serve" = true)
    (k84 : PySem.W.keepIn K (.ref f84) = true)
    (a188 : PySem.W.nsIn K mainGlobals "_law_draw" = some (some (.ref f188)))
    (l188 : K.lookup f188 = some ⟨oc188, od188, .func (PySem.W.fnOf "_law_draw" "_law_draw" (defArgs s__law_draw) (defBody s__law_draw) (defScope s__law_draw) .none kV188 dc188 pm188 an188 cd188 ct188), sl188⟩)
    (c188 : PySem.W.codeIn K cd188 "_law_draw" = true)
    (k188 : PySem.W.keepIn K (.ref f188) = true)
    (a189 : PySem.W.nsIn K mainGlobals "_law_costs" = some (some (.ref f189)))
    (l189 : K.lookup f189 = some ⟨oc189, od189, .func (PySem.W.fnOf "_law_costs" "_law_costs" (defArgs s__law_costs) (defBody s__law_costs) (defScope s__law_costs) .none kV189 dc189 pm189 an189 cd189 ct189), sl189⟩)
    (c189 : PySem.W.codeIn K cd189 "_law_costs" = true)
    (k189 : PySem.W.keepIn K (.ref f189) = true)
    (a190 : PySem.W.nsIn K mainGlobals "_law_task" = some (some (.ref f190)))
    (l190 : K.lookup f190 = some ⟨oc190, od190, .func (PySem.W.fnOf "_law_task" "_law_task" (defArgs s__law_task) (defBody s__law_task) (defScope s__law_task) .none kV190 dc190 pm190 an190 cd190 ct190), sl190⟩)
    (c190 : PySem.W.codeIn K cd190 "_law_task" = true)
    (k190 : PySem.W.keepIn K (.ref f190) = true)
    (a191 : PySem.W.nsIn K mainGlobals "_law_going" = some (some (.ref f191)))
    (l191 : K.lookup f191 = some ⟨oc191, od191, .func (PySem.W.fnOf "_law_going" "_law_going" (defArgs s__law_going) (defBody s__law_going) (defScope s__law_going) .none kV191 dc191 pm191 an191 cd191 ct191), sl191⟩)
    (c191 : PySem.W.codeIn K cd191 "_law_going" = true)
    (k191 : PySem.W.keepIn K (.ref f191) = true)
    (a192 : PySem.W.nsIn K mainGlobals "law" = some (some (.ref f192)))
    (l192 : K.lookup f192 = some ⟨oc192, od192, .func (PySem.W.fnOf "law" "law" (defArgs s_law) (defBody s_law) (defScope s_law) .none kV192 dc192 pm192 an192 cd192 ct192), sl192⟩)
    (c192 : PySem.W.codeIn K cd192 "law" = true)
    (k192 : PySem.W.keepIn K (.ref f192) = true)
    (z0 : PySem.W.nsIn K mainGlobals "len" = some none)
    (z1 : PySem.W.nsIn K mainGlobals "int" = some none)
    (z2 : PySem.W.nsIn K mainGlobals "abs" = some none)
    (z3 : PySem.W.nsIn K mainGlobals "min" = some none)
    (z4 : PySem.W.nsIn K mainGlobals "max" = some none)
    (z5 : PySem.W.nsIn K mainGlobals "sum" = some none)
    (z6 : PySem.W.nsIn K mainGlobals "list" = some none)
    (z7 : PySem.W.nsIn K mainGlobals "tuple" = some none)
    (z8 : PySem.W.nsIn K mainGlobals "str" = some none)
    (z9 : PySem.W.nsIn K mainGlobals "ord" = some none)
    (z10 : PySem.W.nsIn K mainGlobals "repr" = some none)
    (z11 : PySem.W.nsIn K mainGlobals "range" = some none)
    (z12 : PySem.W.nsIn K mainGlobals "zip" = some none)
    (z13 : PySem.W.nsIn K mainGlobals "enumerate" = some none)
    (z14 : PySem.W.nsIn K mainGlobals "isinstance" = some none)
    (z15 : PySem.W.nsIn K mainGlobals "bool" = some none)
    (z16 : PySem.W.nsIn K mainGlobals "any" = some none)
    (z17 : PySem.W.nsIn K mainGlobals "sorted" = some none)
    (z18 : PySem.W.nsIn K mainGlobals "dict" = some none)
    (z19 : PySem.W.nsIn K mainGlobals "ValueError" = some none)
    : ∃ (fd : FuncData) (cad xad : Nat → Addr), (∀ (s : Shared) (u : Value), BindsTo s fd ⟨[u], []⟩ [("_law_script", u)]) ∧ DefX pg cf K 192 fa fd ["_law_script"] ∧ RowOk K mg pg cf cad xad := by
  have e := hfa.symm.trans (PySem.W.mg_of X G a192)
  cases e
  have F80 := fun_mk (st := s_next_works) l80 c80 k80
  have D80 : DefX pg cf K 80 f80 _ ["works", "task", "ways"] := ⟨⟨PT.d_next_works, _, _, s_next_works, _, rfl, .inl F80, sc_next_works, rfl, rfl, m_next_works⟩, F80.binds (ps := ["works", "task", "ways"]) fun _ _ _ _ _ _ us hl => match us, hl with | [_, _, _], _ => rfl⟩
  have F81 := fun_mk (st := s_first_least) l81 c81 k81
  have D81 : DefX pg cf K 81 f81 _ ["sums"] := ⟨⟨PT.d_first_least, _, _, s_first_least, _, rfl, .inl F81, sc_first_least, rfl, rfl, m_first_least⟩, F81.binds (ps := ["sums"]) fun _ _ _ _ _ _ us hl => match us, hl with | [_], _ => rfl⟩
  have F82 := fun_mk (st := s_Policy___init__) l82 c82 k82
  have D82 : DefX pg cf K 82 f82 _ ["self", "start", "stands", "ways"] := ⟨⟨PT.d_Policy___init__, _, _, s_Policy___init__, _, rfl, .inl F82, sc_Policy___init__, rfl, rfl, m_Policy___init__⟩, F82.binds (ps := ["self", "start", "stands", "ways"]) fun _ _ _ _ _ _ us hl => match us, hl with | [_, _, _, _], _ => rfl⟩
  have E82 := Exists.intro (p := fun ds => Binds K _ _ ds ∧ Paired (CnOk K) [] ds) [] ⟨D82.bd, .nil⟩
  have F83 := fun_mk (st := s_Policy_going) l83 c83 k83
  have D83 : DefX pg cf K 83 f83 _ ["self", "first", "second"] := ⟨⟨PT.d_Policy_going, _, _, s_Policy_going, _, rfl, .inl F83, sc_Policy_going, rfl, rfl, m_Policy_going⟩, F83.binds (ps := ["self", "first", "second"]) fun _ _ _ _ _ _ us hl => match us, hl with | [_, _, _], _ => rfl⟩
  have F84 := fun_mk (st := s_Policy_serve) l84 c84 k84
  have D84 : DefX pg cf K 84 f84 _ ["self", "task"] := ⟨⟨PT.d_Policy_serve, _, _, s_Policy_serve, _, rfl, .inl F84, sc_Policy_serve, rfl, rfl, m_Policy_serve⟩, F84.binds (ps := ["self", "task"]) fun _ _ _ _ _ _ us hl => match us, hl with | [_, _], _ => rfl⟩
  have F188 := fun_mk (st := s__law_draw) l188 c188 k188
  have D188 : DefX pg cf K 188 f188 _ ["_law_script", "_law_k"] := ⟨⟨d__law_draw, _, _, s__law_draw, _, rfl, .inl F188, sc__law_draw, rfl, rfl, m__law_draw⟩, F188.binds (ps := ["_law_script", "_law_k"]) fun _ _ _ _ _ _ us hl => match us, hl with | [_, _], _ => rfl⟩
  have F189 := fun_mk (st := s__law_costs) l189 c189 k189
  have D189 : DefX pg cf K 189 f189 _ ["_law_script"] := ⟨⟨d__law_costs, _, _, s__law_costs, _, rfl, .inl F189, sc__law_costs, rfl, rfl, m__law_costs⟩, F189.binds (ps := ["_law_script"]) fun _ _ _ _ _ _ us hl => match us, hl with | [_], _ => rfl⟩
  have F190 := fun_mk (st := s__law_task) l190 c190 k190
  have D190 : DefX pg cf K 190 f190 _ ["_law_number", "_law_count"] := ⟨⟨d__law_task, _, _, s__law_task, _, rfl, .inl F190, sc__law_task, rfl, rfl, m__law_task⟩, F190.binds (ps := ["_law_number", "_law_count"]) fun _ _ _ _ _ _ us hl => match us, hl with | [_, _], _ => rfl⟩
  have F191 := fun_mk (st := s__law_going) l191 c191 k191
  have D191 : DefX pg cf K 191 f191 _ ["_law_costs_here", "_law_first", "_law_second"] := ⟨⟨d__law_going, _, _, s__law_going, _, rfl, .inl F191, sc__law_going, rfl, rfl, m__law_going⟩, F191.binds (ps := ["_law_costs_here", "_law_first", "_law_second"]) fun _ _ _ _ _ _ us hl => match us, hl with | [_, _, _], _ => rfl⟩
  have F192 := fun_mk (st := s_law) l192 c192 k192
  have D192 : DefX pg cf K 192 fa _ ["_law_script"] := ⟨⟨d_law, _, _, s_law, _, rfl, .inl F192, sc_law, rfl, rfl, m_law⟩, F192.binds (ps := ["_law_script"]) fun _ _ _ _ _ _ us hl => match us, hl with | [_], _ => rfl⟩
  have xse : cf.xs = [] := by decide +kernel
  refine ⟨_, fun i => ([C1, C1]).getD i 0, fun i => (([] : List Addr)).getD i 0, fun s v => ?_, D192, ⟨trivial, by rw [xse]; exact trivial, (fun _ _ _ _ j x h => nomatch h), by decide +kernel, by decide +kernel, by decide +kernel, by decide +kernel, ?_, ?_, ?_, ?_⟩⟩
  · exact .of_eq rfl
  · exact ⟨PySem.W.mg_none_of X G z0, PySem.W.mg_none_of X G z1, PySem.W.mg_none_of X G z2, PySem.W.mg_none_of X G z3, PySem.W.mg_none_of X G z4, PySem.W.mg_none_of X G z5, PySem.W.mg_none_of X G z6, PySem.W.mg_none_of X G z7, PySem.W.mg_none_of X G z8, PySem.W.mg_none_of X G z9, PySem.W.mg_none_of X G z10, PySem.W.mg_none_of X G z11, PySem.W.mg_none_of X G z12, PySem.W.mg_none_of X G z13, PySem.W.mg_none_of X G z14, PySem.W.mg_none_of X G z15, PySem.W.mg_none_of X G z16, PySem.W.mg_none_of X G z17, PySem.W.mg_none_of X G z18, PySem.W.mg_none_of X G z19, trivial⟩
  · exact ⟨⟨_, PySem.W.mg_of X G a80, k80, _, _, D80⟩, ⟨_, PySem.W.mg_of X G a81, k81, _, _, D81⟩, ⟨_, PySem.W.mg_of X G a188, k188, _, _, D188⟩, ⟨_, PySem.W.mg_of X G a189, k189, _, _, D189⟩, ⟨_, PySem.W.mg_of X G a190, k190, _, _, D190⟩, ⟨_, PySem.W.mg_of X G a191, k191, _, _, D191⟩, ⟨_, PySem.W.mg_of X G a192, k192, _, _, D192⟩, trivial⟩
  · exact ⟨⟨⟨pg1, hd1, po1, sa1⟩, ⟨n1_0, n1_1, n1_2, n1_3, n1_4, n1_5, n1_6, n1_7, n1_8, n1_9, n1_10, trivial⟩, trivial, fun _ e => (by cases e)⟩, ⟨⟨pg1, hd1, po1, sa1⟩, ⟨n1_0, n1_1, n1_2, n1_3, n1_4, n1_5, n1_6, n1_7, n1_8, n1_9, n1_10, trivial⟩, ⟨⟨_, ⟨a83, i83, k83⟩, _, _, D83⟩, ⟨_, ⟨a84, i84, k84⟩, _, _, D84⟩, trivial⟩, fun _ e => by cases e; exact ⟨_, PySem.W.mg_of X G aC1, ⟨mk1, a82, i82, kc1⟩, _, _, D82, E82⟩⟩, trivial⟩
  · exact trivial
end K43
open PySem PySem.W PyProof.Rows in
set_option maxRecDepth 100000 in
set_option maxHeartbeats 0 in
theorem PySem.Challenge.cw_turnshelves_k43_policy_serves_by_works_holds : PySem.Challenge.rw_turnshelves_k43_policy_serves_by_works.Holds := by
  w_on; o_law; k_head; (case hw => w_witness2)
  k_fill
  refine R.law_walk (l := PySem.Challenge.rw_turnshelves_k43_policy_serves_by_works) (p := K43.pg) (cf := K43.cf) (n := 12) (f := 192) (x := "_law_script") ⟨⟨rfl, by decide, by decide⟩, rfl⟩ K43.law_runs rfl rfl (fun w h Y => PySem.W.kIn_of Y) ?F
  case F =>
    intro w mg fa h KX G hmg
    refine' K43.all_mk KX G hmg ?aC1 ?pg1 ?hd1 ?po1 ?sa1 ?mk1 ?kc1 ?n1_0 ?n1_1 ?n1_2 ?n1_3 ?n1_4 ?n1_5 ?n1_6 ?n1_7 ?n1_8 ?n1_9 ?n1_10 ?a80 ?l80 ?c80 ?k80 ?a81 ?l81 ?c81 ?k81 ?a82 ?i82 ?l82 ?c82 ?k82 ?a83 ?i83 ?l83 ?c83 ?k83 ?a84 ?i84 ?l84 ?c84 ?k84 ?a188 ?l188 ?c188 ?k188 ?a189 ?l189 ?c189 ?k189 ?a190 ?l190 ?c190 ?k190 ?a191 ?l191 ?c191 ?k191 ?a192 ?l192 ?c192 ?k192 ?z0 ?z1 ?z2 ?z3 ?z4 ?z5 ?z6 ?z7 ?z8 ?z9 ?z10 ?z11 ?z12 ?z13 ?z14 ?z15 ?z16 ?z17 ?z18 ?z19
    (case aC1 => k_is)
    (case pg1 => k_is)
    (case hd1 => k_is)
    (case po1 => k_is)
    (case sa1 => k_is)
    (case mk1 => k_is)
    (case kc1 => k_is)
    (case n1_0 => k_is)
    (case n1_1 => k_is)
    (case n1_2 => k_is)
    (case n1_3 => k_is)
    (case n1_4 => k_is)
    (case n1_5 => k_is)
    (case n1_6 => k_is)
    (case n1_7 => k_is)
    (case n1_8 => k_is)
    (case n1_9 => k_is)
    (case n1_10 => k_is)
    (case a80 => k_is)
    (case l80 => k_is)
    (case c80 => k_is)
    (case k80 => k_is)
    (case a81 => k_is)
    (case l81 => k_is)
    (case c81 => k_is)
    (case k81 => k_is)
    (case a82 => k_is)
    (case i82 => k_is)
    (case l82 => k_is)
    (case c82 => k_is)
    (case k82 => k_is)
    (case a83 => k_is)
    (case i83 => k_is)
    (case l83 => k_is)
    (case c83 => k_is)
    (case k83 => k_is)
    (case a84 => k_is)
    (case i84 => k_is)
    (case l84 => k_is)
    (case c84 => k_is)
    (case k84 => k_is)
    (case a188 => k_is)
    (case l188 => k_is)
    (case c188 => k_is)
    (case k188 => k_is)
    (case a189 => k_is)
    (case l189 => k_is)
    (case c189 => k_is)
    (case k189 => k_is)
    (case a190 => k_is)
    (case l190 => k_is)
    (case c190 => k_is)
    (case k190 => k_is)
    (case a191 => k_is)
    (case l191 => k_is)
    (case c191 => k_is)
    (case k191 => k_is)
    (case a192 => k_is)
    (case l192 => k_is)
    (case c192 => k_is)
    (case k192 => k_is)
    (case z0 => k_is)
    (case z1 => k_is)
    (case z2 => k_is)
    (case z3 => k_is)
    (case z4 => k_is)
    (case z5 => k_is)
    (case z6 => k_is)
    (case z7 => k_is)
    (case z8 => k_is)
    (case z9 => k_is)
    (case z10 => k_is)
    (case z11 => k_is)
    (case z12 => k_is)
    (case z13 => k_is)
    (case z14 => k_is)
    (case z15 => k_is)
    (case z16 => k_is)
    (case z17 => k_is)
    (case z18 => k_is)
    (case z19 => k_is)
#print axioms PySem.Challenge.cw_turnshelves_k43_policy_serves_by_works_holds
