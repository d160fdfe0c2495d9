import PyProof.Rows.All
import Wide.All
import OpenK.AllK
import Wide.FinOn
import HandS.ForMost
import KE.SortData
import KE.DataMinMax
import HandS.TupAny
import HandS.TupMul
import HandS.ForExc
import HandS.CallSlots
import HandS.NoneIn
import HandS.Flow
import HandS.Style
import HandS.Deep
import HandS.Zip
import HandS.IsInst
import HandS.Wide
import HandS.More
import HandS.Walk
import KE.GoesEnum
import KE.KTupSum
import KE.KIndexOf
import HandS.WordsDict
import HandS.Star
import HandS.Conv
import HandS.Ends
import HandS.Words
import HandS.WordsExc
import PySem.Challenge.RW_treelattice_k83_piles_by_hand
set_option linter.all false
set_option maxRecDepth 100000
set_option Elab.async false
/-! A small machine of my own for the pure part of Python that the program is written in: values, heap, expressions, statements. -/
namespace TL
open PySem

inductive W where
  | non | bl (b : Bool) | int (i : Int) | str (s : Str) | tup (xs : List W) | frl (xs : List W) | ref (n : Nat)
  deriving Inhabited

mutual
def W.beq : W → W → Bool
  | .non, .non => true
  | .bl a, .bl b => a == b
  | .int a, .int b => a == b
  | .str a, .str b => decide (a = b)
  | .tup xs, .tup ys => W.beqs xs ys
  | .ref a, .ref b => Nat.beq a b
  | _, _ => false
def W.beqs : List W → List W → Bool
  | [], [] => true
  | x :: xs, y :: ys => x.beq y && W.beqs xs ys
  | _, _ => false
end

inductive HW where
  | lst (xs : List W)
  | dct (kvs : List (L2.Key × W))

inductive Tr where
  | nil
  | node (l : Tr) (v : Option HW) (r : Tr)
def Tr.get : Tr → Nat → Option HW
  | .nil, _ => none
  | .node l v r, n => bif n.beq 0 then v else bif (n % 2).beq 1 then l.get (n / 2) else r.get (n / 2 - 1)
def Tr.set : Nat → Tr → Nat → HW → Tr
  | 0, t, _, _ => t
  | f + 1, .nil, n, o => bif n.beq 0 then .node .nil (some o) .nil else bif (n % 2).beq 1 then .node (Tr.set f .nil (n / 2) o) none .nil else .node .nil none (Tr.set f .nil (n / 2 - 1) o)
  | f + 1, .node l v r, n, o => bif n.beq 0 then .node l (some o) r else bif (n % 2).beq 1 then .node (Tr.set f l (n / 2) o) v r else .node l v (Tr.set f r (n / 2 - 1) o)

structure Hw where
  n : Nat
  t : Tr
def Hw.get (h : Hw) (i : Nat) : Option HW := h.t.get i
def Hw.set (h : Hw) (i : Nat) (o : HW) : Hw := ⟨h.n, Tr.set (i + 1) h.t i o⟩
def Hw.new (h : Hw) (o : HW) : Hw := ⟨h.n + 1, Tr.set (h.n + 1) h.t h.n o⟩
def Hw.nil : Hw := ⟨0, .nil⟩

inductive R (α : Type) where
  | ok (a : α) (h : Hw)
  | exc (c : Nat) (d : List W) (h : Hw)
  | err
def R.bind {α β : Type} (x : R α) (f : α → Hw → R β) : R β := match x with
  | .ok a h => f a h
  | .exc c d h => .exc c d h
  | .err => .err

inductive Bop where | add | sub | mul | fdiv | mod
inductive Cop where | eq | ne | lt | le | gt | ge | isin | notin | iss | isnt
inductive ItK where | seq | rng1 | rng2 | enm | zip
inductive Bi where | len | list | tuple | sum | sorted | min1 | max2 | min2 | max1 | int | abs | isinst (t : Nat) | repr | rev | lrng1 | lrng2
inductive Me where | append | pop | index | insert | extend
inductive Tg where
  | nm (i : Nat)
  | tp (ts : List Tg)

inductive Ex where
  | var (i : Nat) | non | bl (b : Bool) | int (i : Int) | str (s : Str)
  | bin (o : Bop) (a b : Ex) | neg (a : Ex)
  | cmp (o : Cop) (a b : Ex) | chn (o p : Cop) (a b c : Ex)
  | and (es : List Ex) | or (es : List Ex) | not (a : Ex) | ife (c a b : Ex)
  | tup (es : List Ex) | star (a : Ex)
  | lst (es : List Ex) | dct (es : List Ex)
  | idx (a i : Ex) | slc (a : Ex) (lo hi : Option Ex)
  | call (f : Nat) (es : List Ex)
  | bi (b : Bi) (es : List Ex)
  | me (m : Me) (o : Ex) (es : List Ex)
  | comp (elt : Ex) (tg : Tg) (k : ItK) (its : List Ex) (ifs : List Ex) (own : List Nat)

inductive St where
  | set (i : Nat) (e : Ex)
  | setT (tg : Tg) (e : Ex)
  | setI (a i e : Ex)
  | aug (o : Bop) (i : Nat) (e : Ex)
  | augI (o : Bop) (a i e : Ex)
  | ex (e : Ex)
  | ite (c : Ex) (a b : List St)
  | loop (tg : Tg) (k : ItK) (its : List Ex) (body : List St)
  | whl (c : Ex) (body : List St)
  | ret (e : Ex) | retN | rse (c : Nat) (es : List Ex) | cont | brk | pass

inductive Fl where | nx | rt (w : W) | bk | ct

abbrev Env := List (Option W)

/-! data -/
def optAll {α : Type} : List (Option α) → Option (List α)
  | [] => some []
  | none :: _ => none
  | some a :: r => match optAll r with
    | some as => some (a :: as)
    | none => none
def toD : Nat → Hw → W → Option PyData
  | 0, _, _ => none
  | _ + 1, _, .non => some .none
  | _ + 1, _, .bl b => some (.bool b)
  | _ + 1, _, .int i => some (.int i)
  | _ + 1, _, .str s => some (.str s)
  | f + 1, h, .tup xs => match optAll (xs.map (toD f h)) with
    | some ds => some (.tuple ds)
    | none => none
  | _ + 1, _, .frl _ => none
  | f + 1, h, .ref n => match h.get n with
    | some (.lst xs) => (match optAll (xs.map (toD f h)) with
      | some ds => some (.list ds)
      | none => none)
    | _ => none
def dat (h : Hw) (w : W) : Option PyData := toD 40 h w
def eqW (h : Hw) (x y : W) : Option Bool := match x, y with
  | .int i, .int j => some (i == j)
  | _, _ => match dat h x, dat h y with
    | some d, some e => bif SeqAt.shaped d && SeqAt.shaped e then some (PyData.eqv d e) else none
    | _, _ => none
def keyOf : W → Option L2.Key
  | .int i => some (.inl i)
  | .str s => some (.inr s)
  | _ => none
def kFind (kvs : List (L2.Key × W)) (k : L2.Key) : Option W := match kvs with
  | [] => none
  | (j, w) :: r => if j = k then some w else kFind r k
def kPut (kvs : List (L2.Key × W)) (k : L2.Key) (v : W) : List (L2.Key × W) :=
  if (kvs.any fun p => decide (p.1 = k)) = true then kvs.map (fun p => if p.1 = k then (p.1, v) else p) else kvs ++ [(k, v)]
def tru (h : Hw) : W → Option Bool
  | .non => some false
  | .bl b => some b
  | .int i => some (i != 0)
  | .str s => bif Nat.ble s.length 16777216 then some ((s.length : Int) != 0) else none
  | .tup xs => some (!xs.isEmpty)
  | .frl xs => some (!xs.isEmpty)
  | .ref n => match h.get n with
    | some (.lst xs) => some (!xs.isEmpty)
    | some (.dct kvs) => some (!kvs.isEmpty)
    | none => none
def seqOf (h : Hw) : W → Option (List W)
  | .tup xs => some xs
  | .frl xs => some xs
  | .ref n => match h.get n with
    | some (.lst xs) => some xs
    | _ => none
  | _ => none
/-- what must stay while a sequence is walked -/
def grdOf (h : Hw) : W → List (Nat × List W)
  | .ref n => match h.get n with
    | some (.lst xs) => [(n, xs)]
    | _ => []
  | _ => []
def okG (gs : List (Nat × List W)) (h : Hw) : Bool := gs.all fun p => match h.get p.1 with
  | some (.lst xs) => W.beqs p.2 xs
  | _ => false
def szOk (n : Nat) : Bool := Nat.ble n 16777216
def small (i : Int) : Bool := Nat.ble i.natAbs 18446744073709551615
def intsOf : List W → Option (List Int)
  | [] => some []
  | .int i :: r => match intsOf r with
    | some is => some (i :: is)
    | none => none
  | _ => none
def cutW (xs : List W) (lo hi : Option Int) : List W := (xs.drop (HT.sIx xs.length 0 lo)).take (HT.sIx xs.length xs.length hi - HT.sIx xs.length 0 lo)

/-! a sort by insertion -/
section
variable {α : Type} (le : α → α → Bool)
def insS (x : α) : List α → List α
  | [] => [x]
  | y :: r => bif le x y then x :: y :: r else y :: insS x r
def isort : List α → List α
  | [] => []
  | x :: r => insS le x (isort r)
end
def shp (d : PyData) : Bool := match d with
  | .none => false
  | .tuple _ => false
  | _ => true
def tupNE (d : PyData) : Bool := match d with
  | .tuple (_ :: _) => true
  | _ => false
/-- the items can be sorted -/
def sortOk (ds : List PyData) : Bool := (ds.all fun d => ds.all fun e => PySem.W.alike d e) && (ds.all tupNE || ds.all shp) && ds.all fun d => Nat.ble d.depth 60

def binOp (o : Bop) (x y : W) (h : Hw) : R W := match o, x, y with
  | .add, .int i, .int j => .ok (.int (i + j)) h
  | .add, .tup xs, .tup ys => bif szOk (xs.length + ys.length) then .ok (.tup (xs ++ ys)) h else .err
  | .add, .str a, .str b => bif szOk (a.length + b.length) then .ok (.str (a ++ b)) h else .err
  | .add, .ref a, .ref b => (match h.get a, h.get b with
    | some (.lst xs), some (.lst ys) => bif szOk (xs.length + ys.length) then .ok (.ref h.n) (h.new (.lst (xs ++ ys))) else .err
    | _, _ => .err)
  | .sub, .int i, .int j => .ok (.int (i - j)) h
  | .mul, .int i, .int j => bif small i || small j then .ok (.int (i * j)) h else .err
  | .mul, .tup xs, .int j => if j = 1 then .ok (.tup xs) h else bif (!xs.isEmpty) && decide (2 ≤ j) && decide (j ≤ 1000) && Nat.ble xs.length 1000 then .ok (.tup (List.replicate j.toNat xs).flatten) h else .err
  | .mul, .ref a, .int j => (match h.get a with
    | some (.lst xs) => bif Nat.ble j.natAbs 4611686018427387904 && szOk (xs.length * j.toNat) then .ok (.ref h.n) (h.new (.lst (List.replicate j.toNat xs).flatten)) else .err
    | _ => .err)
  | .fdiv, .int i, .int j => bif (j == 0) || Nat.ble 1073741824 j.natAbs then .err else .ok (.int (i.fdiv j)) h
  | .mod, .int i, .int j => bif j == 0 then .err else .ok (.int (i.fmod j)) h
  | _, _, _ => .err

def flatW : W → Option L2.V
  | .non => some .non
  | .bl b => some (.bl b)
  | .int i => some (.int i)
  | .str s => some (.str s)
  | _ => none
def augOp (o : Bop) (x y : W) (h : Hw) : R W := match o, x, y with
  | .fdiv, .int i, .int j => bif decide (0 < j) then binOp .fdiv (.int i) (.int j) h else .err
  | .mod, .int i, .int j => bif decide (0 < j) then binOp .mod (.int i) (.int j) h else .err
  | .add, .int i, .int j => .ok (.int (i + j)) h
  | .sub, .int i, .int j => .ok (.int (i - j)) h
  | .mul, .int i, .int j => binOp .mul (.int i) (.int j) h
  | _, _, _ => .err
def inOp (x y : W) (h : Hw) : Option Bool := match y with
  | .ref n => (match h.get n with
    | some (.dct kvs) => (match keyOf x with
      | some k => some (kFind kvs k).isSome
      | none => none)
    | some (.lst xs) => (match dat h x, optAll (xs.map (toD 39 h)) with
      | some d, some ds => bif SeqAt.shaped d && SeqAt.shaped (.list ds) then some (ds.any fun z => PyData.eqv z d) else none
      | _, _ => none)
    | none => none)
  | .tup xs => (match flatW x, optAll (xs.map flatW) with
    | some v, some vs => some (L2.inV v vs)
    | _, _ => none)
  | _ => none
def ordOp (o : Cop) (i j : Int) : Bool := match o with
  | .lt => decide (i < j)
  | .le => decide (i ≤ j)
  | .gt => decide (j < i)
  | .ge => decide (j ≤ i)
  | _ => false
def ordW (o : Cop) (x y : W) : Option Bool := match x, y with
  | .int i, .int j => some (ordOp o i j)
  | _, _ => none
def isNon : W → Option Bool
  | .non => some true
  | .bl _ => some false
  | .int _ => some false
  | .str _ => some false
  | .tup _ => some false
  | .frl _ => some false
  | .ref _ => some false
def notO : Option Bool → Option Bool
  | some b => some (!b)
  | none => none
def cmpOp (o : Cop) (x y : W) (h : Hw) : Option Bool := match o with
  | .eq => eqW h x y
  | .ne => notO (eqW h x y)
  | .iss => (match y with
    | .non => isNon x
    | _ => none)
  | .isnt => (match y with
    | .non => notO (isNon x)
    | _ => none)
  | .isin => inOp x y h
  | .notin => notO (inOp x y h)
  | o => ordW o x y

def isT (t : Nat) (h : Hw) (w : W) : Option Bool := match w with
  | .non => some false
  | .bl _ => some (Nat.beq t 0 || Nat.beq t 1)
  | .int _ => some (Nat.beq t 0)
  | .str _ => some (Nat.beq t 3)
  | .tup _ => some (Nat.beq t 2)
  | .frl _ => some (Nat.beq t 4)
  | .ref n => match h.get n with
    | some (.lst _) => some (Nat.beq t 4)
    | some (.dct _) => some (Nat.beq t 5)
    | none => none

def firstD (d : PyData) : List PyData → Nat → Option Nat
  | [], _ => none
  | e :: r, k => bif PyData.eqv e d then some k else firstD d r (k + 1)

def rngs (lo : Int) : Nat → List W
  | 0 => []
  | n + 1 => .int lo :: rngs (lo + 1) n
def enums (k : Nat) : List W → List W
  | [] => []
  | x :: r => .tup [.int k, x] :: enums (k + 1) r
def zip2 : List W → List W → List W
  | x :: xs, y :: ys => .tup [x, y] :: zip2 xs ys
  | _, _ => []
def rngOk (i : Int) : Bool := Nat.ble i.natAbs 2305843009213693952
/-- the items that a loop walks, and what must stay -/
def iterOf (k : ItK) (ws : List W) (h : Hw) : Option (List W × List (Nat × List W)) := match k, ws with
  | .seq, [w] => (match seqOf h w with
    | some xs => some (xs, grdOf h w)
    | none => none)
  | .rng1, [.int j] => bif rngOk j then some (rngs 0 j.toNat, []) else none
  | .rng2, [.int i, .int j] => bif rngOk i && rngOk j then some (rngs i (j - i).toNat, []) else none
  | .enm, [w] => (match seqOf h w with
    | some xs => some (enums 0 xs, grdOf h w)
    | none => none)
  | .zip, [a, b] => (match seqOf h a, seqOf h b with
    | some xs, some ys => some (zip2 xs ys, grdOf h a ++ grdOf h b)
    | _, _ => none)
  | _, _ => none

def biOp (b : Bi) (ws : List W) (h : Hw) : R W := match b, ws with
  | .len, [.str s] => bif szOk s.length then .ok (.int s.length) h else .err
  | .len, [.ref n] => (match h.get n with
    | some (.lst xs) => .ok (.int xs.length) h
    | some (.dct kvs) => .ok (.int kvs.length) h
    | none => .err)
  | .len, [.tup xs] => .ok (.int xs.length) h
  | .len, [.frl xs] => .ok (.int xs.length) h
  | .list, [w] => (match seqOf h w with
    | some xs => .ok (.ref h.n) (h.new (.lst xs))
    | none => .err)
  | .tuple, [w] => (match seqOf h w with
    | some xs => .ok (.tup xs) h
    | none => .err)
  | .sum, [w] => (match seqOf h w with
    | some xs => (match intsOf xs with
      | some is => .ok (.int is.sum) h
      | none => .err)
    | none => .err)
  | .sorted, [w] => (match seqOf h w with
    | some xs => (match optAll (xs.map (dat h)) with
      | some ds => bif sortOk ds then .ok (.ref h.n) (h.new (.lst ((isort (PySem.W.dataLe false Prod.snd) (xs.zip ds)).map Prod.fst))) else .err
      | none => .err)
    | none => .err)
  | .min1, [w] => (match seqOf h w with
    | some xs => (match intsOf xs with
      | some (n :: ns) => .ok (.int (ns.foldl min n)) h
      | _ => .err)
    | none => .err)
  | .max1, [w] => (match seqOf h w with
    | some xs => (match intsOf xs with
      | some (n :: ns) => .ok (.int (ns.foldl max n)) h
      | _ => .err)
    | none => .err)
  | .max2, [.int i, .int j] => .ok (.int (if j > i then j else i)) h
  | .min2, [.int i, .int j] => .ok (.int (if j < i then j else i)) h
  | .int, [.int i] => .ok (.int i) h
  | .int, [.bl b] => .ok (.int (if b then 1 else 0)) h
  | .abs, [.int i] => .ok (.int (if i < 0 then -i else i)) h
  | .isinst t, [w] => (match isT t h w with
    | some b => .ok (.bl b) h
    | none => .err)
  | .rev, [w] => (match w with
    | .ref n => (match h.get n with
      | some (.lst xs) => .ok (.ref h.n) (h.new (.lst xs.reverse))
      | _ => .err)
    | .frl xs => .ok (.ref h.n) (h.new (.lst xs.reverse))
    | _ => .err)
  | .lrng1, [.int j] => bif rngOk j && szOk j.toNat then .ok (.ref h.n) (h.new (.lst (rngs 0 j.toNat))) else .err
  | .lrng2, [.int i, .int j] => bif rngOk i && rngOk j && szOk (j - i).toNat then .ok (.ref h.n) (h.new (.lst (rngs i (j - i).toNat))) else .err
  | .repr, [w] => (match dat h w with
    | some d => bif d.showable && Nat.ble d.depth 60 && szOk d.shown.length then .ok (.str d.shown) h else .err
    | none => .err)
  | _, _ => .err

/-- what has such a method -/
def recvOk (m : Me) (x : W) (h : Hw) : Bool := match x with
  | .ref n => (match h.get n with
    | some (.lst _) => true
    | _ => false)
  | .tup _ => (match m with
    | .index => true
    | _ => false)
  | _ => false
def meOp (m : Me) (o : W) (ws : List W) (h : Hw) : R W := match m, o, ws with
  | .append, .ref n, [w] => (match h.get n with
    | some (.lst xs) => bif Nat.ble (xs.length + 1) 16777216 then .ok .non (h.set n (.lst (xs ++ [w]))) else .err
    | _ => .err)
  | .pop, .ref n, [] => (match h.get n with
    | some (.lst xs) => (match xs[xs.length - 1]? with
      | some w => .ok w (h.set n (.lst xs.dropLast))
      | none => .err)
    | _ => .err)
  | .pop, .ref n, [.int i] => (match h.get n with
    | some (.lst xs) => (match L2.ixN xs.length i with
      | some k => (match xs[k]? with
        | some w => bif rngOk i then .ok w (h.set n (.lst (xs.eraseIdx k))) else .err
        | none => .err)
      | none => .err)
    | _ => .err)
  | .index, .tup xs, [.int k] => (match intsOf xs with
    | some is => bif is.elem k then .ok (.int (is.idxOf k : Nat)) h else .err
    | none => .err)
  | .index, .ref n, [w] => (match h.get n with
    | some (.lst xs) => (match dat h w, optAll (xs.map (toD 39 h)) with
      | some d, some ds => bif SeqAt.shaped d && SeqAt.shaped (.list ds) then (match firstD d ds 0 with
        | some k => .ok (.int k) h
        | none => .err) else .err
      | _, _ => .err)
    | _ => .err)
  | .insert, .ref n, [.int i, w] => (match h.get n with
    | some (.lst xs) => bif Nat.ble (xs.length + 1) 16777216 && rngOk i && decide (0 ≤ i) then .ok .non (h.set n (.lst (xs.take i.toNat ++ [w] ++ xs.drop i.toNat))) else .err
    | _ => .err)
  | .extend, .ref n, [.ref m] => (match h.get n, h.get m with
    | some (.lst xs), some (.lst ys) => bif szOk (xs.length + ys.length) then .ok .non (h.set n (.lst (xs ++ ys))) else .err
    | _, _ => .err)
  | _, _, _ => .err

def idxOp (x y : W) (h : Hw) : R W := match x, y with
  | .tup xs, .int i => (match L2.atI xs i with
    | some w => .ok w h
    | none => .err)
  | .frl xs, .int i => (match L2.atI xs i with
    | some w => .ok w h
    | none => .err)
  | .ref n, y => (match h.get n with
    | some (.lst xs) => (match y with
      | .int i => (match L2.atI xs i with
        | some w => .ok w h
        | none => .err)
      | _ => .err)
    | some (.dct kvs) => (match keyOf y with
      | some k => (match kFind kvs k with
        | some w => .ok w h
        | none => .err)
      | none => .err)
    | none => .err)
  | _, _ => .err
def setOp (x y v : W) (h : Hw) : Option Hw := match x with
  | .ref n => (match h.get n with
    | some (.lst xs) => (match y with
      | .int i => (match L2.ixN xs.length i with
        | some k => some (h.set n (.lst (xs.set k v)))
        | none => none)
      | _ => none)
    | some (.dct kvs) => (match keyOf y with
      | some k => bif Nat.ble (kvs.length + 1) 16777216 then some (h.set n (.dct (kPut kvs k v))) else none
      | none => none)
    | none => none)
  | _ => none
def slcOp (x : W) (lo hi : Option Int) (h : Hw) : R W := match x with
  | .tup xs => .ok (.tup (cutW xs lo hi)) h
  | .frl xs => .ok (.ref h.n) (h.new (.lst (cutW xs lo hi)))
  | .ref n => (match h.get n with
    | some (.lst xs) => .ok (.ref h.n) (h.new (.lst (cutW xs lo hi)))
    | _ => .err)
  | _ => .err

mutual
def asg : Tg → W → Env → Hw → Option Env
  | .nm i, w, s, _ => some (s.set i (some w))
  | .tp ts, .tup xs, s, h => asgs ts xs s h
  | .tp ts, .ref n, s, h => (match h.get n with
    | some (.lst xs) => asgs ts xs s h
    | _ => none)
  | _, _, _, _ => none
def asgs : List Tg → List W → Env → Hw → Option Env
  | [], [], s, _ => some s
  | t :: ts, x :: xs, s, h => match asg t x s h with
    | some s' => asgs ts xs s' h
    | none => none
  | _, _, _, _ => none
end

def R.nox {α : Type} : R α → R α
  | .exc _ _ _ => .err
  | r => r
def loopC (gs : List (Nat × List W)) (f : W → Hw → R (Option W)) : List W → Hw → R (List W)
  | [], h => bif okG gs h then .ok [] h else .err
  | x :: xs, h => bif okG gs h then (f x h).nox.bind fun o h1 => (loopC gs f xs h1).bind fun ys h2 => .ok (match o with | some w => w :: ys | none => ys) h2 else .err
def wipeW (s : Env) : List Nat → Env
  | [] => s
  | v :: vs => (wipeW s vs).set v none
def optInt : Option W → Option (Option Int)
  | none => some none
  | some (.int i) => some (some i)
  | _ => none

section
variable (C : Nat → List W → Hw → R W)
mutual
def evE : Ex → Env → Hw → R W
  | .var i, s, h => match s[i]? with
    | some (some w) => .ok w h
    | _ => .err
  | .non, _, h => .ok .non h
  | .bl b, _, h => .ok (.bl b) h
  | .int i, _, h => .ok (.int i) h
  | .str x, _, h => .ok (.str x) h
  | .bin o a b, s, h => (evE a s h).bind fun x h1 => (evE b s h1).bind fun y h2 => binOp o x y h2
  | .neg a, s, h => (evE a s h).bind fun x h1 => match x with
    | .int i => .ok (.int (-i)) h1
    | _ => .err
  | .cmp o a b, s, h => (evE a s h).bind fun x h1 => (evE b s h1).bind fun y h2 => match cmpOp o x y h2 with
    | some k => .ok (.bl k) h2
    | none => .err
  | .chn o p a b c, s, h => (evE a s h).bind fun x h1 => (evE b s h1).bind fun y h2 => match cmpOp o x y h2 with
    | some true => (evE c s h2).bind fun z h3 => (match cmpOp p y z h3 with
      | some k => .ok (.bl k) h3
      | none => .err)
    | some false => .ok (.bl false) h2
    | none => .err
  | .and es, s, h => evAnd es s h
  | .or es, s, h => evOr es s h
  | .not a, s, h => (evE a s h).bind fun x h1 => match tru h1 x with
    | some k => .ok (.bl (!k)) h1
    | none => .err
  | .ife c a b, s, h => (evE c s h).bind fun x h1 => match tru h1 x with
    | some true => evE a s h1
    | some false => evE b s h1
    | none => .err
  | .tup es, s, h => (evL es s h).bind fun ws h1 => bif szOk ws.length then .ok (.tup ws) h1 else .err
  | .star _, _, _ => .err
  | .lst es, s, h => (evL es s h).bind fun ws h1 => bif szOk ws.length then .ok (.ref h1.n) (h1.new (.lst ws)) else .err
  | .dct es, s, h => (evD es s (h.new (.dct []))).bind fun kvs h1 => match h1.get h.n with
    | some (.dct []) => bif Nat.ble kvs.length 15 then .ok (.ref h.n) (h1.set h.n (.dct (kvs.foldl (fun d p => kPut d p.1 p.2) []))) else .err
    | _ => .err
  | .idx a i, s, h => (evE a s h).bind fun x h1 => (evE i s h1).bind fun y h2 => idxOp x y h2
  | .slc a lo hi, s, h => (evE a s h).bind fun x h1 => (evO lo s h1).bind fun l h2 => (evO hi s h2).bind fun u h3 => slcOp x l u h3
  | .call f es, s, h => (evL es s h).bind fun ws h1 => C f ws h1
  | .bi b es, s, h => (evL es s h).bind fun ws h1 => biOp b ws h1
  | .me m o es, s, h => (evE o s h).bind fun x h1 => bif recvOk m x h1 then (evL es s h1).bind fun ws h2 => meOp m x ws h2 else .err
  | .comp elt tg k its ifs own, s, h => (evL its s h).bind fun ws h1 => match iterOf k ws h1 with
    | some (xs, gs) => bif szOk xs.length then (loopC gs (fun x h2 => match asg tg x (wipeW s own) h2 with
        | some s2 => (evIfs ifs s2 h2).bind fun c h3 => bif c then (evE elt s2 h3).bind fun w h4 => .ok (some w) h4 else .ok none h3
        | none => .err) xs h1).bind fun ys h5 => .ok (.ref h5.n) (h5.new (.lst ys)) else .err
    | none => .err
def evL : List Ex → Env → Hw → R (List W)
  | [], _, h => .ok [] h
  | e :: es, s, h => match e with
    | .star a => (evE a s h).bind fun x h1 => (match seqOf h1 x with
      | some xs => (evL es s h1).bind fun ys h2 => .ok (xs ++ ys) h2
      | none => .err)
    | e => (evE e s h).bind fun x h1 => (evL es s h1).bind fun xs h2 => .ok (x :: xs) h2
def evD : List Ex → Env → Hw → R (List (L2.Key × W))
  | [], _, h => .ok [] h
  | [_], _, _ => .err
  | k :: v :: r, s, h => (evE k s h).bind fun x h1 => match keyOf x with
    | some x => (evE v s h1).bind fun y h2 => (evD r s h2).bind fun r h3 => .ok ((x, y) :: r) h3
    | none => .err
def evO : Option Ex → Env → Hw → R (Option Int)
  | none, _, h => .ok none h
  | some e, s, h => (evE e s h).bind fun x h1 => match x with
    | .int i => .ok (some i) h1
    | _ => .err
def evAnd : List Ex → Env → Hw → R W
  | [], _, _ => .err
  | [e], s, h => evE e s h
  | e :: es, s, h => (evE e s h).bind fun x h1 => match tru h1 x with
    | some true => evAnd es s h1
    | some false => .ok x h1
    | none => .err
def evOr : List Ex → Env → Hw → R W
  | [], _, _ => .err
  | [e], s, h => evE e s h
  | e :: es, s, h => (evE e s h).bind fun x h1 => match tru h1 x with
    | some false => evOr es s h1
    | some true => .ok x h1
    | none => .err
def evIfs : List Ex → Env → Hw → R Bool
  | [], _, h => .ok true h
  | e :: es, s, h => (evE e s h).bind fun x h1 => match tru h1 x with
    | some true => evIfs es s h1
    | some false => .ok false h1
    | none => .err
end

def loopS (gs : List (Nat × List W)) (f : W → Env → Hw → R (Env × Fl)) : List W → Env → Hw → R (Env × Fl)
  | [], s, h => bif okG gs h then .ok (s, .nx) h else .err
  | x :: xs, s, h => bif okG gs h then (f x s h).bind fun p h1 => (match p.2 with
    | .nx => loopS gs f xs p.1 h1
    | .ct => loopS gs f xs p.1 h1
    | .bk => .ok (p.1, .nx) h1
    | .rt w => .ok (p.1, .rt w) h1) else .err
def whlS (c : Env → Hw → R Bool) (f : Env → Hw → R (Env × Fl)) : Nat → Env → Hw → R (Env × Fl)
  | 0, _, _ => .err
  | n + 1, s, h => (c s h).bind fun b h1 => bif b then (f s h1).bind fun p h2 => (match p.2 with
    | .nx => whlS c f n p.1 h2
    | .ct => whlS c f n p.1 h2
    | .bk => .ok (p.1, .nx) h2
    | .rt w => .ok (p.1, .rt w) h2) else .ok (s, .nx) h1
def evT (e : Ex) (s : Env) (h : Hw) : R Bool := (evE C e s h).bind fun x h1 => match tru h1 x with
  | some k => .ok k h1
  | none => .err
variable (wf : Nat)
mutual
def exS : St → Env → Hw → R (Env × Fl)
  | .set i e, s, h => (evE C e s h).bind fun w h1 => .ok (s.set i (some w), .nx) h1
  | .setT tg e, s, h => (evE C e s h).bind fun w h1 => match asg tg w s h1 with
    | some s' => .ok (s', .nx) h1
    | none => .err
  | .setI a i e, s, h => (evE C e s h).bind fun v h1 => (evE C a s h1).bind fun x h2 => (evE C i s h2).bind fun y h3 => match setOp x y v h3 with
    | some h4 => .ok (s, .nx) h4
    | none => .err
  | .aug o i e, s, h => match s[i]? with
    | some (some x) => (evE C e s h).bind fun y h1 => (augOp o x y h1).bind fun z h2 => .ok (s.set i (some z), .nx) h2
    | _ => .err
  | .augI o a i e, s, h => (evE C a s h).bind fun x h1 => (evE C i s h1).bind fun y h2 => (idxOp x y h2).bind fun z h3 => (evE C e s h3).bind fun v h4 => (augOp o z v h4).bind fun r h5 => match setOp x y r h5 with
    | some h6 => .ok (s, .nx) h6
    | none => .err
  | .ex e, s, h => (evE C e s h).bind fun _ h1 => .ok (s, .nx) h1
  | .ite c a b, s, h => (evT C c s h).bind fun k h1 => bif k then exL a s h1 else exL b s h1
  | .loop tg k its body, s, h => (evL C its s h).bind fun ws h1 => match iterOf k ws h1 with
    | some (xs, gs) => loopS gs (fun x s2 h2 => match asg tg x s2 h2 with
        | some s3 => exL body s3 h2
        | none => .err) xs s h1
    | none => .err
  | .whl c body, s, h => whlS (evT C c) (exL body) wf s h
  | .ret e, s, h => (evE C e s h).bind fun w h1 => .ok (s, .rt w) h1
  | .retN, s, h => .ok (s, .rt .non) h
  | .rse c es, s, h => (evL C es s h).bind fun ws h1 => .exc c ws h1
  | .cont, s, h => .ok (s, .ct) h
  | .brk, s, h => .ok (s, .bk) h
  | .pass, s, h => .ok (s, .nx) h
def exL : List St → Env → Hw → R (Env × Fl)
  | [], s, h => .ok (s, .nx) h
  | t :: ts, s, h => (exS t s h).bind fun p h1 => match p.2 with
    | .nx => exL ts p.1 h1
    | _ => .ok p h1
end
end

structure Fn where
  np : Nat
  ns : Nat
  body : List St

mutual
def W.noRef : W → Bool
  | .ref _ => false
  | .tup xs => W.noRefs xs
  | .frl xs => W.noRefs xs
  | _ => true
def W.noRefs : List W → Bool
  | [] => true
  | x :: xs => x.noRef && W.noRefs xs
end
mutual
def W.up (k : Nat) : W → W
  | .ref n => .ref (n + k)
  | .tup xs => .tup (W.ups k xs)
  | .frl xs => .frl (W.ups k xs)
  | .non => .non
  | .bl b => .bl b
  | .int i => .int i
  | .str s => .str s
def W.ups (k : Nat) : List W → List W
  | [] => []
  | x :: xs => x.up k :: W.ups k xs
end
def HW.up (k : Nat) : HW → HW
  | .lst xs => .lst (W.ups k xs)
  | .dct kvs => .dct (kvs.map fun p => (p.1, p.2.up k))
/-- the first i objects of g behind those of h -/
def Hw.app (h g : Hw) : Nat → Hw
  | 0 => h
  | i + 1 => match g.get i with
    | some o => (Hw.app h g i).new (o.up h.n)
    | none => Hw.app h g i
/-- what was made in a heap of its own, laid behind h -/
def graft (h : Hw) : R W → R W
  | .ok w g => bif w.noRef then .ok w h else .ok (w.up h.n) (h.app g g.n)
  | .exc c d _ => bif W.noRefs d then .exc c d h else .err
  | .err => .err

def outF : Env × Fl → Hw → R W
  | (_, .rt w), h => .ok w h
  | (_, .nx), h => .ok .non h
  | _, _ => .err
def runF (C : Nat → List W → Hw → R W) (wf : Nat) (fn : Fn) (ws : List W) (h : Hw) : R W := (exL C wf fn.body (ws.map some ++ List.replicate (fn.ns - fn.np) none) h).bind outF
def callF (tb : List Fn) (wf : Nat) : Nat → Nat → List W → Hw → R W
  | 0, _, _, _ => .err
  | k + 1, f, ws, h => match tb[f]? with
    | some fn => bif Nat.beq ws.length fn.np then (bif W.noRefs ws then graft h (runF (callF tb wf k) wf fn ws Hw.nil) else runF (callF tb wf k) wf fn ws h) else .err
    | none => .err
end TL
/-! Tuples that are known to have no dict of their own: locked at their making. -/
namespace TL
open PySem PySem.Spec PyProof.Rows L2
/-- a tuple without a dict: locked, or of the written part -/
def FzT (K : PySem.W.Frag) (H : Hp) (a : Addr) (vs : List V) : Prop :=
  (∃ o, H a = some (.frz o (.tup vs)) ∧ o.dict = none) ∨
    (∃ (o : Obj) (its : Array Value) (n : Nat), K.lookup a = some o ∧ o.cls = .type "tuple" ∧ o.dict = none ∧ o.data = .seq its n ∧ its.size ≤ sizeLine ∧ Vals vs its.toList)
theorem FzT.sq {K : PySem.W.Frag} {H : Hp} {a : Addr} {vs : List V} (e : FzT K H a vs) : SqT K H a vs := by
  rcases e with ⟨o, e, _⟩ | ⟨o, its, n, h1, h2, h3, h4⟩
  · exact .inl (.inr ⟨o, e⟩)
  · exact .inr ⟨o, its, n, h1, h2, h4⟩
theorem FzT.free {X : Cx} {pins : List (Addr × Obj)} {σ : L2.St} {H : Hp} {s : Shared} {a : Addr} {vs : List V} (I : Inv X pins σ H s) (e : FzT X.K H a vs) : ∃ o, s.heap.get? a = some o ∧ o.cls = .type "tuple" ∧ o.dict = none := by
  rcases e with ⟨o, e, d⟩ | ⟨o, its, n, h1, h2, h3, h4⟩
  · obtain ⟨q, _, its, _, ob, e2, c, _⟩ := I.hok a _ e
    rw [q] at e2; cases e2
    exact ⟨o, q, c, d⟩
  · exact ⟨o, I.kIn a o h1, h2, h3⟩
/-- what is wanted of a new tuple -/
def newT (H : Hp) (xs : List V) (Q : VK) : Prop := ∀ (p : Addr) (o : Obj), H p = none → o.dict = none → Q (.ref p) (upd H p (.frz o (.tup xs)))
section
variable {X : Cx}
theorem tupd {pins : List (Addr × Obj)} {σ : L2.St} {H : Hp} {s : Shared} {Q : VK} {xs : List V} {us : List Value} {t : Nat} (I : Inv X pins σ H s) (z : xs.length ≤ sizeLine) (r : Vals xs us) (q : newT H xs Q) :
    EP X pins σ Q (.ref s.heap.objs.size) { s with heap := s.heap.push { cls := .type "tuple", data := .seq us.toArray }, toks := t } := by
  have e : (s.heap.push { cls := .type "tuple", data := .seq us.toArray }).get? s.heap.objs.size = some { cls := .type "tuple", data := .seq us.toArray } := Heap.get?_push_size _ rfl
  have J : Inv X pins σ (upd H s.heap.objs.size (.frz { cls := .type "tuple", data := .seq us.toArray } (.tup xs))) { s with heap := s.heap.push { cls := .type "tuple", data := .seq us.toArray }, toks := t } :=
    I.laid (fun b u e => Heap.get?_push_of_some _ e) (Nat.le_refl _) (show ObjOk X.prog X.w _ _ _ (.frz _ (.tup xs)) from ⟨e, z, us, r, _, e, rfl, _, rfl⟩)
  exact ⟨.ref s.heap.objs.size, _, J, rfl, q _ _ (I.hok.fresh (Nat.le_refl _)) rfl⟩
def tTupZ (t : TA) : TE := fun σ H Q => t σ H fun xs H1 => xs.length ≤ sizeLine ∧ newT H1 xs Q
theorem pe_tupZ {es : List Expr} {pos : Pos} {t : TA} {x1} (h : PA X es t) : PE X (.Tuple es x1 pos) (tTupZ t) := by
  refine ⟨fun pins s σ H Q I hq => ?_⟩
  refine wpAny_Tuple_spliced (thn (h.run pos pins s σ H _ I hq) fun us s1 ⟨xs, H1, I1, r, z, q⟩ => ⟨by rw [← r.length]; exact z, ?_⟩)
  exact tupd I1 z r q
/-- tuple(x) -/
theorem call_tupZ : CallR X (.type "tuple") (fun xs H Q => ∃ p ys, xs = [.ref p] ∧ ((SqL X.K H p ys ∧ newT H ys Q) ∨ (SqT X.K H p ys ∧ Q (.ref p) H))) := by
  intro pins s σ H xs us Q I r hq
  obtain ⟨p, ys, rfl, hq⟩ := hq
  obtain ⟨u, rfl, rx⟩ := vals1 r
  cases rx
  rcases hq with ⟨hl, q⟩ | ⟨ht, q⟩
  · obtain ⟨its, r', pl, hz⟩ := I.list hl
    have hlen := r'.length
    refine call_tuple_list pl.isList (fun h' kp => ?_) (by simp only [List.size_toArray] <;> omega)
    have I1 : Inv X pins σ H { s with heap := h' } := I.kept (t' := s.toks) kp
    exact tupd I1 hz r' q
  · obtain ⟨its, r', pl, hz⟩ := I.tuple ht
    exact call_tuple_same pl ⟨.ref p, H, I, rfl, q⟩
/-- t + u -/
def rCatZ (K : PySem.W.Frag) : R2 := fun x y H Q => ∃ a b xs ys, x = .ref a ∧ y = .ref b ∧ SqT K H a xs ∧ SqT K H b ys ∧ xs.length + ys.length ≤ sizeLine ∧
  (xs = [] → Q (.ref b) H) ∧ (xs ≠ [] → ys = [] → Q (.ref a) H) ∧ (xs ≠ [] → ys ≠ [] → newT H (xs ++ ys) Q)
theorem op_catZ : OpR X (binaryOp .Add) (rCatZ X.K) := by
  intro pins s σ H x y v u Q I rx ry hq
  obtain ⟨a, b, xs, ys, rfl, rfl, ha, hb, hz, q0, q1, q2⟩ := hq
  cases rx
  cases ry
  obtain ⟨its, r1, p1, _⟩ := I.tuple ha
  obtain ⟨its2, r2, p2, _⟩ := I.tuple hb
  by_cases hx : xs = []
  · subst hx
    cases r1
    exact cat_tup0 p1 p2 ⟨.ref b, H, I, rfl, q0 rfl⟩
  · refine HT.cat_tup p1 p2 (fun z => hx (r1.nil_iff.mp z)) (fun z => ⟨.ref a, H, I, rfl, q1 hx (r2.nil_iff.mp z)⟩) (fun z => ?_) (by rw [← r1.length, ← r2.length]; exact hz)
    exact tupd I (t := s.toks) (by rw [List.length_append]; exact hz) (r1.append r2) (q2 hx fun w => z (r2.nil_iff.mpr w))
/-- t[lo:hi] -/
def rSlZ (K : PySem.W.Frag) : V → Option Int → Option Int → Hp → VK → Prop := fun x lo hi H Q => ∃ a xs, x = .ref a ∧ SqT K H a xs ∧
  (HT.sIx xs.length 0 lo = 0 ∧ HT.sIx xs.length xs.length hi = xs.length → Q (.ref a) H) ∧ (¬ (HT.sIx xs.length 0 lo = 0 ∧ HT.sIx xs.length xs.length hi = xs.length) → newT H (cutV xs lo hi) Q)
theorem sl_tupZ : SlR X (rSlZ X.K) := by
  intro pins s σ H x v vl vu lo hi sl Q I rx hs pl pu hq
  obtain ⟨a, xs, rfl, hx, q1, q2⟩ := hq
  cases rx
  obtain ⟨its, r, ht, hz⟩ := I.tuple hx
  have hlen : its.toArray.size = xs.length := by rw [List.size_toArray]; exact r.length.symm
  refine ⟨"tuple", _, PyProof.Rows.slot_tuple_getitem.lookup, ht.typeIs, ?_⟩
  by_cases hw : HT.sIx xs.length 0 lo = 0 ∧ HT.sIx xs.length xs.length hi = xs.length
  · exact getItem_tuple_whole ht hs pl pu (by rw [hlen]; exact hw) ⟨.ref a, H, I, rfl, q1 hw⟩
  · refine HT.getItem_tuple_cut ht hs pl pu (by rw [hlen]; exact hw) ?_ (by rw [hlen]; exact hz)
    rw [hlen]
    exact tupd I (t := s.toks) (Nat.le_trans (cutV_length xs lo hi) hz) ((r.drop (HT.sIx xs.length 0 lo)).take (HT.sIx xs.length xs.length hi - HT.sIx xs.length 0 lo)) (q2 hw)
/-- t * k, twice or more -/
def rRepZ (K : PySem.W.Frag) : R2 := fun x y H Q => ∃ l k xs, x = .ref l ∧ y = .int k ∧ SqT K H l xs ∧ xs ≠ [] ∧ 2 ≤ k ∧ k ≤ 1000 ∧ xs.length ≤ 1000 ∧ newT H (List.replicate k.toNat xs).flatten Q
theorem op_repZ : OpR X (binaryOp .Mult) (rRepZ X.K) := by
  intro pins s σ H x y v u Q I rx ry hq
  obtain ⟨l, k, xs, rfl, rfl, hT, hne, h1, h2, hz, q⟩ := hq
  cases rx
  obtain ⟨t, rfl⟩ := ry
  obtain ⟨its, r, ⟨⟨cls, dd, data, sl⟩, ho, hc, n, hd⟩, hs⟩ := I.tuple hT
  simp only at hc hd
  subst hc hd
  have hle : its.length = xs.length := r.length.symm
  have hi : its.toArray.isEmpty = false := by
    cases its with
    | nil => exact absurd (List.eq_nil_of_length_eq_zero hle.symm) hne
    | cons a b => rfl
  have hsz0 : its.toArray.size = xs.length := by rw [List.size_toArray, hle]
  have hm : ((its.toArray.size : Nat) : Int) * k ≤ 1000000 := by
    rw [hsz0]
    have a1 := Int.mul_le_mul_of_nonneg_right (show ((xs.length : Nat) : Int) ≤ 1000 by omega) (show 0 ≤ k by omega)
    omega
  have hm2 : k.toNat * xs.length ≤ 1000 * 1000 := Nat.mul_le_mul (by omega) hz
  have fl : (List.replicate k.toNat its).flatten.length ≤ sizeLine := by
    rw [PyProof.Rows.lm_len_rep_flat, hle, sizeLine_eq]
    omega
  have c0 : (decide (k < -(2 ^ 63)) || decide (k ≥ 2 ^ 63)) = false := by
    rw [decide_eq_false (show ¬ k < -(2 ^ 63) by omega), decide_eq_false (show ¬ k ≥ 2 ^ 63 by omega)]
    rfl
  have c1 : (its.toArray.isEmpty || k == 1) = false := by
    rw [hi, Bool.false_or]
    exact beq_eq_false_iff_ne.mpr (by omega)
  have c2 : (decide (k ≤ 0) || its.toArray.isEmpty) = false := by
    rw [hi, Bool.or_false]
    exact decide_eq_false (by omega)
  have c4 : Builtin.Tuple.tupleTooMany (((its.toArray.size : Nat) : Int) * k) = false := by
    unfold Builtin.Tuple.tupleTooMany
    rw [sizeLine_eq]
    exact decide_eq_false (by omega)
  refine wpAny_binaryOp_repeat_ref (T := "tuple") (U := "int") (by decide) ⟨_, ho, rfl⟩ (fun s' => typeIs_int s' k t)
    noFill_tuple_mul F.fills_int_mul F.slot_int_rmul repeat_tuple F.slot_int_index.lookup
    (call_meets F.slot_int_rmul (typeIs_int s k t) F.entry_int_rmul (F.args_int_rmul_2 _ _) (int_rmul_tuple k t l its.toArray n dd sl)
      ⟨ho, rfl, ⟨_, ho, rfl⟩, call_meets F.slot_tuple_mul ⟨_, ho, rfl⟩ F.entry_tuple_mul (F.args_tuple_mul_2 _ _)
        (tuple_mulW l its.toArray n dd sl k t c0 c1 c2 (by omega) c4 (by rw [size_rep, List.size_toArray]; exact fl)) ⟨ho, ?_⟩⟩)
  rw [size_rep]
  refine tupd I (t := s.toks) ?_ (r.rep k.toNat) q
  rw [PyProof.Rows.lm_len_rep_flat, sizeLine_eq]
  omega
end
end TL
/-! The machine's values and heap beside the hand layer's. -/
namespace TL
open PySem L2

/-! ### the trie -/
theorem Tr.get_nil (n : Nat) : Tr.nil.get n = none := rfl
theorem bsel {α : Type} {c : Bool} {a b : α} : (bif c then a else b) = if c = true then a else b := by cases c <;> rfl
theorem beq0 {n : Nat} : (n.beq 0 = true) ↔ n = 0 := by cases n <;> simp [Nat.beq]
theorem nbeq {n m : Nat} : (n.beq m = true) ↔ n = m := by rw [Nat.beq_eq]
theorem Tr.set_same : ∀ (f : Nat) (t : Tr) (n : Nat) (o : HW), n < f → (Tr.set f t n o).get n = some o
  | 0, _, _, _, h => absurd h (Nat.not_lt_zero _)
  | f + 1, .nil, n, o, h => by
    unfold Tr.set
    by_cases h0 : n = 0
    · subst h0; rfl
    · have e0 : n.beq 0 = false := by rw [← Bool.not_eq_true, beq0]; exact h0
      rw [e0, cond_false]
      by_cases h1 : n % 2 = 1
      · have e1 : (n % 2).beq 1 = true := nbeq.mpr h1
        rw [e1, cond_true]
        unfold Tr.get
        rw [e0, cond_false, e1, cond_true]
        exact Tr.set_same f .nil (n / 2) o (by omega)
      · have e1 : (n % 2).beq 1 = false := by rw [← Bool.not_eq_true, nbeq]; exact h1
        rw [e1, cond_false]
        unfold Tr.get
        rw [e0, cond_false, e1, cond_false]
        exact Tr.set_same f .nil (n / 2 - 1) o (by omega)
  | f + 1, .node l v r, n, o, h => by
    unfold Tr.set
    by_cases h0 : n = 0
    · subst h0; rfl
    · have e0 : n.beq 0 = false := by rw [← Bool.not_eq_true, beq0]; exact h0
      rw [e0, cond_false]
      by_cases h1 : n % 2 = 1
      · have e1 : (n % 2).beq 1 = true := nbeq.mpr h1
        rw [e1, cond_true]
        unfold Tr.get
        rw [e0, cond_false, e1, cond_true]
        exact Tr.set_same f l (n / 2) o (by omega)
      · have e1 : (n % 2).beq 1 = false := by rw [← Bool.not_eq_true, nbeq]; exact h1
        rw [e1, cond_false]
        unfold Tr.get
        rw [e0, cond_false, e1, cond_false]
        exact Tr.set_same f r (n / 2 - 1) o (by omega)
theorem Tr.set_ne : ∀ (f : Nat) (t : Tr) (n m : Nat) (o : HW), n ≠ m → (Tr.set f t n o).get m = t.get m
  | 0, _, _, _, _, _ => rfl
  | f + 1, .nil, n, m, o, h => by
    unfold Tr.set
    by_cases h0 : n = 0
    · subst h0
      have em : m.beq 0 = false := by rw [← Bool.not_eq_true, beq0]; exact fun e => h e.symm
      simp only [show Nat.beq 0 0 = true from rfl, cond_true, Tr.get, em, cond_false]
      cases (m % 2).beq 1 <;> rfl
    · have e0 : n.beq 0 = false := by rw [← Bool.not_eq_true, beq0]; exact h0
      rw [e0, cond_false]
      by_cases h1 : n % 2 = 1
      · have e1 : (n % 2).beq 1 = true := nbeq.mpr h1
        rw [e1, cond_true]
        unfold Tr.get
        by_cases m0 : m = 0
        · subst m0; rfl
        · have f0 : m.beq 0 = false := by rw [← Bool.not_eq_true, beq0]; exact m0
          rw [f0, cond_false]
          by_cases m1 : m % 2 = 1
          · have f1 : (m % 2).beq 1 = true := nbeq.mpr m1
            rw [f1, cond_true]
            exact Tr.set_ne f .nil _ _ o (by omega)
          · have f1 : (m % 2).beq 1 = false := by rw [← Bool.not_eq_true, nbeq]; exact m1
            rw [f1, cond_false]; rfl
      · have e1 : (n % 2).beq 1 = false := by rw [← Bool.not_eq_true, nbeq]; exact h1
        rw [e1, cond_false]
        unfold Tr.get
        by_cases m0 : m = 0
        · subst m0; rfl
        · have f0 : m.beq 0 = false := by rw [← Bool.not_eq_true, beq0]; exact m0
          rw [f0, cond_false]
          by_cases m1 : m % 2 = 1
          · have f1 : (m % 2).beq 1 = true := nbeq.mpr m1
            rw [f1, cond_true]; rfl
          · have f1 : (m % 2).beq 1 = false := by rw [← Bool.not_eq_true, nbeq]; exact m1
            rw [f1, cond_false]
            exact Tr.set_ne f .nil _ _ o (by omega)
  | f + 1, .node l v r, n, m, o, h => by
    unfold Tr.set
    by_cases h0 : n = 0
    · subst h0
      have em : m.beq 0 = false := by rw [← Bool.not_eq_true, beq0]; exact fun e => h e.symm
      simp only [show Nat.beq 0 0 = true from rfl, cond_true, Tr.get, em, cond_false]
    · have e0 : n.beq 0 = false := by rw [← Bool.not_eq_true, beq0]; exact h0
      rw [e0, cond_false]
      by_cases h1 : n % 2 = 1
      · have e1 : (n % 2).beq 1 = true := nbeq.mpr h1
        rw [e1, cond_true]
        unfold Tr.get
        by_cases m0 : m = 0
        · subst m0; rfl
        · have f0 : m.beq 0 = false := by rw [← Bool.not_eq_true, beq0]; exact m0
          rw [f0, cond_false, cond_false]
          by_cases m1 : m % 2 = 1
          · have f1 : (m % 2).beq 1 = true := nbeq.mpr m1
            rw [f1, cond_true, cond_true]
            exact Tr.set_ne f l _ _ o (by omega)
          · have f1 : (m % 2).beq 1 = false := by rw [← Bool.not_eq_true, nbeq]; exact m1
            rw [f1, cond_false, cond_false]
      · have e1 : (n % 2).beq 1 = false := by rw [← Bool.not_eq_true, nbeq]; exact h1
        rw [e1, cond_false]
        unfold Tr.get
        by_cases m0 : m = 0
        · subst m0; rfl
        · have f0 : m.beq 0 = false := by rw [← Bool.not_eq_true, beq0]; exact m0
          rw [f0, cond_false, cond_false]
          by_cases m1 : m % 2 = 1
          · have f1 : (m % 2).beq 1 = true := nbeq.mpr m1
            rw [f1, cond_true, cond_true]
          · have f1 : (m % 2).beq 1 = false := by rw [← Bool.not_eq_true, nbeq]; exact m1
            rw [f1, cond_false, cond_false]
            exact Tr.set_ne f r _ _ o (by omega)
theorem Hw.set_same (h : Hw) (n : Nat) (o : HW) : (h.set n o).get n = some o := Tr.set_same _ _ _ _ (Nat.lt_succ_self _)
theorem Hw.set_ne (h : Hw) {n m : Nat} (o : HW) (e : n ≠ m) : (h.set n o).get m = h.get m := Tr.set_ne _ _ _ _ _ e
theorem Hw.new_same (h : Hw) (o : HW) : (h.new o).get h.n = some o := Tr.set_same _ _ _ _ (Nat.lt_succ_self _)
theorem Hw.new_ne (h : Hw) {m : Nat} (o : HW) (e : h.n ≠ m) : (h.new o).get m = h.get m := Tr.set_ne _ _ _ _ _ e

/-! ### values beside values -/
/-- a list that is never changed: locked, or of the written part -/
def FzL (K : PySem.W.Frag) (H : Hp) (a : Addr) (vs : List V) : Prop := (∃ o, H a = some (.frz o (.lst vs))) ∨ (∃ (o : Obj) (its : Array Value) (n : Nat), K.lookup a = some o ∧ o.cls = .type "list" ∧ o.dict = none ∧ o.data = .seq its n ∧ its.size ≤ sizeLine ∧ Vals vs its.toList)
theorem FzL.seq {K : PySem.W.Frag} {H : Hp} {a : Addr} {vs : List V} (e : FzL K H a vs) : SqL K H a vs := by
  rcases e with ⟨o, e⟩ | e
  · exact .inl (.inr ⟨o, e⟩)
  · exact .inr e
mutual
def VR (K : PySem.W.Frag) (ρ : List Addr) (H : Hp) : W → V → Prop
  | .non, v => v = .non
  | .bl b, v => v = .bl b
  | .int i, v => v = .int i
  | .str s, v => v = .str s
  | .tup ws, v => ∃ a vs, v = .ref a ∧ FzT K H a vs ∧ VRs K ρ H ws vs
  | .frl ws, v => ∃ a vs, v = .ref a ∧ FzL K H a vs ∧ VRs K ρ H ws vs
  | .ref n, v => ∃ a, ρ[n]? = some a ∧ v = .ref a
def VRs (K : PySem.W.Frag) (ρ : List Addr) (H : Hp) : List W → List V → Prop
  | [], vs => vs = []
  | w :: ws, vs => ∃ v r, vs = v :: r ∧ VR K ρ H w v ∧ VRs K ρ H ws r
end
def KRs (K : PySem.W.Frag) (ρ : List Addr) (H : Hp) : List (L2.Key × W) → List (L2.Key × V) → Prop
  | [], vs => vs = []
  | (k, w) :: ws, vs => ∃ v r, vs = (k, v) :: r ∧ VR K ρ H w v ∧ KRs K ρ H ws r
def OR (K : PySem.W.Frag) (ρ : List Addr) (H : Hp) (a : Addr) : HW → Prop
  | .lst xs => ∃ vs, H a = some (.lst vs) ∧ VRs K ρ H xs vs
  | .dct kvs => ∃ vs, H a = some (.dK vs) ∧ KRs K ρ H kvs vs
structure Rel (K : PySem.W.Frag) (ρ : List Addr) (h : Hw) (H : Hp) : Prop where
  len : ρ.length = h.n
  nd : ρ.Nodup
  ob : ∀ (n : Nat) (a : Addr), ρ[n]? = some a → ∃ o, h.get n = some o ∧ OR K ρ H a o
  out : ∀ n, h.n ≤ n → h.get n = none
structure Stp (ρ ρ' : List Addr) (H H' : Hp) : Prop where
  pre : ρ <+: ρ'
  fr : ∀ a o, H a = some o → a ∉ ρ → H' a = some o
  nw : ∀ a, a ∈ ρ' → a ∉ ρ → H a = none
  fz : ∀ a o u, H a = some (.frz o u) → H' a = some (.frz o u)

variable {K : PySem.W.Frag} {ρ ρ' ρ1 ρ2 : List Addr} {h h' h1 h2 : Hw} {H H' H1 H2 : Hp}

theorem VRs.length : ∀ {ws : List W} {vs : List V}, VRs K ρ H ws vs → vs.length = ws.length
  | [], _, e => by unfold VRs at e; rw [e]; rfl
  | _ :: _, _, e => by
    unfold VRs at e
    obtain ⟨v, r, e1, _, e2⟩ := e
    subst e1
    rw [List.length_cons, List.length_cons, VRs.length e2]

theorem Stp.refl : Stp ρ ρ H H := ⟨List.prefix_refl _, fun _ _ e _ => e, fun _ a b => absurd a b, fun _ _ _ e => e⟩
theorem Stp.trans (a : Stp ρ ρ1 H H1) (b : Stp ρ1 ρ2 H1 H2) : Stp ρ ρ2 H H2 := by
  refine ⟨a.pre.trans b.pre, fun c o e n => ?_, fun c m n => ?_, fun c o u e => b.fz c o u (a.fz c o u e)⟩
  · refine b.fr c o (a.fr c o e n) fun m => ?_
    rw [a.nw c m n] at e
    cases e
  · by_cases m1 : c ∈ ρ1
    · exact a.nw c m1 n
    · have q := b.nw c m m1
      cases e : H c with
      | none => rfl
      | some o =>
        rw [a.fr c o e n] at q
        cases q

theorem FzT.mv (s : Stp ρ ρ' H H') {a : Addr} {vs : List V} (e : FzT K H a vs) : FzT K H' a vs := by
  rcases e with ⟨o, e, d⟩ | e
  · exact .inl ⟨o, s.fz _ _ _ e, d⟩
  · exact .inr e
theorem pre_get {α : Type} {l l' : List α} (p : l <+: l') {n : Nat} {a : α} (e : l[n]? = some a) : l'[n]? = some a := by
  obtain ⟨t, rfl⟩ := p
  rw [List.getElem?_append_left (List.getElem?_eq_some_iff.mp e).1]
  exact e
mutual
theorem VR.mv (r : Rel K ρ h H) (s : Stp ρ ρ' H H') : ∀ {w : W} {v : V}, VR K ρ H w v → VR K ρ' H' w v
  | .non, _, e => by unfold VR at e ⊢; exact e
  | .bl _, _, e => by unfold VR at e ⊢; exact e
  | .int _, _, e => by unfold VR at e ⊢; exact e
  | .str _, _, e => by unfold VR at e ⊢; exact e
  | .tup ws, _, e => by
    unfold VR at e ⊢
    obtain ⟨a, vs, e1, e2, e3⟩ := e
    exact ⟨a, vs, e1, e2.mv s, VRs.mv r s e3⟩
  | .frl ws, _, e => by
    unfold VR at e ⊢
    obtain ⟨a, vs, e1, e2, e3⟩ := e
    exact ⟨a, vs, e1, e2.elim (fun ⟨o, q⟩ => .inl ⟨o, s.fz _ _ _ q⟩) .inr, VRs.mv r s e3⟩
  | .ref n, _, e => by
    unfold VR at e ⊢
    obtain ⟨a, e1, e2⟩ := e
    exact ⟨a, pre_get s.pre e1, e2⟩
theorem VRs.mv (r : Rel K ρ h H) (s : Stp ρ ρ' H H') : ∀ {ws : List W} {vs : List V}, VRs K ρ H ws vs → VRs K ρ' H' ws vs
  | [], _, e => by unfold VRs at e ⊢; exact e
  | _ :: _, _, e => by
    unfold VRs at e ⊢
    obtain ⟨v, q, e1, e2, e3⟩ := e
    exact ⟨v, q, e1, VR.mv r s e2, VRs.mv r s e3⟩
end
theorem KRs.mv (r : Rel K ρ h H) (s : Stp ρ ρ' H H') : ∀ {ws : List (L2.Key × W)} {vs : List (L2.Key × V)}, KRs K ρ H ws vs → KRs K ρ' H' ws vs
  | [], _, e => by unfold KRs at e ⊢; exact e
  | (_, _) :: _, _, e => by
    unfold KRs at e ⊢
    obtain ⟨v, q, e1, e2, e3⟩ := e
    exact ⟨v, q, e1, e2.mv r s, KRs.mv r s e3⟩

/-- a step that leaves the machine's heap as it is -/
theorem Rel.same (r : Rel K ρ h H) (s : Stp ρ ρ H H') (k : ∀ a o, H a = some o → H' a = some o) : Rel K ρ h H' := by
  refine ⟨r.len, r.nd, fun n a e => ?_, r.out⟩
  obtain ⟨o, e1, q⟩ := r.ob n a e
  refine ⟨o, e1, ?_⟩
  cases o with
  | lst xs => obtain ⟨vs, q1, q2⟩ := q; exact ⟨vs, k _ _ q1, q2.mv r s⟩
  | dct kvs => obtain ⟨vs, q1, q2⟩ := q; exact ⟨vs, k _ _ q1, q2.mv r s⟩
/-- a machine address is tracked -/
theorem Rel.trk (r : Rel K ρ h H) {a : Addr} (m : a ∈ ρ) : H a ≠ none := fun e => by
  obtain ⟨n, hn⟩ := List.getElem?_of_mem m
  obtain ⟨o, _, q⟩ := r.ob n a hn
  cases o with
  | lst xs => obtain ⟨vs, q, _⟩ := q; rw [e] at q; cases q
  | dct kvs => obtain ⟨vs, q, _⟩ := q; rw [e] at q; cases q
/-- something new stands at p, which the machine does not know -/
theorem Stp.laid (p : Addr) (o : HO) (hp : H p = none) : Stp ρ ρ H (upd H p o) :=
  ⟨List.prefix_refl _, fun a ob e _ => by rw [upd_ne (ne_of_none e hp)]; exact e, fun _ a b => absurd a b, fun a ob u e => by rw [upd_ne (ne_of_none e hp)]; exact e⟩
theorem Rel.laid (r : Rel K ρ h H) (p : Addr) (o : HO) (hp : H p = none) : Rel K ρ h (upd H p o) :=
  r.same (Stp.laid p o hp) fun a ob e => by rw [upd_ne (ne_of_none e hp)]; exact e
theorem Hw.nsame (h : Hw) (o : HW) : (h.new o).n = h.n + 1 := rfl
/-- a new machine object -/
theorem Stp.new (r : Rel K ρ h H) (p : Addr) (o : HO) (hp : H p = none) : Stp ρ (ρ ++ [p]) H (upd H p o) := by
  refine ⟨List.prefix_append _ _, fun a ob e _ => by rw [upd_ne (ne_of_none e hp)]; exact e, fun a m n => ?_, fun a ob u e => by rw [upd_ne (ne_of_none e hp)]; exact e⟩
  rcases List.mem_append.mp m with m | m
  · exact absurd m n
  · rw [List.mem_singleton.mp m]; exact hp
theorem Rel.new (r : Rel K ρ h H) (p : Addr) (ho : HO) (o : HW) (hp : H p = none) (q : OR K (ρ ++ [p]) (upd H p ho) p o) : Rel K (ρ ++ [p]) (h.new o) (upd H p ho) := by
  have np : p ∉ ρ := fun m => r.trk m hp
  have s := Stp.new r p ho hp
  refine ⟨by rw [List.length_append, r.len]; rfl, ?_, fun n a e => ?_, fun n hn => ?_⟩
  · rw [List.nodup_append]
    exact ⟨r.nd, by simp, fun a m b m' z => by rw [List.mem_singleton.mp m'] at z; exact np (z ▸ m)⟩
  · by_cases hn : n < ρ.length
    · rw [List.getElem?_append_left hn] at e
      obtain ⟨ob, e1, q1⟩ := r.ob n a e
      have ne : h.n ≠ n := by rw [← r.len]; omega
      refine ⟨ob, by rw [Hw.new_ne h o ne]; exact e1, ?_⟩
      have na : a ≠ p := fun z => np (z ▸ List.mem_of_getElem? e)
      cases ob with
      | lst xs => obtain ⟨vs, q1, q2⟩ := q1; exact ⟨vs, by rw [upd_ne na]; exact q1, q2.mv r s⟩
      | dct kvs => obtain ⟨vs, q1, q2⟩ := q1; exact ⟨vs, by rw [upd_ne na]; exact q1, q2.mv r s⟩
    · have hl : n = ρ.length := by
        have := (List.getElem?_eq_some_iff.mp e).1
        rw [List.length_append] at this
        simp at this
        omega
      subst hl
      rw [List.getElem?_append_right (Nat.le_refl _)] at e
      simp at e
      subst e
      exact ⟨o, by rw [r.len]; exact Hw.new_same h o, q⟩
  · have hn' : h.n + 1 ≤ n := hn
    rw [Hw.new_ne h o (by omega)]
    exact r.out n (by omega)
/-- a machine object is written -/
theorem Stp.wr {n : Nat} {p : Addr} (ho : HO) (e : ρ[n]? = some p) (nz : ∀ o u, H p ≠ some (.frz o u)) : Stp ρ ρ H (upd H p ho) := by
  refine ⟨List.prefix_refl _, fun a ob q m => ?_, fun _ a b => absurd a b, fun a ob u q => ?_⟩
  · have na : a ≠ p := by rintro rfl; exact m (List.mem_of_getElem? e)
    rw [upd_ne na]; exact q
  · have na : a ≠ p := by rintro rfl; exact nz ob u q
    rw [upd_ne na]; exact q
theorem Rel.wr (r : Rel K ρ h H) {n : Nat} {p : Addr} (ho : HO) (o : HW) (e : ρ[n]? = some p) (nz : ∀ o u, H p ≠ some (.frz o u)) (q : OR K ρ (upd H p ho) p o) : Rel K ρ (h.set n o) (upd H p ho) := by
  have s : Stp ρ ρ H (upd H p ho) := Stp.wr ho e nz
  refine ⟨r.len, r.nd, fun m a e1 => ?_, fun m hm => ?_⟩
  · by_cases hmn : m = n
    · subst hmn
      rw [e] at e1; cases e1
      exact ⟨o, Hw.set_same h m o, q⟩
    · obtain ⟨ob, e2, q1⟩ := r.ob m a e1
      have na : a ≠ p := fun z => hmn (by
        subst z
        obtain ⟨l1, x1⟩ := List.getElem?_eq_some_iff.mp e
        obtain ⟨l2, x2⟩ := List.getElem?_eq_some_iff.mp e1
        exact (List.getElem_inj r.nd).mp (x2.trans x1.symm))
      refine ⟨ob, by rw [Hw.set_ne h o (Ne.symm hmn)]; exact e2, ?_⟩
      cases ob with
      | lst xs => obtain ⟨vs, q1, q2⟩ := q1; exact ⟨vs, by rw [upd_ne na]; exact q1, q2.mv r s⟩
      | dct kvs => obtain ⟨vs, q1, q2⟩ := q1; exact ⟨vs, by rw [upd_ne na]; exact q1, q2.mv r s⟩
  · have hm' : h.n ≤ m := hm
    have ne : n ≠ m := by
      have := (List.getElem?_eq_some_iff.mp e).1
      rw [r.len] at this
      omega
    rw [Hw.set_ne h o ne]
    exact r.out m hm'
/-- what stands at a reference -/
theorem Rel.lst (r : Rel K ρ h H) {n : Nat} {xs : List W} (e : h.get n = some (.lst xs)) {v : V} (q : VR K ρ H (.ref n) v) : ∃ a vs, v = .ref a ∧ ρ[n]? = some a ∧ H a = some (.lst vs) ∧ VRs K ρ H xs vs := by
  unfold VR at q
  obtain ⟨a, e1, e2⟩ := q
  obtain ⟨o, e3, q⟩ := r.ob n a e1
  rw [e] at e3; cases e3
  obtain ⟨vs, q1, q2⟩ := q
  exact ⟨a, vs, e2, e1, q1, q2⟩
theorem Rel.dct (r : Rel K ρ h H) {n : Nat} {xs : List (L2.Key × W)} (e : h.get n = some (.dct xs)) {v : V} (q : VR K ρ H (.ref n) v) : ∃ a vs, v = .ref a ∧ ρ[n]? = some a ∧ H a = some (.dK vs) ∧ KRs K ρ H xs vs := by
  unfold VR at q
  obtain ⟨a, e1, e2⟩ := q
  obtain ⟨o, e3, q⟩ := r.ob n a e1
  rw [e] at e3; cases e3
  obtain ⟨vs, q1, q2⟩ := q
  exact ⟨a, vs, e2, e1, q1, q2⟩
end TL
/-! What a run of the machine promises of the reading. -/
namespace TL
open PySem L2

/-- exceptions: the machine's class number, its data; the class and its own dict -/
def XR (ct : Nat → Option Value) (c : Nat) (ds : List W) (cls : Value) (dd : Option Addr) : Prop := ds = [] ∧ ct c = some cls ∧ dd = none

def rd (K : PySem.W.Frag) (ct : Nat → Option Value) (Wx : XK) (ρ : List Addr) (H : Hp) {α : Type} : R α → (α → List Addr → Hw → Hp → Prop) → Prop
  | .ok a h', Q => ∀ ρ' H', Stp ρ ρ' H H' → Rel K ρ' h' H' → Q a ρ' h' H'
  | .exc c d h', _ => ∀ ρ' H' cls dd, Stp ρ ρ' H H' → Rel K ρ' h' H' → XR ct c d cls dd → Wx cls dd H'
  | .err, _ => False

section
variable {K : PySem.W.Frag} {ct : Nat → Option Value} {Wx : XK} {ρ ρ1 : List Addr} {H H1 : Hp} {α β : Type} {h : Hw}
theorem rd.imp {r : R α} {Q Q' : α → List Addr → Hw → Hp → Prop} (x : rd K ct Wx ρ H r Q) (f : ∀ a ρ' h' H', Stp ρ ρ' H H' → Rel K ρ' h' H' → Q a ρ' h' H' → Q' a ρ' h' H') : rd K ct Wx ρ H r Q' := by
  cases r with
  | ok a h' => exact fun ρ' H' s l => f a ρ' h' H' s l (x ρ' H' s l)
  | exc c d h' => exact x
  | err => exact x
theorem rd.mv {r : R α} {Q : α → List Addr → Hw → Hp → Prop} (x : rd K ct Wx ρ H r Q) (s : Stp ρ ρ1 H H1) : rd K ct Wx ρ1 H1 r Q := by
  cases r with
  | ok a h' => exact fun ρ' H' s' l => x ρ' H' (s.trans s') l
  | exc c d h' => exact fun ρ' H' cls dd s' l => x ρ' H' cls dd (s.trans s') l
  | err => exact x
theorem rd.bind {r : R α} {f : α → Hw → R β} {Q : β → List Addr → Hw → Hp → Prop} (x : rd K ct Wx ρ H (r.bind f) Q) : rd K ct Wx ρ H r (fun a ρ' h' H' => rd K ct Wx ρ' H' (f a h') Q) := by
  cases r with
  | ok a h' => exact fun ρ' H' s l => rd.mv (r := f a h') x s
  | exc c d h' => exact x
  | err => exact x
theorem rd.join {r : R α} {f : α → Hw → R β} {Q : β → List Addr → Hw → Hp → Prop} (rl : Rel K ρ h H) (x : rd K ct Wx ρ H r (fun a ρ' h' H' => rd K ct Wx ρ' H' (f a h') Q)) (e : r = .ok a h) : rd K ct Wx ρ H (r.bind f) Q := by
  subst e
  exact x ρ H Stp.refl rl
/-- at once -/
theorem rd.now {a : α} {Q : α → List Addr → Hw → Hp → Prop} (x : rd K ct Wx ρ H (.ok a h) Q) (l : Rel K ρ h H) : Q a ρ h H := x ρ H Stp.refl l
end

structure ER (K : PySem.W.Frag) (ρ : List Addr) (H : Hp) (env : Env) (σ : L2.St) : Prop where
  len : env.length = σ.length
  get : ∀ (i : Nat) (w : W), env[i]? = some (some w) → ∃ v, σ[i]? = some (some v) ∧ VR K ρ H w v

section
variable {K : PySem.W.Frag} {ρ ρ' : List Addr} {H H' : Hp} {h : Hw} {env : Env} {σ : L2.St}
theorem ER.mv (e : ER K ρ H env σ) (r : Rel K ρ h H) (s : Stp ρ ρ' H H') : ER K ρ' H' env σ :=
  ⟨e.len, fun i w q => let ⟨v, q1, q2⟩ := e.get i w q; ⟨v, q1, q2.mv r s⟩⟩
theorem ER.set (e : ER K ρ H env σ) (i : Nat) {w : W} {v : V} (q : VR K ρ H w v) : ER K ρ H (env.set i (some w)) (σ.set i (some v)) := by
  refine ⟨by rw [List.length_set, List.length_set, e.len], fun j u hj => ?_⟩
  by_cases hij : i = j
  · subst hij
    by_cases hl : i < env.length
    · rw [List.getElem?_set_self hl] at hj
      cases hj
      exact ⟨v, by rw [List.getElem?_set_self (by rw [← e.len]; exact hl)], q⟩
    · rw [List.getElem?_eq_none (by rw [List.length_set]; omega)] at hj
      cases hj
  · rw [List.getElem?_set_ne hij] at hj
    rw [List.getElem?_set_ne hij]
    exact e.get j u hj
theorem ER.setNone (e : ER K ρ H env σ) (i : Nat) : ER K ρ H (env.set i none) (σ.set i none) := by
  refine ⟨by rw [List.length_set, List.length_set, e.len], fun j u hj => ?_⟩
  by_cases hij : i = j
  · subst hij
    by_cases hl : i < env.length
    · rw [List.getElem?_set_self hl] at hj
      cases hj
    · rw [List.getElem?_eq_none (by rw [List.length_set]; omega)] at hj
      cases hj
  · rw [List.getElem?_set_ne hij] at hj
    rw [List.getElem?_set_ne hij]
    exact e.get j u hj
theorem ER.wipe (e : ER K ρ H env σ) : ∀ vs : List Nat, ER K ρ H (wipeW env vs) (wipe σ vs)
  | [] => e
  | v :: vs => (ER.wipe e vs).setNone v
end

/-! ### readings -/
def tE (K : PySem.W.Frag) (ct : Nat → Option Value) (Wx : WX) (m : Env → Hw → R W) : TE := fun σ H Q => ∃ env ρ h, ER K ρ H env σ ∧ Rel K ρ h H ∧ rd K ct (fun c d => Wx c d σ) ρ H (m env h) fun w ρ' _ H' => ∀ v, VR K ρ' H' w v → Q v H'
def tT (K : PySem.W.Frag) (ct : Nat → Option Value) (Wx : WX) (m : Env → Hw → R Bool) : TT := fun σ H Q => ∃ env ρ h, ER K ρ H env σ ∧ Rel K ρ h H ∧ rd K ct (fun c d => Wx c d σ) ρ H (m env h) fun b _ _ H' => Q b H'
def tA (K : PySem.W.Frag) (ct : Nat → Option Value) (Wx : WX) (m : Env → Hw → R (List W)) : TA := fun σ H Q => ∃ env ρ h, ER K ρ H env σ ∧ Rel K ρ h H ∧ rd K ct (fun c d => Wx c d σ) ρ H (m env h) fun ws ρ' _ H' => ∀ vs, VRs K ρ' H' ws vs → Q vs H'

section
variable {X : Cx}
theorem PE.mo {e : Expr} {t t' : TE} (p : PE X e t) (f : ∀ σ H Q, t' σ H Q → t σ H Q) : PE X e t' := ⟨fun pins s σ H Q I q => p.run pins s σ H Q I (f σ H Q q)⟩
theorem PT.mo {e : Expr} {t t' : TT} (p : PT X e t) (f : ∀ σ H Q, t' σ H Q → t σ H Q) : PT X e t' := ⟨fun pins s σ H Q I q => p.run pins s σ H Q I (f σ H Q q)⟩
theorem PA.mo {e : List Expr} {t t' : TA} (p : PA X e t) (f : ∀ σ H Q, t' σ H Q → t σ H Q) : PA X e t' := ⟨fun pos pins s σ H Q I q => p.run pos pins s σ H Q I (f σ H Q q)⟩
theorem PS.mo {e : Stmt} {t t' : TS} (p : PS X e t) (f : ∀ D σ H, t' D σ H → t D σ H) : PS X e t' := ⟨fun pins s σ H D I q => p.run pins s σ H D I (f D σ H q)⟩
theorem PSs.mo {e : List Stmt} {t t' : TS} (p : PSs X e t) (f : ∀ D σ H, t' D σ H → t D σ H) : PSs X e t' := ⟨fun pins s σ H D I q => p.run pins s σ H D I (f D σ H q)⟩
theorem TE.mono_run {e : Expr} {t : TE} (p : PE X e t) : ∀ (pins : List (Addr × Obj)) (s : Shared) (σ : L2.St) (H : Hp) (Q : VK), Inv X pins σ H s → t σ H Q → wpAny (model X.prog X.w) X.A (eval e X.env) (EP X pins σ Q) X.xe s := p.run
end

/-! ### data -/
section
variable {K : PySem.W.Frag} {ρ : List Addr} {H : Hp} {h : Hw}
mutual
theorem toD_ok (r : Rel K ρ h H) : ∀ (f : Nat) (w : W) (v : V) (d : PyData), toD f h w = some d → VR K ρ H w v → Dp K H v d
  | 0, _, _, _, e, _ => by unfold toD at e; cases e
  | _ + 1, .non, _, _, e, q => by unfold toD at e; unfold VR at q; cases e; subst q; exact .non
  | _ + 1, .bl b, _, _, e, q => by unfold toD at e; unfold VR at q; cases e; subst q; exact .bl b
  | _ + 1, .int i, _, _, e, q => by unfold toD at e; unfold VR at q; cases e; subst q; exact .int i
  | _ + 1, .str x, _, _, e, q => by unfold toD at e; unfold VR at q; cases e; subst q; exact .str x
  | f + 1, .tup xs, _, _, e, q => by
    unfold toD at e
    unfold VR at q
    obtain ⟨a, vs, rfl, q1, q2⟩ := q
    cases e1 : optAll (xs.map (toD f h)) with
    | none => rw [e1] at e; cases e
    | some ds =>
      rw [e1] at e; cases e
      exact .tup q1.sq (toDs_ok r f xs vs ds e1 q2)
  | _ + 1, .frl _, _, _, e, _ => by unfold toD at e; cases e
  | f + 1, .ref n, _, _, e, q => by
    unfold toD at e
    cases e0 : h.get n with
    | none => rw [e0] at e; cases e
    | some o =>
      rw [e0] at e
      cases o with
      | dct kvs => cases e
      | lst xs =>
        obtain ⟨a, vs, rfl, _, q1, q2⟩ := r.lst e0 q
        cases e1 : optAll (xs.map (toD f h)) with
        | none => simp only [e1] at e; cases e
        | some ds =>
          simp only [e1] at e; cases e
          exact .lst (SqL.of q1) (toDs_ok r f xs vs ds e1 q2)
theorem toDs_ok (r : Rel K ρ h H) : ∀ (f : Nat) (ws : List W) (vs : List V) (ds : List PyData), optAll (ws.map (toD f h)) = some ds → VRs K ρ H ws vs → DpAll K H vs ds
  | f, [], _, _, e, q => by
    unfold VRs at q
    rw [List.map_nil] at e
    unfold optAll at e
    cases e; subst q; exact .nil
  | f, w :: ws, _, _, e, q => by
    unfold VRs at q
    obtain ⟨v, vs, rfl, q1, q2⟩ := q
    rw [List.map_cons] at e
    cases e1 : toD f h w with
    | none => rw [e1] at e; unfold optAll at e; cases e
    | some d =>
      rw [e1] at e
      unfold optAll at e
      cases e2 : optAll (ws.map (toD f h)) with
      | none => simp only [e2] at e; cases e
      | some ds =>
        simp only [e2] at e; cases e
        exact .cons (toD_ok r f w v d e1 q1) (toDs_ok r f ws vs ds e2 q2)
end
theorem VR.nodep_int {i : Int} {v : V} (q : VR K ρ H (.int i) v) : v = .int i := by unfold VR at q; exact q
theorem VR.nodep_bl {i : Bool} {v : V} (q : VR K ρ H (.bl i) v) : v = .bl i := by unfold VR at q; exact q
theorem VR.nodep_str {i : Str} {v : V} (q : VR K ρ H (.str i) v) : v = .str i := by unfold VR at q; exact q
theorem VR.nodep_non {v : V} (q : VR K ρ H .non v) : v = .non := by unfold VR at q; exact q
theorem VR.tup {ws : List W} {v : V} (q : VR K ρ H (.tup ws) v) : ∃ a vs, v = .ref a ∧ FzT K H a vs ∧ VRs K ρ H ws vs := by unfold VR at q; exact q
theorem VR.frl {ws : List W} {v : V} (q : VR K ρ H (.frl ws) v) : ∃ a vs, v = .ref a ∧ FzL K H a vs ∧ VRs K ρ H ws vs := by unfold VR at q; exact q
theorem VR.mk_int {i : Int} : VR K ρ H (.int i) (.int i) := by unfold VR; rfl
theorem VR.mk_bl {i : Bool} : VR K ρ H (.bl i) (.bl i) := by unfold VR; rfl
theorem VR.mk_str {i : Str} : VR K ρ H (.str i) (.str i) := by unfold VR; rfl
theorem VR.mk_non : VR K ρ H .non .non := by unfold VR; rfl
theorem VR.mk_tup {ws : List W} {a : Addr} {vs : List V} (q : FzT K H a vs) (q2 : VRs K ρ H ws vs) : VR K ρ H (.tup ws) (.ref a) := by unfold VR; exact ⟨a, vs, rfl, q, q2⟩
theorem VR.mk_ref {n : Nat} {a : Addr} (q : ρ[n]? = some a) : VR K ρ H (.ref n) (.ref a) := by unfold VR; exact ⟨a, q, rfl⟩
theorem VRs.nil_iff {vs : List V} : VRs K ρ H [] vs ↔ vs = [] := by unfold VRs; exact Iff.rfl
theorem VRs.cons_iff {w : W} {ws : List W} {vs : List V} : VRs K ρ H (w :: ws) vs ↔ ∃ v r, vs = v :: r ∧ VR K ρ H w v ∧ VRs K ρ H ws r := by
  constructor
  · intro q; unfold VRs at q; exact q
  · intro q; unfold VRs; exact q
theorem VRs.one {w : W} {vs : List V} (q : VRs K ρ H [w] vs) : ∃ v, vs = [v] ∧ VR K ρ H w v := by
  obtain ⟨v, r, e, q1, q2⟩ := VRs.cons_iff.mp q
  rw [VRs.nil_iff.mp q2] at e
  exact ⟨v, e, q1⟩
theorem VRs.two {w u : W} {vs : List V} (q : VRs K ρ H [w, u] vs) : ∃ v v2, vs = [v, v2] ∧ VR K ρ H w v ∧ VR K ρ H u v2 := by
  obtain ⟨v, r, e, q1, q2⟩ := VRs.cons_iff.mp q
  obtain ⟨v2, e2, q3⟩ := VRs.one q2
  subst e2
  exact ⟨v, v2, e, q1, q3⟩
theorem VRs.app : ∀ {ws us : List W} {vs ts : List V}, VRs K ρ H ws vs → VRs K ρ H us ts → VRs K ρ H (ws ++ us) (vs ++ ts)
  | [], _, _, _, p, q => by rw [VRs.nil_iff.mp p]; exact q
  | w :: ws, _, _, _, p, q => by
    obtain ⟨v, r, rfl, p1, p2⟩ := VRs.cons_iff.mp p
    exact VRs.cons_iff.mpr ⟨v, _, rfl, p1, VRs.app p2 q⟩
theorem VRs.get : ∀ {ws : List W} {vs : List V} {i : Nat} {w : W}, VRs K ρ H ws vs → ws[i]? = some w → ∃ v, vs[i]? = some v ∧ VR K ρ H w v
  | [], _, _, _, _, e => by simp at e
  | x :: ws, _, 0, w, p, e => by
    obtain ⟨v, r, rfl, p1, p2⟩ := VRs.cons_iff.mp p
    simp at e; subst e
    exact ⟨v, rfl, p1⟩
  | x :: ws, _, i + 1, w, p, e => by
    obtain ⟨v, r, rfl, p1, p2⟩ := VRs.cons_iff.mp p
    obtain ⟨u, q1, q2⟩ := VRs.get (i := i) p2 (by simpa using e)
    exact ⟨u, by simpa using q1, q2⟩
theorem VRs.take : ∀ {ws : List W} {vs : List V} (n : Nat), VRs K ρ H ws vs → VRs K ρ H (ws.take n) (vs.take n)
  | _, _, 0, _ => by simp [VRs.nil_iff]
  | [], _, n + 1, p => by rw [VRs.nil_iff.mp p]; simp [VRs.nil_iff]
  | x :: ws, _, n + 1, p => by
    obtain ⟨v, r, rfl, p1, p2⟩ := VRs.cons_iff.mp p
    exact VRs.cons_iff.mpr ⟨v, _, rfl, p1, VRs.take n p2⟩
theorem VRs.drop : ∀ {ws : List W} {vs : List V} (n : Nat), VRs K ρ H ws vs → VRs K ρ H (ws.drop n) (vs.drop n)
  | _, _, 0, p => p
  | [], _, n + 1, p => by rw [VRs.nil_iff.mp p]; simp [VRs.nil_iff]
  | x :: ws, _, n + 1, p => by
    obtain ⟨v, r, rfl, p1, p2⟩ := VRs.cons_iff.mp p
    exact VRs.drop n p2
theorem VRs.set : ∀ {ws : List W} {vs : List V} (i : Nat) {w : W} {v : V}, VRs K ρ H ws vs → VR K ρ H w v → VRs K ρ H (ws.set i w) (vs.set i v)
  | [], _, _, _, _, p, _ => by rw [VRs.nil_iff.mp p]; simp [VRs.nil_iff]
  | x :: ws, _, 0, _, _, p, q => by
    obtain ⟨v, r, rfl, p1, p2⟩ := VRs.cons_iff.mp p
    exact VRs.cons_iff.mpr ⟨_, _, rfl, q, p2⟩
  | x :: ws, _, i + 1, _, _, p, q => by
    obtain ⟨v, r, rfl, p1, p2⟩ := VRs.cons_iff.mp p
    exact VRs.cons_iff.mpr ⟨_, _, rfl, p1, VRs.set i p2 q⟩
theorem VRs.eraseIdx : ∀ {ws : List W} {vs : List V} (i : Nat), VRs K ρ H ws vs → VRs K ρ H (ws.eraseIdx i) (vs.eraseIdx i)
  | [], _, _, p => by rw [VRs.nil_iff.mp p]; simp [VRs.nil_iff]
  | x :: ws, _, 0, p => by
    obtain ⟨v, r, rfl, p1, p2⟩ := VRs.cons_iff.mp p
    exact p2
  | x :: ws, _, i + 1, p => by
    obtain ⟨v, r, rfl, p1, p2⟩ := VRs.cons_iff.mp p
    exact VRs.cons_iff.mpr ⟨_, _, rfl, p1, VRs.eraseIdx i p2⟩
theorem VRs.rep {ws : List W} {vs : List V} (p : VRs K ρ H ws vs) : ∀ n, VRs K ρ H (List.replicate n ws).flatten (List.replicate n vs).flatten
  | 0 => by simp [VRs.nil_iff]
  | n + 1 => by
    rw [List.replicate_succ, List.replicate_succ, List.flatten_cons, List.flatten_cons]
    exact p.app (VRs.rep p n)
theorem VRs.ints {ns : List Int} : ∀ {vs : List V}, VRs K ρ H (ns.map W.int) vs → vs = ns.map V.int := by
  induction ns with
  | nil => intro vs p; exact VRs.nil_iff.mp p
  | cons n ns ih =>
    intro vs p
    obtain ⟨v, r, rfl, p1, p2⟩ := VRs.cons_iff.mp p
    rw [ih p2, p1.nodep_int]
    rfl
/-- a sequence -/
theorem seqOf_ok (r : Rel K ρ h H) {w : W} {v : V} {xs : List W} (e : seqOf h w = some xs) (q : VR K ρ H w v) : ∃ a vs, v = .ref a ∧ (SqL K H a vs ∨ SqT K H a vs) ∧ VRs K ρ H xs vs := by
  cases w with
  | tup ws =>
    unfold seqOf at e; cases e
    obtain ⟨a, vs, rfl, q1, q2⟩ := q.tup
    exact ⟨a, vs, rfl, .inr q1.sq, q2⟩
  | frl ws =>
    unfold seqOf at e; cases e
    obtain ⟨a, vs, rfl, q1, q2⟩ := q.frl
    exact ⟨a, vs, rfl, .inl q1.seq, q2⟩
  | ref n =>
    cases e0 : h.get n with
    | none => simp only [seqOf, e0] at e; cases e
    | some o =>
      cases o with
      | dct _ => simp only [seqOf, e0] at e; cases e
      | lst ys =>
        simp only [seqOf, e0] at e
        cases e
        obtain ⟨a, vs, rfl, _, q1, q2⟩ := r.lst e0 q
        exact ⟨a, vs, rfl, .inl (SqL.of q1), q2⟩
  | non => unfold seqOf at e; cases e
  | bl _ => unfold seqOf at e; cases e
  | int _ => unfold seqOf at e; cases e
  | str _ => unfold seqOf at e; cases e
end
end TL
/-! What is walked: enumerate, zip, over lists and tuples. -/
namespace TL
open PySem PySem.Spec PyProof.Rows L2

/-! ### a list or a tuple -/
def SqX (K : PySem.W.Frag) (b : Bool) (H : Hp) (a : Addr) (xs : List V) : Prop := match b with
  | true => SqT K H a xs
  | false => SqL K H a xs
def ItrX (b : Bool) (h : Heap) (it a : Addr) (i : Nat) : Prop := match b with
  | true => h.IsTupleIter it a i
  | false => h.IsListIter it a i
def IsX (b : Bool) (h : Heap) (a : Addr) (items : Array Value) : Prop := match b with
  | true => h.IsTuple a items
  | false => h.IsList a items
def itO (b : Bool) (a : Addr) : Obj := match b with
  | true => { cls := .type "tuple_iterator", data := .fields #[.ref a, .int 0 0] }
  | false => { cls := .type "list_iterator", data := .fields #[.ref a, .int 0 0] }
theorem drawsX (b : Bool) {prog : Program} {w : World} {A : Around} (hh : A.handled = none) (it a : Addr) (hne : a ≠ it) (items : Array Value) :
    Draws prog w A it [it, a] items.size (fun i v => items[i]? = some v) (fun i h => ItrX b h it a i ∧ IsX b h a items) := by
  cases b with
  | true => exact Draws.tuple hh it a hne items
  | false => exact Draws.list hh it a hne items
theorem beginsX (b : Bool) (a : Addr) (items : Array Value) : Begins (.ref a) (itO b a) fun h => IsX b h a items := by
  cases b with
  | true => exact begins_tuple a items
  | false => exact begins_list a items
theorem seqX {X : Cx} {pins : List (Addr × Obj)} {σ : L2.St} {H : Hp} {s : Shared} (I : Inv X pins σ H s) {b : Bool} {a : Addr} {xs : List V} (e : SqX X.K b H a xs) : ∃ its : List Value, Vals xs its ∧ IsX b s.heap a its.toArray ∧ xs.length ≤ sizeLine := by
  cases b with
  | true =>
    obtain ⟨its, r, p, z⟩ := I.tuple e
    exact ⟨its, r, p, z⟩
  | false =>
    obtain ⟨its, r, p, z⟩ := I.list e
    exact ⟨its, r, p.isList, z⟩
theorem seqX_inj {X : Cx} {pins : List (Addr × Obj)} {σ : L2.St} {H : Hp} {s : Shared} (I : Inv X pins σ H s) {b : Bool} {a : Addr} {xs ys : List V} (e : SqX X.K b H a xs) (e' : SqX X.K b H a ys) : xs = ys := by
  cases b with
  | true => exact I.tuple_inj e e'
  | false => exact I.list_inj e e'
theorem itrX_at {b : Bool} {h h' : Heap} {it a : Addr} {i : Nat} (e : ItrX b h it a i) (k : ∀ o, h.get? it = some o → h'.get? it = some o) : ItrX b h' it a i := by
  cases b with
  | true => exact e.at k
  | false => exact e.at k
theorem itrX_obj {b : Bool} {h : Heap} {it a : Addr} {i : Nat} (e : ItrX b h it a i) : ∃ o, h.get? it = some o ∧ ∀ v, o.data ≠ .cell v := by
  cases b with
  | true =>
    obtain ⟨o, ho, _, hd⟩ := e
    exact ⟨o, ho, fun v q => by rw [hd] at q; cases q⟩
  | false =>
    obtain ⟨o, ho, _, hd⟩ := e
    exact ⟨o, ho, fun v q => by rw [hd] at q; cases q⟩
theorem itO_iter (b : Bool) {h : Heap} {it a : Addr} (e : h.get? it = some (itO b a)) : ItrX b h it a 0 := by
  cases b with
  | true => exact ⟨_, e, rfl, rfl⟩
  | false => exact ⟨_, e, rfl, rfl⟩
theorem isX_lt {b : Bool} {h : Heap} {a : Addr} {items : Array Value} (e : IsX b h a items) : a < h.objs.size := by
  cases b with
  | true => obtain ⟨o, q, _⟩ := e; exact Heap.lt_size q
  | false => obtain ⟨o, q, _⟩ := e; exact Heap.lt_size q
/-- a new tuple of these -/
def NewT (H : Hp) (xs : List V) (v : V) (H' : Hp) : Prop := ∃ (T : Addr) (o : Obj), v = .ref T ∧ H T = none ∧ o.dict = none ∧ H' = upd H T (.frz o (.tup xs))
theorem turned_tup {X : Cx} {pins : List (Addr × Obj)} {σ : L2.St} {H : Hp} {s : Shared} {h' : Heap} {t' : Nat} {ch : List Addr} {xs : List V} {us : List Value} (I : Inv X pins σ H s)
    (k : ∀ (b : Addr) (o : Obj), b ∉ ch → s.heap.get? b = some o → h'.get? b = some o) (f : ∀ b ∈ ch, FpOk X pins H b) (z : xs.length ≤ sizeLine) (r : Vals xs us)
    (e : h'.get? s.heap.objs.size = some { cls := .type "tuple", data := .seq us.toArray }) :
    ∃ H', Inv X pins σ H' { s with heap := h', toks := t' } ∧ NewT H xs (.ref s.heap.objs.size) H' ∧ ∀ b, b < s.heap.objs.size → H' b = H b := by
  have J := I.turnedNew (t' := t') (T := s.heap.objs.size) (ob := .frz { cls := .type "tuple", data := .seq us.toArray } (.tup xs)) k f (Nat.le_refl _) ⟨e, z, us, r, _, e, rfl, _, rfl⟩
  exact ⟨_, J, ⟨_, _, rfl, I.hok.fresh (Nat.le_refl _), rfl, rfl⟩, fun b hb => upd_ne (Nat.ne_of_lt hb)⟩

/-! ### enumerate -/
def ItE (K : PySem.W.Frag) (b : Bool) (a : Addr) : It where
  go := fun i H => ∃ (xs : List V) (x : V), SqX K b H a xs ∧ xs[i]? = some x
  yld := fun i H v H' => ∃ x, NewT H [.int (i : Nat), x] v H' ∧ ∀ xs, SqX K b H a xs → xs[i]? = some x
  stop := fun i H => ∃ xs : List V, SqX K b H a xs ∧ xs.length = i
theorem turnE {P : Program} {w : World} {K : PySem.W.Frag} {elts : List Expr} {kk : Nat} {tpos : Pos} (b : Bool) (a e it : Addr) (hne : e ≠ it) (hea : e ≠ a) (hai : a ≠ it) :
    Turn P w K (.Tuple elts kk tpos) (ItE K b a) [e, it] e (fun i h => (∃ old, IsEnum h e it ((i : Nat) : Int) old) ∧ ItrX b h it a i) where
  mem := by simp
  obj := fun i h st c hb => by
    obtain ⟨⟨old, he⟩, hi⟩ := st
    rcases (show c = e ∨ c = it by simpa using hb) with z | z
    · subst z
      exact ⟨_, he, fun v q => by cases q⟩
    · subst z
      exact itrX_obj hi
  keep := fun i h h' st k => by
    obtain ⟨⟨old, he⟩, hi⟩ := st
    exact ⟨⟨old, k e (by simp) _ he⟩, itrX_at hi fun o q => k it (by simp) o q⟩
  item := by
    intro X hP hw hK hc i pins s σ H E I hf st hg
    subst hP hw hK
    obtain ⟨⟨old, he⟩, hit⟩ := st
    obtain ⟨xs, x, hq, hx⟩ := hg
    obtain ⟨its, rv, p, hz⟩ := seqX I hq
    obtain ⟨u, hu, ru⟩ := rv.get hx
    have hel := Heap.lt_size he
    have hil : it < s.heap.objs.size := by obtain ⟨_, q, _⟩ := itrX_obj hit; exact Heap.lt_size q
    have hlt : i < its.toArray.size := by
      have := (List.getElem?_eq_some_iff.mp hu).1
      simpa using this
    have D := drawsX b (prog := X.prog) (w := X.w) (A := X.A.in1) (I.ok.hd hc) it a hai its.toArray
    refine wpAny_pyNext_enum_itemC (c := ((i : Nat) : Int)) D he ⟨hit, p⟩ hlt hne (by simp [hne, hea]) fun y h' tk hy ho hit' hT hsz hk => ?_
    obtain rfl : y = u := by
      rw [show its.toArray[i]? = its[i]? by simp] at hy
      rw [hu] at hy
      exact (Option.some.inj hy).symm
    refine ⟨_, rfl, wpAny_letOwnedTupleGo_enum (s := { s with heap := h', toks := tk + 1 }) ho fun h2 he2 sb => ?_⟩
    have hT2 : h2.get? s.heap.objs.size = some { cls := .type "tuple", data := .seq [.int i tk, y].toArray } := (sb.2 _ (Nat.ne_of_gt hel)).trans hT
    obtain ⟨H', J, nt, old'⟩ := turned_tup (t' := tk + 1) (ch := [e, it]) (xs := [.int (i : Nat), x]) I (fun c ob hb q => by
      have b1 : c ≠ e := fun z => hb (by simp [z])
      have b2 : c ≠ it := fun z => hb (by simp [z])
      exact (sb.2 c b1).trans (hk c ob b1 b2 q)) hf (by show 2 ≤ sizeLine; decide) (.cons ⟨_, rfl⟩ (.cons ru .nil)) hT2
    refine ⟨.ref s.heap.objs.size, H', J, rfl, ⟨x, nt, fun ys hy => by rw [seqX_inj I hy hq]; exact hx⟩, ⟨⟨y, ?_⟩, itrX_at hit'.1 fun o q => (sb.2 it (Ne.symm hne)).trans q⟩, fun c hb => ?_⟩
    · rw [show ((i + 1 : Nat) : Int) = (i : Int) + 1 by omega]
      exact he2
    · have lt : c < s.heap.objs.size := by
        rcases (show c = e ∨ c = it by simpa using hb) with z | z
        · rw [z]; exact hel
        · rw [z]; exact hil
      rw [old' c lt]
      exact (hf c hb).1
  done := by
    intro X hP hw hK hc i pins s σ H E I hf st hg
    subst hP hw hK
    obtain ⟨⟨old, he⟩, hit⟩ := st
    obtain ⟨xs, hq, hx⟩ := hg
    obtain ⟨its, rv, p, hz⟩ := seqX I hq
    have hl := rv.length
    have hn : its.toArray.size = i := by simp; omega
    have D := drawsX b (prog := X.prog) (w := X.w) (A := X.A.in1) (I.ok.hd hc) it a hai its.toArray
    refine wpAny_pyNext_enum_endD D he (by rw [hn]; exact ⟨hit, p⟩) fun h' eb => ⟨rfl, I.turnedL (t' := s.toks) (ch := [e, it]) (fun c o hb q => ?_) hf⟩
    exact eb c o (fun z => hb (by simp [z])) q
  self := fun A i s Q E st hq => by
    obtain ⟨⟨_, he⟩, _⟩ := st
    exact wpAny_pyIter_enum he hq
theorem meets_enum_newT (l : Addr) (items : Array Value) (n : Nat) (dct : Option Addr) (sl : Array (Option Value)) :
    Meets (Builtin.«enumerate.__new__» ⟨[.type "enumerate", .ref l], []⟩) (fun _ R s => s.heap.get? l = some { cls := .type "tuple", dict := dct, data := .seq items n, slots := sl } ∧
      R (.ok (.ret (.ref (s.heap.push { cls := .type "tuple_iterator", data := .fields #[.ref l, .int 0 0] }).objs.size)))
        { s with heap := (s.heap.push { cls := .type "tuple_iterator", data := .fields #[.ref l, .int 0 0] }).push { cls := .type "enumerate", data := .fields #[.none, .bool false, .ref s.heap.objs.size, rawInt 0, .none, .none] } }) :=
  .of_wp fun prog w A R s hy => by
    obtain ⟨hp, g, d, tk, os⟩ := s
    obtain ⟨hl, hr⟩ := hy
    have hsub := sub_enumerate
    have hL : Heap.IsTuple (Shared.heap ⟨hp, g, d, tk, os⟩) l items := ⟨_, hl, rfl, n, rfl⟩
    wp_walk using AutoSeq1.wpAny_loadPart' hl
    refine wpAny_stack_any fun st => wpAny_pure ?_
    split
    · rename_i c _ _ _ _ _
      cases (c == Value.type "enumerate") <;>
      · wp_walk using AutoSeq1.wpAny_loadPart' hl, wpAny_pyIter_tuple hL
        exact ⟨_, rfl, hr⟩
    · wp_walk using AutoSeq1.wpAny_loadPart' hl, wpAny_pyIter_tuple hL
      exact ⟨_, rfl, hr⟩
section
variable {prog : Program} {w : World} {A : Around} {E : Value → Shared → Prop} {s : Shared}
theorem call_enum_tup {l : Addr} {items : Array Value} {Q : Value → Shared → Prop} (hL : s.heap.IsTuple l items)
    (hq : ∀ h', IsEnum h' (s.heap.objs.size + 1) s.heap.objs.size 0 .none → h'.IsTupleIter s.heap.objs.size l 0 →
      (∀ b o, s.heap.get? b = some o → h'.get? b = some o) → Q (.ref (s.heap.objs.size + 1)) { s with heap := h' }) :
    wpAny (model prog w) A (call (.type "enumerate") [.ref l]) Q E s := by
  obtain ⟨⟨c, dct, dt, sl⟩, hl, hc, n, hd⟩ := hL
  simp only at hc hd
  subst hc hd
  refine callType_new F.called_enumerate (by decide) (F.typeCall_enumerate_1 _) (F.newCall_enumerate_1 _)
    (fun obj => F.args_object_init_2 obj _) F.entry_enumerate_new (meets_enum_newT l items n dct sl) ⟨hl, ?_⟩
  generalize hi : ({ cls := .type "tuple_iterator", data := .fields #[.ref l, .int 0 0] } : Obj) = io
  have hz : (s.heap.push io).objs.size = s.heap.objs.size + 1 := Heap.size_push ..
  show _ ∧ _
  rw [hz]
  generalize hj : ({ cls := .type "enumerate", data := .fields #[.none, .bool false, .ref s.heap.objs.size, rawInt 0, .none, .none] } : Obj) = eo
  have he : ((s.heap.push io).push eo).get? (s.heap.objs.size + 1) = some eo := by
    have := Heap.get?_push_size (s.heap.push io) (o := eo) (by rw [← hj]; rfl)
    rw [hz] at this
    exact this
  have hk : ∀ b o, s.heap.get? b = some o → ((s.heap.push io).push eo).get? b = some o := fun b o x => Heap.get?_push_of_some _ (Heap.get?_push_of_some _ x)
  have h2 : ((s.heap.push io).push eo).get? s.heap.objs.size = some io := Heap.get?_push_of_some _ (Heap.get?_push_size _ (by rw [← hi]; rfl))
  subst hj
  subst hi
  exact ⟨⟨_, he, rfl⟩, hq _ he ⟨_, h2, rfl, rfl⟩ hk⟩
theorem call_enumX {b : Bool} {l : Addr} {items : Array Value} {Q : Value → Shared → Prop} (hL : IsX b s.heap l items)
    (hq : ∀ h', IsEnum h' (s.heap.objs.size + 1) s.heap.objs.size 0 .none → ItrX b h' s.heap.objs.size l 0 →
      (∀ b o, s.heap.get? b = some o → h'.get? b = some o) → Q (.ref (s.heap.objs.size + 1)) { s with heap := h' }) :
    wpAny (model prog w) A (call (.type "enumerate") [.ref l]) Q E s := by
  cases b with
  | true => exact call_enum_tup hL hq
  | false => exact call_enumerate_list hL fun h' he hit hsz hk => hq h' he hit hk
end
def iEnX (K : PySem.W.Frag) (ta : TA) : TI := fun σ H R => ta σ H fun vs H1 => ∃ b a xs, vs = [.ref a] ∧ SqX K b H1 a xs ∧ R (ItE K b a) H1
theorem pi_enX {X : Cx} {e : Expr} {ta : TA} {p pos tpos : Pos} {elts : List Expr} {kk : Nat} (hg : Gl X "enumerate") (hm : X.mg "enumerate" = none) (ha : PA X [e] ta) (hs : starEach [e] X.env = [(false, eval e X.env)]) :
    PI X (.Tuple elts kk tpos) (.Call (.Name "enumerate" p) [e] [] pos) (iEnX X.K ta) := by
  refine ⟨fun pins s σ H R I hq => ?_⟩
  refine Call_ (ld_blt I hg hm boot_enumerate (PyProof.Rows.callWith_type1 (thn (ha.run pos pins s σ H _ I hq) fun us s1 ⟨vs, H1, I1, r1, q1⟩ => ?_) hs rfl))
  obtain ⟨b, a, xs, ex, hl, q⟩ := q1
  subst ex
  cases r1 with
  | cons r rr =>
    cases rr
    cases r
    obtain ⟨its, rv, p', hz⟩ := seqX I1 hl
    have al := isX_lt p'
    refine call_enumX p' fun h' he hit hk => wpAny_pyIter_enum he ?_
    have I2 : Inv X pins σ H1 { s1 with heap := h' } := I1.kept (t' := s1.toks) hk
    have ne : ∀ k, a ≠ s1.heap.objs.size + k := fun k => Nat.ne_of_lt (Nat.lt_of_lt_of_le al (Nat.le_add_right _ _))
    refine ⟨s1.heap.objs.size + 1, [s1.heap.objs.size + 1, s1.heap.objs.size], _, _, H1, rfl, I2, turnE b a (s1.heap.objs.size + 1) s1.heap.objs.size (Nat.succ_ne_self _) (Ne.symm (ne 1)) (ne 0), ⟨⟨.none, he⟩, hit⟩, fun c hb => ?_, q⟩
    have le : s1.heap.objs.size ≤ c := by
      rcases (show c = s1.heap.objs.size + 1 ∨ c = s1.heap.objs.size by simpa using hb) with z | z
      · rw [z]; exact Nat.le_succ _
      · rw [z]; exact Nat.le_refl _
    exact I1.fpOk le (I1.hok.fresh le)

/-! ### zip of two -/
def ItZ (K : PySem.W.Frag) (b c : Bool) (a d : Addr) : It where
  go := fun i H => ∃ (xs ys : List V) (x y : V), SqX K b H a xs ∧ SqX K c H d ys ∧ xs[i]? = some x ∧ ys[i]? = some y
  yld := fun i H v H' => ∃ x y, NewT H [x, y] v H' ∧ (∀ xs, SqX K b H a xs → xs[i]? = some x) ∧ ∀ ys, SqX K c H d ys → ys[i]? = some y
  stop := fun i H => ∃ xs ys : List V, SqX K b H a xs ∧ SqX K c H d ys ∧ i ≤ xs.length ∧ i ≤ ys.length ∧ (i = xs.length ∨ i = ys.length)
theorem turnZ {P : Program} {w : World} {K : PySem.W.Frag} {elts : List Expr} {kk : Nat} {tpos : Pos} (b c : Bool) {a d z TI TO i1 i2 : Addr} (D : ZipSep2 z TI TO i1 i2 [i1, a] [i2, d]) (h1 : a ≠ i1) (h2 : d ≠ i2) :
    Turn P w K (.Tuple elts kk tpos) (ItZ K b c a d) [z, TI, TO, i1, i2] z (fun i h => IsZip h z TI TO .none ∧ IsTupOf2 h TI (.ref i1) (.ref i2) ∧ (∃ x y, IsTupOf2 h TO x y) ∧ ItrX b h i1 a i ∧ ItrX c h i2 d i) where
  mem := by simp
  obj := fun i h st q hq => by
    obtain ⟨hz, hTI, ⟨x, y, hTO⟩, e1, e2⟩ := st
    rcases (show q = z ∨ q = TI ∨ q = TO ∨ q = i1 ∨ q = i2 by simpa using hq) with e | e | e | e | e
    · rw [e]; exact ⟨_, hz, fun v q => by cases q⟩
    · rw [e]; exact ⟨_, hTI, fun v q => by cases q⟩
    · rw [e]; exact ⟨_, hTO, fun v q => by cases q⟩
    · rw [e]; exact itrX_obj e1
    · rw [e]; exact itrX_obj e2
  keep := fun i h h' st k => by
    obtain ⟨hz, hTI, ⟨x, y, hTO⟩, e1, e2⟩ := st
    exact ⟨k z (by simp) _ hz, k TI (by simp) _ hTI, ⟨x, y, k TO (by simp) _ hTO⟩, itrX_at e1 fun o q => k i1 (by simp) o q, itrX_at e2 fun o q => k i2 (by simp) o q⟩
  item := by
    intro X hP hw hK hc i pins s σ H E I hf st hg
    subst hP hw hK
    obtain ⟨hz, hTI, ⟨x0, y0, hTO⟩, e1, e2⟩ := st
    obtain ⟨xs, ys, x, y, hqx, hqy, hx, hy⟩ := hg
    obtain ⟨its, rv, p, _⟩ := seqX I hqx
    obtain ⟨its2, rv2, p2, _⟩ := seqX I hqy
    obtain ⟨u, hu, ru⟩ := rv.get hx
    obtain ⟨u2, hu2, ru2⟩ := rv2.get hy
    have l1 : i < its.toArray.size := by simpa using (List.getElem?_eq_some_iff.mp hu).1
    have l2 : i < its2.toArray.size := by simpa using (List.getElem?_eq_some_iff.mp hu2).1
    have hzl : z < s.heap.objs.size := Heap.lt_size hz
    have D1 := drawsX b (prog := X.prog) (w := X.w) (A := X.A.in1) (I.ok.hd hc) i1 a h1 its.toArray
    have D2 := drawsX c (prog := X.prog) (w := X.w) (A := X.A.in1) (I.ok.hd hc) i2 d h2 its2.toArray
    refine wpAny_pyNext_zipD2_item D D1 D2 hz hTI hTO ⟨e1, p⟩ ⟨e2, p2⟩ l1 l2 fun y1 y2 h' tk hy1 hy2 hz' hTO' st1 st2 hT hsz hk => ?_
    obtain rfl : y1 = u := by
      rw [show its.toArray[i]? = its[i]? by simp, hu] at hy1
      exact (Option.some.inj hy1).symm
    obtain rfl : y2 = u2 := by
      rw [show its2.toArray[i]? = its2[i]? by simp, hu2] at hy2
      exact (Option.some.inj hy2).symm
    refine ⟨_, rfl, wpAny_letOwnedTupleGo_zip (s := { s with heap := h', toks := tk }) hz' fun h3 z3 sb => ?_⟩
    have hT2 : h3.get? s.heap.objs.size = some { cls := .type "tuple", data := .seq [y1, y2].toArray } := (sb.2 _ (Nat.ne_of_gt hzl)).trans hT
    obtain ⟨H', J, nt, old'⟩ := turned_tup (t' := tk) (ch := [z, TI, TO, i1, i2]) (xs := [x, y]) I (fun q ob hb e => by
      simp only [List.mem_cons, List.not_mem_nil, or_false, not_or] at hb
      exact (sb.2 q hb.1).trans (hk q ob hb.1 hb.2.2.1 hb.2.2.2.1 hb.2.2.2.2 e)) hf (by show 2 ≤ sizeLine; decide) (.cons ru (.cons ru2 .nil)) hT2
    refine ⟨.ref s.heap.objs.size, H', J, rfl, ⟨x, y, nt, fun l hl => by rw [seqX_inj I hl hqx]; exact hx, fun l hl => by rw [seqX_inj I hl hqy]; exact hy⟩, ⟨z3, ?_, ⟨y1, y2, ?_⟩, ?_, ?_⟩, fun q hq => ?_⟩
    · exact (sb.2 _ D.TIz).trans (hk _ _ D.TIz D.TITO D.TIi1 D.TIi2 hTI)
    · exact (sb.2 _ D.TOz).trans hTO'
    · exact itrX_at st1.1 fun o q => (sb.2 _ (Ne.symm D.zi1)).trans q
    · exact itrX_at st2.1 fun o q => (sb.2 _ (Ne.symm D.zi2)).trans q
    · have lt : q < s.heap.objs.size := by
        rcases (show q = z ∨ q = TI ∨ q = TO ∨ q = i1 ∨ q = i2 by simpa using hq) with e | e | e | e | e
        · rw [e]; exact hzl
        · rw [e]; exact Heap.lt_size hTI
        · rw [e]; exact Heap.lt_size hTO
        · rw [e]; obtain ⟨_, x1, _⟩ := itrX_obj e1; exact Heap.lt_size x1
        · rw [e]; obtain ⟨_, x1, _⟩ := itrX_obj e2; exact Heap.lt_size x1
      rw [old' q lt]
      exact (hf q hq).1
  done := by
    intro X hP hw hK hc i pins s σ H E I hf st hg
    subst hP hw hK
    obtain ⟨hz, hTI, ⟨x0, y0, hTO⟩, e1, e2⟩ := st
    obtain ⟨xs, ys, hqx, hqy, le1, le2, hend⟩ := hg
    obtain ⟨its, rv, p, _⟩ := seqX I hqx
    obtain ⟨its2, rv2, p2, _⟩ := seqX I hqy
    have l1 := rv.length
    have l2 := rv2.length
    have D1 := drawsX b (prog := X.prog) (w := X.w) (A := X.A.in1) (I.ok.hd hc) i1 a h1 its.toArray
    have D2 := drawsX c (prog := X.prog) (w := X.w) (A := X.A.in1) (I.ok.hd hc) i2 d h2 its2.toArray
    refine wpAny_pyNext_zipD2_end D D1 D2 hz hTI hTO ⟨e1, p⟩ ⟨e2, p2⟩ (by simp; omega) (by simp; omega) (by simp; omega) fun h' tk hk => ⟨rfl, I.turnedL (t' := tk) (ch := [z, TI, TO, i1, i2]) (fun q ob hb e => ?_) hf⟩
    simp only [List.mem_cons, List.not_mem_nil, or_false, not_or] at hb
    exact hk q ob hb.1 hb.2.2.1 hb.2.2.2.1 hb.2.2.2.2 e
  self := fun A i s Q E st hq => wpAny_pyIter_zip st.1 hq
def iZpX (K : PySem.W.Frag) (ta : TA) : TI := fun σ H R => ta σ H fun vs H1 => ∃ b c a d xs ys, vs = [.ref a, .ref d] ∧ SqX K b H1 a xs ∧ SqX K c H1 d ys ∧ R (ItZ K b c a d) H1
theorem pi_zpX {X : Cx} {e e2 : Expr} {ta : TA} {p pos tpos : Pos} {elts : List Expr} {kk : Nat} (hg : Gl X "zip") (hm : X.mg "zip" = none) (ha : PA X [e, e2] ta)
    (hs : starEach [e, e2] X.env = (false, eval e X.env) :: starEach [e2] X.env) (hpl : (backTo pos (starEach [e2] X.env)).any (·.1) = false) :
    PI X (.Tuple elts kk tpos) (.Call (.Name "zip" p) [e, e2] [] pos) (iZpX X.K ta) := by
  refine ⟨fun pins s σ H R I hq => ?_⟩
  refine Call_ (ld_blt I hg hm PyProof.Rows.boot_zip (PyProof.Rows.callWith_type1 (thn (ha.run pos pins s σ H _ I hq) fun us s1 ⟨vs, H1, I1, r1, q1⟩ => ?_) hs hpl))
  obtain ⟨b, c, a, d, xs, ys, ex, hl1, hl2, q⟩ := q1
  subst ex
  obtain ⟨u1, u2, rfl, ra, rd⟩ := Vals.two r1
  cases ra
  cases rd
  obtain ⟨its, rv, p1, _⟩ := seqX I1 hl1
  obtain ⟨its2, rv2, p2, _⟩ := seqX I1 hl2
  have al := isX_lt p1
  have dl := isX_lt p2
  refine zip_begins2 (beginsX b a its.toArray) (beginsX c d its2.toArray) p1 p2 fun h' hz hTI hTO g1 g2 hsz hk => wpAny_pyIter_zip hz ?_
  have I2 : Inv X pins σ H1 { s1 with heap := h' } := I1.kept (t' := s1.toks) hk
  have S := zip_sep2 (N := s1.heap.objs.size) (fp1 := [a]) (fp2 := [d]) (fun q hq => by rw [List.mem_singleton.mp hq]; exact al) (fun q hq => by rw [List.mem_singleton.mp hq]; exact dl)
  refine ⟨_, _, _, _, H1, rfl, I2, turnZ b c S (Nat.ne_of_lt al) (Nat.ne_of_lt (Nat.lt_of_lt_of_le dl (Nat.le_add_right _ _))), ⟨hz, hTI, ⟨_, _, hTO⟩, itO_iter b g1, itO_iter c g2⟩, fun q hq => ?_, q⟩
  have le : s1.heap.objs.size ≤ q := by
    rcases (show q = s1.heap.objs.size + 4 ∨ q = s1.heap.objs.size + 2 ∨ q = s1.heap.objs.size + 3 ∨ q = s1.heap.objs.size ∨ q = s1.heap.objs.size + 1 by simpa using hq) with e | e | e | e | e
    · rw [e]; exact Nat.le_add_right _ _
    · rw [e]; exact Nat.le_add_right _ _
    · rw [e]; exact Nat.le_add_right _ _
    · rw [e]; exact Nat.le_refl _
    · rw [e]; exact Nat.le_add_right _ _
  exact I1.fpOk le (I1.hok.fresh le)
end TL
/-! Operators. -/
namespace TL
open PySem L2 PyProof.Rows
theorem tuple_mul1 (l : Addr) (items : Array Value) (n : Nat) (dd : Option Addr) (sl : Array (Option Value)) (u : Tok) :
    Meets (Builtin.«tuple.__mul__» ⟨[.ref l, .int 1 u], []⟩) (fun _ R s => s.heap.get? l = some { cls := .type "tuple", dict := dd, data := .seq items n, slots := sl } ∧ R (.ok (.ret (.ref l))) s) :=
  .of_wp fun prog w A R s hy => by
    obtain ⟨hp, g, d, tk, os⟩ := s
    obtain ⟨hl, hr⟩ := hy
    have f1 := AutoSeq1.idx_int
    wp_walk using wpAny_loadPart' hl
    exact ⟨_, rfl, hr⟩
section
variable {X : Cx} {ct : Nat → Option Value} {Wx : XK} {ρ : List Addr} {H : Hp} {h : Hw} {K : PySem.W.Frag}
/-- a tuple times one is that tuple -/
def rMul1 (K : PySem.W.Frag) : R2 := fun x y H Q => ∃ l xs, x = .ref l ∧ y = .int 1 ∧ SqT K H l xs ∧ Q (.ref l) H
theorem op_mul1 : OpR X (binaryOp .Mult) (rMul1 X.K) := by
  intro pins s σ H x y v u Q I rx ry hq
  obtain ⟨l, xs, rfl, rfl, hT, q⟩ := hq
  cases rx
  obtain ⟨t, rfl⟩ := ry
  obtain ⟨its, r, ⟨⟨cls, dd, data, sl⟩, ho, hc, n, hd⟩, hs⟩ := I.tuple hT
  simp only at hc hd
  subst hc hd
  refine wpAny_binaryOp_repeat_ref (T := "tuple") (U := "int") (by decide) ⟨_, ho, rfl⟩ (fun s' => typeIs_int s' 1 t)
    noFill_tuple_mul F.fills_int_mul F.slot_int_rmul repeat_tuple F.slot_int_index.lookup
    (call_meets F.slot_int_rmul (typeIs_int s 1 t) F.entry_int_rmul (F.args_int_rmul_2 _ _) (int_rmul_tuple 1 t l its.toArray n dd sl)
      ⟨ho, rfl, ⟨_, ho, rfl⟩, call_meets F.slot_tuple_mul ⟨_, ho, rfl⟩ F.entry_tuple_mul (F.args_tuple_mul_2 _ _) (tuple_mul1 l its.toArray n dd sl t) ⟨ho, ?_⟩⟩)
  exact ⟨.ref l, H, I, rfl, q⟩

theorem smallOk {i : Int} (e : small i = true) : -(2 ^ 64) < i ∧ i < 2 ^ 64 := by
  unfold small at e
  have := Nat.le_of_ble_eq_true e
  omega
/-- any two ints of which one is small -/
def rMulI : R2 := fun x y H Q => ∃ i j, x = .int i ∧ y = .int j ∧ ((-(2 ^ 64) < i ∧ i < 2 ^ 64) ∨ (-(2 ^ 64) < j ∧ j < 2 ^ 64)) ∧ Q (.int (i * j)) H
def rB (K : PySem.W.Frag) : Bop → R2
  | .add => fun x y H Q => ((∃ i j, x = .int i ∧ y = .int j ∧ Q (.int (i + j)) H) ∨ rCatZ K x y H Q) ∨ (∃ i j, x = .str i ∧ y = .str j ∧ i.length + j.length ≤ sizeLine ∧ Q (.str (i ++ j)) H) ∨ rCat x y H Q
  | .sub => fun x y H Q => ∃ i j, x = .int i ∧ y = .int j ∧ Q (.int (i - j)) H
  | .mul => fun x y H Q => (rI CMul (fun i j => .int (i * j)) x y H Q ∨ rRep x y H Q) ∨ rRepZ K x y H Q ∨ rMul1 K x y H Q
  | .fdiv => rI CDivN fun i j => .int (i.fdiv j)
  | .mod => rI (fun _ j => j ≠ 0) fun i j => .int (i.fmod j)
def bopOf : Bop → Operator
  | .add => .Add
  | .sub => .Sub
  | .mul => .Mult
  | .fdiv => .FloorDiv
  | .mod => .Mod
theorem opB : ∀ o : Bop, OpR X (binaryOp (bopOf o)) (rB X.K o)
  | .add => OpR.or (OpR.or op_add op_catZ) (OpR.or op_add_str op_cat)
  | .sub => op_sub
  | .mul => OpR.or (OpR.or op_mul op_rep) (OpR.or op_repZ op_mul1)
  | .fdiv => op_fdivN
  | .mod => op_modN
end
end TL
/-! Sorting; built-in functions by values. -/
namespace TL
open PySem PySem.W PyProof.Rows L2

/-! ### a sort of one's own, and the library's -/
section
variable {α : Type} {le : α → α → Bool} (T : TotalLe le)
include T
theorem insS_mem {x y : α} : ∀ {l : List α}, y ∈ insS le x l → y = x ∨ y ∈ l
  | [], h => by simp [insS] at h; exact .inl h
  | z :: r, h => by
    unfold insS at h
    cases e : le x z with
    | true => rw [e, cond_true] at h; exact (List.mem_cons.mp h)
    | false =>
      rw [e, cond_false] at h
      rcases List.mem_cons.mp h with h | h
      · exact .inr (h ▸ List.mem_cons_self)
      · rcases insS_mem h with h | h
        · exact .inl h
        · exact .inr (List.mem_cons_of_mem _ h)
theorem insS_pw {x : α} : ∀ {l : List α}, l.Pairwise (fun a b => le a b = true) → (insS le x l).Pairwise (fun a b => le a b = true)
  | [], _ => by simp [insS]
  | z :: r, h => by
    unfold insS
    have hz := List.pairwise_cons.mp h
    cases e : le x z with
    | true =>
      rw [cond_true]
      refine List.pairwise_cons.mpr ⟨fun y hy => ?_, h⟩
      rcases List.mem_cons.mp hy with q | q
      · rw [q]; exact e
      · exact T.trans _ _ _ e (hz.1 y q)
    | false =>
      rw [cond_false]
      refine List.pairwise_cons.mpr ⟨fun y hy => ?_, insS_pw hz.2⟩
      rcases insS_mem T hy with q | q
      · subst q
        exact (T.total z y).resolve_right (by rw [e]; exact Bool.false_ne_true)
      · exact hz.1 y q
theorem insS_fl {x c : α} : ∀ {l : List α}, (insS le x l).filter (sameRank le c) = (x :: l).filter (sameRank le c)
  | [] => rfl
  | z :: r => by
    unfold insS
    cases e : le x z with
    | true => rw [cond_true]
    | false =>
      rw [cond_false, List.filter_cons, insS_fl]
      by_cases hx : sameRank le c x = true
      · have hz : sameRank le c z = false := by
          cases q : sameRank le c z with
          | false => rfl
          | true =>
            unfold sameRank at hx q
            rw [Bool.and_eq_true] at hx q
            have := T.trans _ _ _ hx.2 q.1
            rw [e] at this; cases this
        simp only [List.filter_cons, hx, hz, if_true, Bool.false_eq_true, if_false]
      · simp only [List.filter_cons, hx, if_false]
        rfl
theorem isort_eq : ∀ l : List α, isort le l = l.mergeSort le := by
  have pw : ∀ l : List α, (isort le l).Pairwise (fun a b => le a b = true) := fun l => by
    induction l with
    | nil => exact List.Pairwise.nil
    | cons x r ih => exact insS_pw T ih
  have fl : ∀ (l : List α) c, (isort le l).filter (sameRank le c) = l.filter (sameRank le c) := fun l c => by
    induction l with
    | nil => rfl
    | cons x r ih =>
      show (insS le x (isort le r)).filter _ = _
      rw [insS_fl T, List.filter_cons, ih, List.filter_cons]
  exact fun l => sort_unique T (pw l) (fl l)
end
theorem dataLe_total {β : Type} (k : β → PyData) : TotalLe (dataLe false k) := sortLe_total _ _ _

/-! ### sorted -/
section
variable {prog : Program} {w : World} {A : Around} {E : Value → Shared → Prop} {s : Shared}
/-- the items of a tuple, gathered -/
theorem collect_tup {l : Addr} {vs : List Value} {Q : List Value → Shared → Prop} (hl : s.heap.IsTuple l vs.toArray)
    (hq : Q vs { s with heap := (s.heap.push (seqObj "list" #[] 0)).update s.heap.objs.size (Obj.mapSeq (· ++ vs.toArray)) }) (hsz : vs.length ≤ sizeLine) :
    wpAny (model prog w) A (collect (.ref l)) Q E s := by
  obtain ⟨o, ho, hc, n, hd⟩ := id hl
  unfold collect
  refine wpAny_bind (wpAny_runValue (codeAny_builtin entry_proto_collect' ?_))
  show wpAny _ _ (do again (.builtin "list.__iadd__" ⟨[← newList [], .ref l], []⟩)) _ _ s
  refine wpAny_bind (wpAny_newList (wpAny_pure ⟨Code.quiet_builtin _ (by decide +kernel), codeAny_builtin entry_list_iadd' ?_⟩))
  show wpAny _ _ (Builtin.List.listExtendWith (.ref s.heap.objs.size) (.ref l) (.ref s.heap.objs.size)) _ _ { s with heap := s.heap.push (seqObj "list" #[] 0) }
  unfold Builtin.List.listExtendWith
  have ho2 : (s.heap.push (seqObj "list" #[] 0)).get? l = some o := Heap.get?_push_of_some _ ho
  refine wpAny_bind (wpAny_typeOf (T := "tuple") ⟨o, ho2, hc⟩ ?_)
  rw [if_pos (by rw [show (Value.type "tuple" == Value.type "tuple") = true from rfl, Bool.or_true])]
  refine wpAny_bind (listItems_at ho2 hd ?_)
  refine wpAny_bind (listItems_at (xs := #[]) (n := 0) (Heap.get?_push_size _ rfl) rfl ?_)
  rw [if_neg (by simp)]
  have z2 : ((#[] : Array Value) ++ vs.toArray).size ≤ sizeLine + 1 := by
    simp only [Array.size_append, List.size_toArray, List.length_nil]
    omega
  refine wpAny_bind (listUpdate_at (xs := #[]) (n := 0) (Heap.get?_push_size _ rfl) rfl ?_ (Nat.zero_le _) z2)
  refine wpAny_pure ?_
  have e2 : ((#[] : Array Value) ++ vs.toArray).toList = vs := by simp
  show wpAny (model prog w) A (do
      let ob ← load s.heap.objs.size
      match ob.data with
      | .seq xs _ => pure xs.toList
      | _ => unsupported "internal:collect") Q E _
  refine wpAny_bind (wpAny_load (get?_update_seq (Heap.get?_push_size _ rfl) _) ?_)
  show wpAny _ _ (pure ((#[] : Array Value) ++ vs.toArray).toList) Q E _
  rw [e2]
  exact wpAny_pure hq
theorem sorted_tup {l : Addr} {vs : List Value} {Q : Value → Shared → Prop} (hl : s.heap.IsTuple l vs.toArray) (hL : vs.length ≤ sizeLine)
    (body : ∀ E2 : Value → Shared → Prop, wpAny (model prog w) A.in1.in1 (Builtin.«list.sort» ⟨[.ref (s.heap.objs.size + 1)], []⟩) (fun f s' => f = .done (.ret .none) ∧ Q (.ref (s.heap.objs.size + 1)) s') E2 { s with heap := copyHeap s.heap vs }) :
    wpAny (model prog w) A (call (.builtin "sorted") [.ref l]) Q E s := by
  refine call_function_entry_kw (kw := []) kind_sorted plain_sorted entry_sorted (args_sorted1 _) ?_
  unfold Builtin.«sorted»
  refine wpAny_bind (m := checkCount "sorted" 1 1 _) (wpAny_pure ?_)
  refine wpAny_bind (collect_tup hl ?_ hL)
  refine wpAny_bind (wpAny_newList ?_ hL)
  have hsz : ((s.heap.push (seqObj "list" #[] 0)).update s.heap.objs.size (Obj.mapSeq (· ++ vs.toArray))).objs.size = s.heap.objs.size + 1 := by
    rw [Heap.size_update, size_push']
  show wpAny _ _ _ _ _ { s with heap := copyHeap s.heap vs }
  rw [hsz]
  refine wpAny_bind (wpAny_holding (wpAny_call_entry_kw slot_list_sort ⟨_, copyHeap_at s.heap vs, rfl⟩ entry_list_sort ?body (args_list_sort _)))
  case body =>
    show wpAny (model prog w) A.in1.in1 (Builtin.«list.sort» ⟨[.ref (s.heap.objs.size + 1)], []⟩) _ _ _
    refine wpAny_mono (body _) (fun f s' hf => ?_) fun _ _ e => e
    obtain ⟨rfl, hq⟩ := hf
    exact ⟨_, rfl, wpAny_pure ⟨_, rfl, hq⟩⟩
end

section
variable {X : Cx}
/-- what the sorted items are -/
def sortV (xs : List V) (ds : List PyData) : List V := (isort (dataLe false Prod.snd) (xs.zip ds)).map Prod.fst
theorem dpAll_len {K : PySem.W.Frag} {H : Hp} : ∀ {xs : List V} {ds : List PyData}, DpAll K H xs ds → xs.length = ds.length
  | _, _, .nil => rfl
  | _, _, .cons _ t => by rw [List.length_cons, List.length_cons, dpAll_len t]
theorem each_rel {I : List V → List Value → Prop} : ∀ {xs : List V} {us : List Value} {ds : List PyData}, Vals xs us → xs.length = ds.length → EachIs (fun v (b : V × PyData) => RelV b.1 v) us (xs.zip ds)
  | _, _, [], .nil, _ => .nil
  | _, _, d :: ds, .cons r t, e => .cons r (each_rel (I := I) t (by simpa using e))
  | _, _, _ :: _, .nil, e => by simp at e
  | _, _, [], .cons _ _, e => by simp at e
theorem each_reads {pins : List (Addr × Obj)} {σ : L2.St} {H : Hp} {s : Shared} (I : Inv X pins σ H s) : ∀ {xs : List V} {us : List Value} {ds : List PyData}, Vals xs us → DpAll X.K H xs ds → EachIs (fun v (b : V × PyData) => ∃ as, Reads s.heap v b.2 as) us (xs.zip ds)
  | _, _, _, .nil, .nil => .nil
  | _, _, _, .cons r t, .cons p q => .cons (Dp.reads I _ _ _ p r) (each_reads I t q)
theorem vals_each : ∀ {us : List Value} {bs : List (V × PyData)}, EachIs (fun v b => RelV b.1 v) us bs → Vals (bs.map Prod.fst) us
  | _, _, .nil => .nil
  | _, _, .cons r t => .cons r (vals_each t)
def rSrt (K : PySem.W.Frag) : List V → Hp → VK → Prop := fun vs H Q => ∃ (b : Bool) (a : Addr) (xs : List V) (ds : List PyData), vs = [V.ref a] ∧ SqX K b H a xs ∧ DpAll K H xs ds ∧ AllAlike ds ∧ Sortable ds ∧ (∀ d ∈ ds, d.depth ≤ 60) ∧
  ∀ p, H p = none → Q (.ref p) (upd H p (.lst (sortV xs ds)))
theorem cr_srt (hu : X.A.units + 64 < cLine) : CallR X (.builtin "sorted") (rSrt X.K) := by
  intro pins s σ H vs us Q I r hq
  obtain ⟨b, a, xs, ds, rfl, hs, hd, hal, hk, hdep, q⟩ := hq
  rw [Vals.ref1 r]
  obtain ⟨its, rv, hl, hz⟩ := seqX I hs
  have hlen := dpAll_len hd
  have e1 := each_rel (I := fun _ _ => True) rv hlen
  have e2 := each_reads I rv hd
  have em : (xs.zip ds).map Prod.snd = ds := by rw [List.map_snd_zip (by omega)]
  have hb : (xs.zip ds).length = xs.length := by rw [List.length_zip]; omega
  have hul : ∀ p, p ∈ xs.zip ds → X.A.units + 2 + p.2.depth < cLine := fun p hp => by
    have := hdep p.2 (List.of_mem_zip hp).2
    omega
  have fin : ∀ out : List Value, out.length = (xs.zip ds).length → EachIs (fun v (b : V × PyData) => RelV b.1 v) out ((xs.zip ds).mergeSort (dataLe false Prod.snd)) →
      EP X pins σ Q (.ref (s.heap.objs.size + 1)) { s with heap := sortedAll s.heap its out.toArray } := fun out ho he => by
    rw [← isort_eq (dataLe_total Prod.snd)] at he
    obtain ⟨ep, he2⟩ := PyProof.Rows.sortedAll_at s.heap its out.toArray
    have rv2 := vals_each he
    have hz2 : (sortV xs ds).length ≤ sizeLine := by
      have := rv2.length
      show (List.map Prod.fst _).length ≤ _
      omega
    exact ⟨.ref _, _, I.laid (t' := s.toks) (o := .lst (sortV xs ds)) (fun _ _ => PyProof.Rows.sortedAll_old) (Nat.le_succ _) ⟨hz2, out, ep, rv2, he2⟩, rfl, q _ (I.hok.fresh (Nat.le_succ _))⟩
  cases b with
  | false => exact sorted_data hl e1 e2 (by rw [em]; exact hal) (by rw [em]; exact hk) (by rw [hb]; exact hz) hul fin
  | true =>
    have hits : its.length ≤ sizeLine := by rw [← rv.length]; exact hz
    refine sorted_tup hl hits fun E2 => ?_
    have er := e2.mono (R' := fun v (b : V × PyData) => ∃ as, Reads (sortingHeap (copyHeap s.heap its) (s.heap.objs.size + 1) its) v b.2 as) fun _ _ ⟨as, r⟩ => ⟨as, PyProof.Rows.Reads.keeps (fun _ _ => sorting_copy_old) r⟩
    have S := SortsAt.data (prog := X.prog) (w := X.w) (A := X.A.in1.in1) (s := { s with heap := sortingHeap (copyHeap s.heap its) (s.heap.objs.size + 1) its })
      (each_map (R := fun v d => ∃ as, Reads (sortingHeap (copyHeap s.heap its) (s.heap.objs.size + 1) its) v d as) Prod.snd er) (by rw [em]; exact hal) (by rw [em]; exact hk) (bound_map hul)
    refine list_sort_vals (s := { s with heap := copyHeap s.heap its }) (copyHeap_at s.heap its) S hits ⟨rfl, ?_⟩
    exact fin _ (by rw [sortVals_length false rfl, hb]; exact rv.length.symm) (sortVals_data false e1 er (by rw [em]; exact hal))

/-! ### sum, least, greatest -/
def rSumX (K : PySem.W.Frag) : List V → Hp → VK → Prop := fun vs H Q => ∃ (b : Bool) (a : Addr) (ns : List Int), vs = [V.ref a] ∧ SqX K b H a (ns.map V.int) ∧ Q (.int ns.sum) H
theorem cr_sumX (hc : X.calm = true) : CallR X (.builtin "sum") (rSumX X.K) := by
  intro pins s σ H vs us Q I r hq
  obtain ⟨b, a, ns, rfl, hs, q⟩ := hq
  cases b with
  | false => exact cr_sum hc pins s σ H _ us Q I r ⟨a, ns, rfl, hs, q⟩
  | true =>
    obtain ⟨its, rv, hl, hz⟩ := seqX I hs
    rw [Vals.ref1 r]
    have hi := rv.ints
    obtain ⟨xs, hx⟩ := hi.allInts.items
    have hn : numsOf its.toArray.toList = ns := by rw [show its.toArray.toList = its from rfl, hi.numsOf]
    have hl2 : s.heap.IsTuple a its.toArray := hl
    rw [hx] at hl2 hn
    rw [nums_intItems] at hn
    refine ktm_sumG (I.ok.hd hc) hl2 fun h' tk t' hk => ⟨.int _, H, I.kept hk, ⟨_, rfl⟩, ?_⟩
    rw [preSum_eq, List.take_of_length_le (by simp), hn]
    exact q
end
end TL
/-! Methods by the receiver's kind; least and greatest; index; repr; dicts. -/
namespace TL
open PySem PySem.W PyProof.Rows L2

/-! ### methods -/
def tyZ (K : PySem.W.Frag) (T : String) (x : V) (H : Hp) : Prop := match x with
  | .str _ => T = "str"
  | .ref p => (T = "list" ∧ ∃ xs, SqL K H p xs) ∨ (T = "tuple" ∧ ∃ xs, FzT K H p xs) ∨ (T = "dict" ∧ ∃ kvs, H p = some (.dK kvs))
  | _ => False
section
variable {X : Cx}
theorem tyZ_is {pins : List (Addr × Obj)} {σ : L2.St} {H : Hp} {s : Shared} {T : String} {x : V} {v : Value} (I : Inv X pins σ H s) (r : RelV x v) (ty : tyZ X.K T x H) :
    s.TypeIs v T ∧ ∀ (a : Addr), v = Value.ref a → ∃ ob, s.heap.get? a = some ob ∧ ob.dict = none := by
  cases x with
  | str z => exact tyV_is (x := .str z) I r ty
  | ref p =>
    rcases ty with ty | ⟨rfl, xs, ty⟩ | ⟨rfl, kvs, ty⟩
    · exact tyV_is (x := .ref p) I r (.inl ty)
    · cases r
      obtain ⟨o, e, c, d⟩ := ty.free I
      exact ⟨⟨o, e, c⟩, fun a e2 => by cases e2; exact ⟨o, e, d⟩⟩
    · exact tyV_is (x := .ref p) I r (.inr (.inr (.inl ⟨rfl, .inl ⟨kvs, ty⟩⟩)))
  | non => exact False.elim ty
  | bl _ => exact False.elim ty
  | int _ => exact False.elim ty
  | byt _ => exact False.elim ty
  | flt _ => exact False.elim ty
  | ty _ => exact False.elim ty
/-- a method of one kind -/
structure MSp (X : Cx) (name : Str) where
  T : String
  id : String
  r : V → List V → Hp → VK → Prop
  pa : PlainAttrs T
  slot : Slot T name id
  hty : typeOf (.builtin id) = pure (.type "method_descriptor")
  hm : MtR X id r
def tMz (K : PySem.W.Frag) {X : Cx} {name : Str} {ι : Type} (F : ι → MSp X name) (to : TE) (t : TA) : TE := fun σ H Q => to σ H fun x H1 => ∃ i, tyZ K (F i).T x H1 ∧ t σ H1 fun xs H2 => (F i).r x xs H2 Q
theorem pe_mz {ι : Type} {name : Str} (F : ι → MSp X name) {o e : Expr} {es : List Expr} {to : TE} {t : TA} {apos cpos : Pos} (ho : PE X o to) (ha : PA X (e :: es) t)
    (hbase : attributeBase o name X.env (eval o X.env) = eval o X.env)
    (hfew : (backTo cpos (starEach (e :: es) X.env)).all (fun x => !x.1) = true) (hlen : es.length < 28) (hline : (apos.endLine == cpos.line) = true)
    (hst : starEach (e :: es) X.env = (false, eval e X.env) :: starEach es X.env) (hplain : (backTo cpos (starEach es X.env)).any (·.1) = false) :
    PE X (.Call (.Attribute o name apos) (e :: es) [] cpos) (tMz X.K F to t) := by
  refine ⟨fun pins s σ H Q I hq => ?_⟩
  have hl2 : decide ((e :: es).length + ([] : List Keyword).length + (if ([] : List Keyword).isEmpty then 0 else 1) < 30) = true := by
    rw [decide_eq_true_eq]
    simp only [List.length_cons, List.length_nil, List.isEmpty_nil, if_true]
    omega
  refine wpAny_Call_method_late hbase (by rw [hfew, hl2]; rfl) hline rfl (thn (ho.run pins s σ H _ I hq) fun v s1 ⟨x, H1, I1, r1, i, ty, q1⟩ => ?_)
  obtain ⟨g1, g2⟩ := tyZ_is I1 r1 ty
  refine ⟨(F i).T, (F i).id, (F i).pa, (F i).slot, (F i).hty, g1, g2, ?_⟩
  have hA := ha.run cpos pins s1 σ H1 _ I1 q1
  rw [hst] at hA ⊢
  have hp2 : (backTo cpos ((false, eval e X.env) :: starEach es X.env)).any (·.1) = false := by
    show (false || (backTo cpos (starEach es X.env)).any (·.1)) = false
    rw [hplain]
    rfl
  refine Calls.callWith_builtin hp2 (Calls.evalArgs_plain ?_)
  exact thn hA fun us s2 ⟨vs, H2, I2, r2, q2⟩ => (F i).hm pins s2 σ H2 x vs v us Q I2 r1 r2 q2
def tMz0 (K : PySem.W.Frag) {X : Cx} {name : Str} {ι : Type} (F : ι → MSp X name) (to : TE) : TE := fun σ H Q => to σ H fun x H1 => ∃ i, tyZ K (F i).T x H1 ∧ (F i).r x [] H1 Q
theorem pe_mz0 {ι : Type} {name : Str} (F : ι → MSp X name) {o : Expr} {to : TE} {apos cpos : Pos} (ho : PE X o to)
    (hbase : attributeBase o name X.env (eval o X.env) = eval o X.env) (hline : (apos.endLine == cpos.line) = true) :
    PE X (.Call (.Attribute o name apos) [] [] cpos) (tMz0 X.K F to) := by
  refine ⟨fun pins s σ H Q I hq => ?_⟩
  refine wpAny_Call_method0_late hbase hline (thn (ho.run pins s σ H _ I hq) fun v s1 ⟨x, H1, I1, r1, i, ty, q1⟩ => ?_)
  obtain ⟨g1, g2⟩ := tyZ_is I1 r1 ty
  refine ⟨(F i).T, (F i).id, (F i).pa, (F i).slot, (F i).hty, g1, g2, ?_⟩
  exact Calls.callWith_builtin rfl (PySem.evalArgs_none ((F i).hm pins s1 σ H1 x [] v [] Q I1 r1 .nil q1))

/-! ### t.index(k) of ints -/
def rTix (K : PySem.W.Frag) : V → List V → Hp → VK → Prop := fun x xs H Q => ∃ (a : Addr) (ns : List Int) (k : Int), x = V.ref a ∧ xs = [.int k] ∧ SqT K H a (ns.map V.int) ∧ k ∈ ns ∧ Q (.int (ns.idxOf k : Nat)) H
theorem mt_tix : MtR X "tuple.index" (rTix X.K) := by
  intro pins s σ H x xs v us Q I rx rxs hq
  obtain ⟨a, ns, k, rfl, rfl, hs, hk, q⟩ := hq
  cases rx
  obtain ⟨u, rfl, ⟨t, rfl⟩⟩ := Vals.one rxs
  obtain ⟨its, rv, hl, hz⟩ := I.tuple hs
  exact PySem.SeqAt.tuple_index_ints (vs := its) hl rv.ints hk ⟨.int _, H, I.tok _, ⟨_, rfl⟩, q⟩

/-! ### least and greatest -/
def rLst (K : PySem.W.Frag) : List V → Hp → VK → Prop := fun vs H Q => ∃ (b : Bool) (a : Addr) (n : Int) (ns : List Int), vs = [V.ref a] ∧ SqX K b H a ((n :: ns).map V.int) ∧ Q (.int (ns.foldl min n)) H
def rGst (K : PySem.W.Frag) : List V → Hp → VK → Prop := fun vs H Q => ∃ (b : Bool) (a : Addr) (n : Int) (ns : List Int), vs = [V.ref a] ∧ SqX K b H a ((n :: ns).map V.int) ∧ Q (.int (ns.foldl max n)) H
theorem reads_ints {h : Heap} : ∀ {its : List Value} {ns : List Int}, IntsAre its ns → ReadsAll h its (ns.map PyData.int) []
  | _, _, .nil => .nil
  | _, _, .cons n t r => .cons (as := []) (bs := []) (.int n t) (reads_ints r)
theorem alike_ints (ns : List Int) : AlikeAll (ns.map PyData.int) := by
  refine ⟨fun x hx y hy => ?_, fun x hx => ?_⟩
  · obtain ⟨i, _, rfl⟩ := List.mem_map.mp hx
    obtain ⟨j, _, rfl⟩ := List.mem_map.mp hy
    rfl
  · obtain ⟨i, _, rfl⟩ := List.mem_map.mp hx
    intro q; cases q
theorem depth_ints : ∀ ns : List Int, PyData.depthAll (ns.map PyData.int) ≤ 1
  | [] => by simp [PyData.depthAll]
  | n :: ns => by
    have := depth_ints ns
    simp only [List.map_cons, PyData.depthAll, PyData.depth]
    omega
theorem cr_lst (hc : X.calm = true) (hu : X.A.units + 64 < cLine) : CallR X (.builtin "min") (rLst X.K) := by
  intro pins s σ H vs us Q I r hq
  obtain ⟨b, a, n, ns, rfl, hs, q⟩ := hq
  obtain ⟨its, rv, hl, hz⟩ := seqX I hs
  rw [Vals.ref1 r]
  have hd := depth_ints (n :: ns)
  have hr : ReadsAll s.heap its.toArray.toList (PyData.int n :: ns.map PyData.int) [] := reads_ints rv.ints
  have hu2 : X.A.units + 1 + PyData.depthAll (PyData.int n :: ns.map PyData.int) < cLine := by
    simp only [List.map_cons] at hd
    omega
  have fin : ∀ (i : Nat) v h' tk bs, its.toArray[i]? = some v → Reads h' v (minD (.int n) (ns.map .int)) bs → (∀ b o, s.heap.get? b = some o → h'.get? b = some o) → EP X pins σ Q v { s with heap := h', toks := tk } := fun i v h' tk bs _ hv hk => by
    rw [minD_ints] at hv
    cases hv
    exact ⟨.int _, H, I.kept hk, ⟨_, rfl⟩, q⟩
  cases b with
  | true => exact min_tuple_data (I.ok.hd hc) hl hr (alike_ints (n :: ns)) hu2 fin
  | false => exact min_list_data (I.ok.hd hc) hl hr (alike_ints (n :: ns)) hu2 fin
theorem cr_gst (hc : X.calm = true) (hu : X.A.units + 64 < cLine) : CallR X (.builtin "max") (rGst X.K) := by
  intro pins s σ H vs us Q I r hq
  obtain ⟨b, a, n, ns, rfl, hs, q⟩ := hq
  obtain ⟨its, rv, hl, hz⟩ := seqX I hs
  rw [Vals.ref1 r]
  have hd := depth_ints (n :: ns)
  have hr : ReadsAll s.heap its.toArray.toList (PyData.int n :: ns.map PyData.int) [] := reads_ints rv.ints
  have hu2 : X.A.units + 1 + PyData.depthAll (PyData.int n :: ns.map PyData.int) < cLine := by
    simp only [List.map_cons] at hd
    omega
  have fin : ∀ (i : Nat) v h' tk bs, its.toArray[i]? = some v → Reads h' v (maxD (.int n) (ns.map .int)) bs → (∀ b o, s.heap.get? b = some o → h'.get? b = some o) → EP X pins σ Q v { s with heap := h', toks := tk } := fun i v h' tk bs _ hv hk => by
    rw [maxD_ints] at hv
    cases hv
    exact ⟨.int _, H, I.kept hk, ⟨_, rfl⟩, q⟩
  cases b with
  | true => exact max_tuple_data (I.ok.hd hc) hl hr (alike_ints (n :: ns)) hu2 fin
  | false => exact max_list_data (I.ok.hd hc) hl hr (alike_ints (n :: ns)) hu2 fin

/-! ### repr -/
def rRpr (K : PySem.W.Frag) : List V → Hp → VK → Prop := fun vs H Q => ∃ (x : V) (d : PyData), vs = [x] ∧ Dp K H x d ∧ d.showable = true ∧ d.depth ≤ 60 ∧ d.shown.length ≤ sizeLine ∧ Q (.str d.shown) H
mutual
theorem dp_noDict {K : PySem.W.Frag} {H : Hp} : ∀ {d : PyData} {v : V}, Dp K H v d → d.hasDict = false
  | .none, _, _ => by simp only [PyData.hasDict]
  | .bool _, _, _ => by simp only [PyData.hasDict]
  | .int _, _, _ => by simp only [PyData.hasDict]
  | .str _, _, _ => by simp only [PyData.hasDict]
  | .list _, _, h => by
    cases h with
    | lst _ q => simp only [PyData.hasDict]; exact dps_noDict q
  | .tuple _, _, h => by
    cases h with
    | tup _ q => simp only [PyData.hasDict]; exact dps_noDict q
  | .dict _, _, h => by cases h
theorem dps_noDict {K : PySem.W.Frag} {H : Hp} : ∀ {ds : List PyData} {vs : List V}, DpAll K H vs ds → PyData.hasDictAll ds = false
  | [], _, _ => by simp only [PyData.hasDictAll]
  | d :: ds, _, h => by
    cases h with
    | cons a b => simp only [PyData.hasDictAll, dp_noDict a, dps_noDict b, Bool.or_false]
end
theorem cr_rpr (hg : X.A.guards = some []) (hu : X.A.units + 64 < cLine) : CallR X (.builtin "repr") (rRpr X.K) := by
  intro pins s σ H vs us Q I r hq
  obtain ⟨x, d, rfl, hd, hs, hdep, hz, q⟩ := hq
  obtain ⟨u, rfl, ru⟩ := Vals.one r
  have nd := dp_noDict hd
  obtain ⟨as, hr⟩ := Dp.reads I d x u hd ru
  have fin : ∀ (h' : Heap) (t : Tok) (tk : Nat), (∀ b o, s.heap.get? b = some o → h'.get? b = some o) → EP X pins σ Q (.str d.shown t) { s with heap := h', toks := tk } :=
    fun h' t tk hk => ⟨.str d.shown, H, I.kept hk, ⟨_, rfl⟩, q⟩
  cases hd with
  | non =>
    cases ru
    refine PySem.P.repr_of_none ?_
    exact fin s.heap s.toks (s.toks + 1) fun _ _ e => e
  | bl b =>
    cases ru
    refine PySem.P.repr_of_bool ?_
    have := fin s.heap s.toks (s.toks + 1) fun _ _ e => e
    cases b <;> exact this
  | int i =>
    obtain ⟨t, rfl⟩ := ru
    refine PySem.P.repr_of_int (by simpa [PyData.showable] using hs) ?_
    exact fin s.heap s.toks (s.toks + 1) fun _ _ e => e
  | str z =>
    obtain ⟨t, rfl⟩ := ru
    refine PySem.P.repr_of_str ?_ hz
    exact fin s.heap s.toks (s.toks + 1) fun _ _ e => e
  | lst h1 h2 =>
    cases ru
    exact repr_of_reads' hr hs (fun e => by rw [nd] at e; cases e) hg (by omega) (fun _ _ e => e) fin hz
  | tup h1 h2 =>
    cases ru
    exact repr_of_reads' hr hs (fun e => by rw [nd] at e; cases e) hg (by omega) (fun _ _ e => e) fin hz

/-! ### dicts -/
def rDin : R2 := fun y x H Q => ∃ a o, x = .ref a ∧ DGet H a y o ∧ Q (.bl o.isSome) H
def rDnin : R2 := fun y x H Q => ∃ a o, x = .ref a ∧ DGet H a y o ∧ Q (.bl (!o.isSome)) H
theorem op_din (hu : X.A.units + 64 < cLine) : OpR X (compareOp .In) rDin := by
  intro pins s σ H y x iv u Q I ry rx hq
  obtain ⟨a, o, rfl, g, q⟩ := hq
  cases rx
  exact d_in (by omega) I g ry fun s3 I3 => ⟨.bl o.isSome, H, I3, rfl, q⟩
theorem op_dnin (hu : X.A.units + 64 < cLine) : OpR X (compareOp .NotIn) rDnin := by
  intro pins s σ H y x iv u Q I ry rx hq
  obtain ⟨a, o, rfl, g, q⟩ := hq
  cases rx
  exact d_notIn (by omega) I g ry fun s3 I3 => ⟨.bl (!o.isSome), H, I3, rfl, q⟩
def rIxD2 : R2 := fun x y H Q => ∃ a v, x = .ref a ∧ DGet H a y (some v) ∧ Q v H
theorem ix_dct (hu : X.A.units + 64 < cLine) : IxR X rIxD2 := by
  intro value slice pins s σ H x y v u Q I rx ry hq hs
  obtain ⟨a, z, rfl, g, q⟩ := hq
  cases rx
  exact tail_any (dict_typeIs I g) PySem.F.slot_dict_getitem.lookup (d_getItem (by omega) I g ry fun w' s3 I3 rw' => ⟨z, H, I3, rw', q⟩) hs
def rSetD : TSet := fun o i v H Q => ∃ a H', o = .ref a ∧ DPut H a i v H' ∧ Q H'
theorem set_dct (hu : X.A.units + 64 < cLine) : PSet X rSetD := by
  intro pins s σ H o i v ov iv u Q I ro ri rv hq
  obtain ⟨a, H', rfl, g, q⟩ := hq
  cases ro
  exact d_setItem (by omega) I g ri rv fun s4 I4 => ⟨H', I4, q⟩
theorem PSet.or {t t' : TSet} (p : PSet X t) (p' : PSet X t') : PSet X (fun o i v H Q => t o i v H Q ∨ t' o i v H Q) := by
  intro pins s σ H o i v ov iv u Q I ro ri rv hq
  rcases hq with hq | hq
  · exact p pins s σ H o i v ov iv u Q I ro ri rv hq
  · exact p' pins s σ H o i v ov iv u Q I ro ri rv hq
theorem CallR.or {f : Value} {r r' : List V → Hp → VK → Prop} (p : CallR X f r) (p' : CallR X f r') : CallR X f (fun xs H Q => r xs H Q ∨ r' xs H Q) := by
  intro pins s σ H xs us Q I ru hq
  rcases hq with hq | hq
  · exact p pins s σ H xs us Q I ru hq
  · exact p' pins s σ H xs us Q I ru hq
end
end TL
/-! The machine's operators promise what the readings ask. -/
namespace TL
open PySem L2 PyProof.Rows
/-- what the machine says of one value -/
abbrev QW (K : PySem.W.Frag) (Q : VK) : W → List Addr → Hw → Hp → Prop := fun w ρ' _ H' => ∀ v, VR K ρ' H' w v → Q v H'
section
variable {K : PySem.W.Frag} {ct : Nat → Option Value} {Wx : XK} {ρ : List Addr} {H : Hp} {h : Hw} {Q : VK}
theorem szOk_le {n : Nat} (e : szOk n = true) : n ≤ sizeLine := by rw [sizeLine_eq]; exact Nat.le_of_ble_eq_true e
theorem newTW (l : Rel K ρ h H) {zs : List W} {vs : List V} (qz : VRs K ρ H zs vs) (q : rd K ct Wx ρ H (.ok (.tup zs) h) (QW K Q)) : newT H vs Q := fun p o hp hd => by
  have s := Stp.laid (ρ := ρ) p (HO.frz o (.tup vs)) hp
  exact q ρ _ s (l.laid p _ hp) _ (VR.mk_tup (.inl ⟨o, upd_same, hd⟩) (qz.mv l s))
theorem newLW (l : Rel K ρ h H) {zs : List W} {vs : List V} (qz : VRs K ρ H zs vs) (q : rd K ct Wx ρ H (.ok (.ref h.n) (h.new (.lst zs))) (QW K Q)) : ∀ p, H p = none → Q (.ref p) (upd H p (.lst vs)) := fun p hp => by
  have s := Stp.new l p (HO.lst vs) hp
  refine q (ρ ++ [p]) _ s (l.new p _ _ hp ⟨vs, upd_same, qz.mv l s⟩) _ (VR.mk_ref ?_)
  rw [← l.len, List.getElem?_append_right (Nat.le_refl _)]
  simp
/-- a list is written -/
theorem wrLW (l : Rel K ρ h H) {n : Nat} {a : Addr} {xs : List V} (e : ρ[n]? = some a) (ha : H a = some (.lst xs)) {zs : List W} {vs : List V} (qz : VRs K ρ H zs vs) : Stp ρ ρ H (upd H a (.lst vs)) ∧ Rel K ρ (h.set n (.lst zs)) (upd H a (.lst vs)) := by
  have nz : ∀ o u, H a ≠ some (.frz o u) := fun o u z => by rw [ha] at z; cases z
  have s := Stp.wr (HO.lst vs) e nz
  exact ⟨s, l.wr _ _ e nz ⟨vs, upd_same, qz.mv l s⟩⟩
theorem rd.fine {α : Type} {a : α} {P : α → List Addr → Hw → Hp → Prop} (q : rd K ct Wx ρ H (.ok a h) P) (l : Rel K ρ h H) : P a ρ h H := q ρ H Stp.refl l

/-! ### two-place operators -/
def m2 (K : PySem.W.Frag) (ct : Nat → Option Value) (Wx : XK) (f : W → W → Hw → R W) : R2 := fun x y H Q => ∃ ρ h wx wy, Rel K ρ h H ∧ VR K ρ H wx x ∧ VR K ρ H wy y ∧ rd K ct Wx ρ H (f wx wy h) (QW K Q)
theorem ifb {α : Type} {c : Bool} {a : α} : ∀ {P : α → Prop} {b : α}, P (bif c then a else b) → ¬ P b → c = true ∧ P a := fun {P b} p n => by
  cases c with
  | true => exact ⟨rfl, p⟩
  | false => exact absurd p n
theorem rderr {α : Type} {P : α → List Addr → Hw → Hp → Prop} : ¬ rd K ct Wx ρ H (.err : R α) P := fun z => z
theorem rdif {α : Type} {c : Bool} {r : R α} {P : α → List Addr → Hw → Hp → Prop} (q : rd K ct Wx ρ H (bif c then r else .err) P) : c = true ∧ rd K ct Wx ρ H r P := by
  cases c with
  | true => exact ⟨rfl, q⟩
  | false => exact absurd q rderr
theorem rdnif {α : Type} {c : Bool} {r : R α} {P : α → List Addr → Hw → Hp → Prop} (q : rd K ct Wx ρ H (bif c then .err else r) P) : c = false ∧ rd K ct Wx ρ H r P := by
  cases c with
  | false => exact ⟨rfl, q⟩
  | true => exact absurd q rderr
theorem binW (o : Bop) {x y : V} (q : m2 K ct Wx (binOp o) x y H Q) : rB K o x y H Q := by
  obtain ⟨ρ, h, wx, wy, l, qx, qy, q⟩ := q
  cases o with
  | add =>
    cases wx with
    | int i =>
      cases wy with
      | int j =>
        rw [qx.nodep_int, qy.nodep_int]
        exact .inl (.inl ⟨i, j, rfl, rfl, q.fine l _ VR.mk_int⟩)
      | _ => exact absurd q rderr
    | str a =>
      cases wy with
      | str b =>
        rw [qx.nodep_str, qy.nodep_str]
        obtain ⟨c, q⟩ := rdif q
        exact .inr (.inl ⟨a, b, rfl, rfl, szOk_le c, q.fine l _ VR.mk_str⟩)
      | _ => exact absurd q rderr
    | tup xs =>
      cases wy with
      | tup ys =>
        obtain ⟨a, vs, rfl, ta, ra⟩ := qx.tup
        obtain ⟨b, us, rfl, tb, rb⟩ := qy.tup
        obtain ⟨c, q⟩ := rdif q
        have c := szOk_le c
        rw [← ra.length, ← rb.length] at c
        refine .inl (.inr ⟨a, b, vs, us, rfl, rfl, ta.sq, tb.sq, c, fun e => ?_, fun e1 e2 => ?_, fun e1 e2 => newTW l (ra.app rb) q⟩)
        · have e0 : xs = [] := by have := ra.length; rw [e] at this; exact List.eq_nil_of_length_eq_zero this.symm
          subst e0
          exact q.fine l _ qy
        · have e0 : ys = [] := by have := rb.length; rw [e2] at this; exact List.eq_nil_of_length_eq_zero this.symm
          subst e0
          rw [List.append_nil] at q
          exact q.fine l _ qx
      | _ => exact absurd q rderr
    | ref n =>
      cases wy with
      | ref m =>
        cases e1 : h.get n with
        | none => simp only [binOp, e1] at q; exact absurd q rderr
        | some o1 =>
          cases o1 with
          | dct _ => simp only [binOp, e1] at q; exact absurd q rderr
          | lst xs =>
            cases e2 : h.get m with
            | none => simp only [binOp, e1, e2] at q; exact absurd q rderr
            | some o2 =>
              cases o2 with
              | dct _ => simp only [binOp, e1, e2] at q; exact absurd q rderr
              | lst ys =>
                simp only [binOp, e1, e2] at q
                obtain ⟨c, q⟩ := rdif q
                obtain ⟨a, vs, rfl, _, ha, ra⟩ := l.lst e1 qx
                obtain ⟨b, us, rfl, _, hb, rb⟩ := l.lst e2 qy
                have c := szOk_le c
                rw [← ra.length, ← rb.length] at c
                exact .inr (.inr ⟨a, b, vs, us, rfl, rfl, ha, hb, c, newLW l (ra.app rb) q⟩)
      | _ => exact absurd q rderr
    | _ => exact absurd q rderr
  | sub =>
    cases wx with
    | int i =>
      cases wy with
      | int j =>
        rw [qx.nodep_int, qy.nodep_int]
        exact ⟨i, j, rfl, rfl, q.fine l _ VR.mk_int⟩
      | _ => exact absurd q rderr
    | _ => exact absurd q rderr
  | mul =>
    cases wy with
    | int j =>
      rw [qy.nodep_int]
      cases wx with
      | int i =>
        rw [qx.nodep_int]
        obtain ⟨c, q⟩ := rdif q
        refine .inl (.inl ⟨i, j, rfl, rfl, ?_, q.fine l _ VR.mk_int⟩)
        rcases (Bool.or_eq_true_iff.mp c) with c | c
        · exact .inl (smallOk c)
        · exact .inr (smallOk c)
      | tup xs =>
        obtain ⟨a, vs, rfl, ta, ra⟩ := qx.tup
        by_cases e : j = 1
        · subst e
          simp only [binOp, if_true] at q
          exact .inr (.inr ⟨a, vs, rfl, rfl, ta.sq, q.fine l _ qx⟩)
        · simp only [binOp, if_neg e] at q
          obtain ⟨c, q⟩ := rdif q
          simp only [Bool.and_eq_true, decide_eq_true_eq] at c
          obtain ⟨⟨⟨c1, c2⟩, c3⟩, c4⟩ := c
          refine .inr (.inl ⟨a, j, vs, rfl, rfl, ta.sq, ?_, c2, c3, by rw [ra.length]; exact Nat.le_of_ble_eq_true c4, newTW l (ra.rep _) q⟩)
          rintro rfl
          have := ra.length
          cases xs with
          | nil => cases c1
          | cons _ _ => cases this
      | ref n =>
        cases e1 : h.get n with
        | none => simp only [binOp, e1] at q; exact absurd q rderr
        | some o1 =>
          cases o1 with
          | dct _ => simp only [binOp, e1] at q; exact absurd q rderr
          | lst xs =>
            simp only [binOp, e1] at q
            obtain ⟨c, q⟩ := rdif q
            obtain ⟨c1, c2⟩ := Bool.and_eq_true_iff.mp c
            obtain ⟨a, vs, rfl, _, ha, ra⟩ := l.lst e1 qx
            have c1 := Nat.le_of_ble_eq_true c1
            have c2 := szOk_le c2
            rw [← ra.length] at c2
            exact .inl (.inr ⟨a, j, vs, rfl, rfl, ha, by omega, by omega, c2, newLW l (ra.rep _) q⟩)
      | _ => exact absurd q rderr
    | _ => cases wx <;> exact absurd q rderr
  | fdiv =>
    cases wx with
    | int i =>
      cases wy with
      | int j =>
        rw [qx.nodep_int, qy.nodep_int]
        obtain ⟨c, q⟩ := rdnif q
        obtain ⟨c1, c2⟩ := Bool.or_eq_false_iff.mp c
        refine ⟨i, j, rfl, rfl, ⟨by simpa using c1, ?_⟩, q.fine l _ VR.mk_int⟩
        have := Nat.lt_of_not_le fun z => Bool.false_ne_true (c2.symm.trans (Nat.ble_eq_true_of_le z))
        omega
      | _ => exact absurd q rderr
    | _ => exact absurd q rderr
  | mod =>
    cases wx with
    | int i =>
      cases wy with
      | int j =>
        rw [qx.nodep_int, qy.nodep_int]
        obtain ⟨c, q⟩ := rdnif q
        exact ⟨i, j, rfl, rfl, by simpa using c, q.fine l _ VR.mk_int⟩
      | _ => exact absurd q rderr
    | _ => exact absurd q rderr
/-! ### comparisons -/
/-- what the machine says of a truth value -/
def m2B (K : PySem.W.Frag) (f : W → W → Hw → Option Bool) : R2 := fun x y H Q => ∃ ρ h wx wy b, Rel K ρ h H ∧ VR K ρ H wx x ∧ VR K ρ H wy y ∧ f wx wy h = some b ∧ Q (.bl b) H
def copOf : Cop → CmpOp
  | .eq => .Eq
  | .ne => .NotEq
  | .lt => .Lt
  | .le => .LtE
  | .gt => .Gt
  | .ge => .GtE
  | .isin => .In
  | .notin => .NotIn
  | .iss => .Is
  | .isnt => .IsNot
theorem eqW_ok (l : Rel K ρ h H) {wx wy : W} {x y : V} {b : Bool} (qx : VR K ρ H wx x) (qy : VR K ρ H wy y) (e : eqW h wx wy = some b) : (∃ i j, x = .int i ∧ y = .int j ∧ b = (i == j)) ∨ ∃ d e, Dp K H x d ∧ Dp K H y e ∧ SeqAt.shaped d = true ∧ SeqAt.shaped e = true ∧ b = PyData.eqv d e := by
  by_cases hi : ∃ i j, wx = .int i ∧ wy = .int j
  · obtain ⟨i, j, rfl, rfl⟩ := hi
    refine .inl ⟨i, j, qx.nodep_int, qy.nodep_int, ?_⟩
    unfold eqW at e
    exact (Option.some.inj e).symm
  · have e2 : (match dat h wx, dat h wy with
      | some d, some e => bif SeqAt.shaped d && SeqAt.shaped e then some (PyData.eqv d e) else none
      | _, _ => none) = some b := by
      unfold eqW at e
      split at e
      · exact absurd ⟨_, _, rfl, rfl⟩ hi
      · exact e
    cases e3 : dat h wx with
    | none => rw [e3] at e2; cases e2
    | some d =>
      cases e4 : dat h wy with
      | none => rw [e3, e4] at e2; cases e2
      | some d2 =>
        rw [e3, e4] at e2
        simp only at e2
        cases c : (SeqAt.shaped d && SeqAt.shaped d2) with
        | false => rw [c] at e2; cases e2
        | true =>
          rw [c] at e2
          obtain ⟨c1, c2⟩ := Bool.and_eq_true_iff.mp c
          exact .inr ⟨d, d2, toD_ok l 40 wx x d e3 qx, toD_ok l 40 wy y d2 e4 qy, c1, c2, (Option.some.inj e2).symm⟩
theorem isNon_ok {wx : W} {x : V} {b : Bool} (qx : VR K ρ H wx x) (e : isNon wx = some b) : b = decide (x = .non) := by
  cases wx with
  | non => rw [qx.nodep_non]; exact (Option.some.inj e).symm
  | bl _ => rw [qx.nodep_bl]; exact (Option.some.inj e).symm
  | int _ => rw [qx.nodep_int]; exact (Option.some.inj e).symm
  | str _ => rw [qx.nodep_str]; exact (Option.some.inj e).symm
  | tup _ => obtain ⟨a, _, rfl, _⟩ := qx.tup; exact (Option.some.inj e).symm
  | frl _ => obtain ⟨a, _, rfl, _⟩ := qx.frl; exact (Option.some.inj e).symm
  | ref _ => unfold VR at qx; obtain ⟨a, _, rfl⟩ := qx; exact (Option.some.inj e).symm
theorem notO_some {o : Option Bool} {b : Bool} (e : notO o = some b) : o = some (!b) := by
  cases o with
  | none => cases e
  | some c => unfold notO at e; cases e; rw [Bool.not_not]
theorem flat_ok {wx : W} {x u : V} (qx : VR K ρ H wx x) (e : flatW wx = some u) : x = u ∧ flatV x = true := by
  cases wx with
  | non => cases e; rw [qx.nodep_non]; exact ⟨rfl, rfl⟩
  | bl _ => cases e; rw [qx.nodep_bl]; exact ⟨rfl, rfl⟩
  | int _ => cases e; rw [qx.nodep_int]; exact ⟨rfl, rfl⟩
  | str _ => cases e; rw [qx.nodep_str]; exact ⟨rfl, rfl⟩
  | _ => cases e
theorem flats_ok : ∀ {ws : List W} {vs us : List V}, VRs K ρ H ws vs → optAll (ws.map flatW) = some us → vs = us ∧ vs.all flatV = true
  | [], _, _, q, e => by rw [VRs.nil_iff.mp q]; cases e; exact ⟨rfl, rfl⟩
  | w :: ws, _, us, q, e => by
    obtain ⟨v, r, rfl, q1, q2⟩ := VRs.cons_iff.mp q
    rw [List.map_cons] at e
    cases e1 : flatW w with
    | none => rw [e1] at e; cases e
    | some u =>
      rw [e1] at e
      unfold optAll at e
      cases e2 : optAll (ws.map flatW) with
      | none => simp only [e2] at e; cases e
      | some t =>
        simp only [e2] at e; cases e
        obtain ⟨a1, a2⟩ := flat_ok q1 e1
        obtain ⟨b1, b2⟩ := flats_ok q2 e2
        exact ⟨by rw [a1, b1], by rw [List.all_cons, a2, b2]; rfl⟩
theorem kFind_ok : ∀ {ws : List (L2.Key × W)} {vs : List (L2.Key × V)} (k : L2.Key), KRs K ρ H ws vs → (kFind ws k = none → valV vs k = none) ∧ ∀ w, kFind ws k = some w → ∃ v, valV vs k = some v ∧ VR K ρ H w v
  | [], _, k, q => by unfold KRs at q; subst q; exact ⟨fun _ => rfl, fun w e => by cases e⟩
  | (j, w) :: r, _, k, q => by
    unfold KRs at q
    obtain ⟨v, t, rfl, q1, q2⟩ := q
    unfold kFind
    by_cases e : j = k
    · simp only [if_pos e]
      exact ⟨fun z => (by cases z), fun u z => by cases z; exact ⟨v, valV_pos (p := (j, v)) e, q1⟩⟩
    · simp only [if_neg e]
      rw [valV_neg (p := (j, v)) e]
      exact kFind_ok k q2
theorem KRs.any : ∀ {ws : List (L2.Key × W)} {vs : List (L2.Key × V)} (k : L2.Key), KRs K ρ H ws vs → (vs.any fun p => decide (p.1 = k)) = ws.any fun p => decide (p.1 = k)
  | [], _, k, q => by unfold KRs at q; subst q; rfl
  | (j, w) :: r, _, k, q => by
    unfold KRs at q
    obtain ⟨v, t, rfl, q1, q2⟩ := q
    rw [List.any_cons, List.any_cons, KRs.any k q2]
theorem KRs.put1 {k : L2.Key} {w : W} {v : V} (qv : VR K ρ H w v) : ∀ {ws : List (L2.Key × W)} {vs : List (L2.Key × V)}, KRs K ρ H ws vs →
    KRs K ρ H (ws.map fun p => if p.1 = k then (p.1, w) else p) (vs.map fun p => if p.1 = k then (p.1, v) else p)
  | [], _, q => by unfold KRs at q; subst q; unfold KRs; rfl
  | (j, w0) :: r, _, q => by
    unfold KRs at q
    obtain ⟨v0, t, rfl, q1, q2⟩ := q
    have ih := KRs.put1 (k := k) qv q2
    rw [List.map_cons, List.map_cons]
    by_cases e : j = k
    · simp only [if_pos e]
      unfold KRs
      exact ⟨v, _, rfl, qv, ih⟩
    · simp only [if_neg e]
      unfold KRs
      exact ⟨v0, _, rfl, q1, ih⟩
theorem KRs.snoc {k : L2.Key} {w : W} {v : V} (qv : VR K ρ H w v) : ∀ {ws : List (L2.Key × W)} {vs : List (L2.Key × V)}, KRs K ρ H ws vs → KRs K ρ H (ws ++ [(k, w)]) (vs ++ [(k, v)])
  | [], _, q => by
    unfold KRs at q; subst q
    show KRs K ρ H [(k, w)] [(k, v)]
    unfold KRs
    exact ⟨v, [], rfl, qv, by unfold KRs; rfl⟩
  | (j, w0) :: r, _, q => by
    unfold KRs at q
    obtain ⟨v0, t, rfl, q1, q2⟩ := q
    rw [List.cons_append, List.cons_append]
    unfold KRs
    exact ⟨v0, _, rfl, q1, KRs.snoc qv q2⟩
theorem kPut_ok {ws : List (L2.Key × W)} {vs : List (L2.Key × V)} (k : L2.Key) {w : W} {v : V} (q : KRs K ρ H ws vs) (qv : VR K ρ H w v) : KRs K ρ H (kPut ws k w) (putK vs k v) := by
  unfold kPut putK
  rw [KRs.any k q]
  split
  · exact q.put1 qv
  · exact q.snoc qv
theorem keyOf_ok {w : W} {v : V} {k : L2.Key} (q : VR K ρ H w v) (e : keyOf w = some k) : v = kV k := by
  cases w with
  | int i => cases e; rw [q.nodep_int]; rfl
  | str i => cases e; rw [q.nodep_str]; rfl
  | _ => cases e
theorem KRs.keys : ∀ {ws : List (L2.Key × W)} {vs : List (L2.Key × V)}, KRs K ρ H ws vs → vs.map (·.1) = ws.map (·.1)
  | [], _, q => by unfold KRs at q; subst q; rfl
  | (j, w) :: r, _, q => by
    unfold KRs at q
    obtain ⟨v, t, rfl, q1, q2⟩ := q
    rw [List.map_cons, List.map_cons, KRs.keys q2]
/-- in -/
def rIn2 (K : PySem.W.Frag) (neg : Bool) : R2 := fun x y H Q => (if neg then rDnin x y H Q else rDin x y H Q) ∨ (if neg then rNotInD K x y H Q else rInD K x y H Q) ∨ rIn K neg x y H Q
theorem in_ok (neg : Bool) {x y : V} {wx wy : W} {b : Bool} (l : Rel K ρ h H) (qx : VR K ρ H wx x) (qy : VR K ρ H wy y) (e : inOp wx wy h = some b) (q : Q (.bl (if neg then !b else b)) H) : rIn2 K neg x y H Q := by
  cases wy with
  | ref n =>
    cases e1 : h.get n with
    | none => simp only [inOp, e1] at e; cases e
    | some o =>
      cases o with
      | dct kvs =>
        simp only [inOp, e1] at e
        obtain ⟨a, vs, rfl, _, ha, ra⟩ := l.dct e1 qy
        cases e2 : keyOf wx with
        | none => simp only [e2] at e; cases e
        | some k =>
          simp only [e2] at e
          rw [keyOf_ok qx e2]
          have hb : (valV vs k).isSome = b := by
            obtain ⟨g1, g2⟩ := kFind_ok k ra
            rw [← Option.some.inj e]
            cases e3 : kFind kvs k with
            | none => rw [g1 e3]; rfl
            | some w => obtain ⟨v, g, _⟩ := g2 w e3; rw [g]; rfl
          refine .inl ?_
          cases neg with
          | true => exact ⟨a, _, rfl, DGet.k (k := k) ha, by rw [hb]; exact q⟩
          | false => exact ⟨a, _, rfl, DGet.k (k := k) ha, by rw [hb]; exact q⟩
      | lst xs =>
        simp only [inOp, e1] at e
        obtain ⟨a, vs, rfl, _, ha, ra⟩ := l.lst e1 qy
        cases e2 : dat h wx with
        | none => simp only [e2] at e; cases e
        | some d =>
          cases e3 : optAll (xs.map (toD 39 h)) with
          | none => simp only [e2, e3] at e; cases e
          | some ds =>
            simp only [e2, e3] at e
            cases c : (SeqAt.shaped d && SeqAt.shaped (.list ds)) with
            | false => rw [c] at e; cases e
            | true =>
              rw [c, cond_true] at e
              obtain ⟨c1, c2⟩ := Bool.and_eq_true_iff.mp c
              rw [← Option.some.inj e] at q
              have p1 := toD_ok l 40 wx x d e2 qx
              have p2 : Dp K H (.ref a) (.list ds) := .lst (SqL.of ha) (toDs_ok l 39 xs vs ds e3 ra)
              refine .inr (.inl ?_)
              cases neg with
              | true => exact ⟨d, ds, p1, p2, c1, c2, q⟩
              | false => exact ⟨d, ds, p1, p2, c1, c2, q⟩
  | tup xs =>
    obtain ⟨a, vs, rfl, ta, ra⟩ := qy.tup
    simp only [inOp] at e
    cases e2 : flatW wx with
    | none => simp only [e2] at e; cases e
    | some u =>
      cases e3 : optAll (xs.map flatW) with
      | none => simp only [e2, e3] at e; cases e
      | some us =>
        simp only [e2, e3] at e
        obtain ⟨a1, a2⟩ := flat_ok qx e2
        obtain ⟨b1, b2⟩ := flats_ok ra e3
        subst a1 b1
        rw [← Option.some.inj e] at q
        exact .inr (.inr ⟨a, vs, rfl, .inr ta.sq, a2, b2, q⟩)
  | _ => simp only [inOp] at e; cases e
end
end TL
/-! Comparisons, subscripts, slices, stores, built-in functions, methods: the rules, by the machine. -/
namespace TL
open PySem L2 PyProof.Rows
section
variable {X : Cx} {ct : Nat → Option Value} {Wx : XK}
theorem binR (o : Bop) : OpR X (binaryOp (bopOf o)) (m2 X.K ct Wx (binOp o)) := fun pins s σ H x y v u Q I rx ry q => opB o pins s σ H x y v u Q I rx ry (binW o q)
theorem cmpR (hu : X.A.units + 65 < cLine) (o : Cop) : OpR X (compareOp (copOf o)) (m2B X.K (cmpOp o)) := by
  intro pins s σ H x y v u Q I rx ry q
  obtain ⟨ρ, h, wx, wy, b, l, qx, qy, e, q⟩ := q
  have ord : ∀ o : Cop, ordW o wx wy = some b → ∃ i j, x = .int i ∧ y = .int j ∧ b = ordOp o i j := fun o e2 => by
    cases wx with
    | int i =>
      cases wy with
      | int j => exact ⟨i, j, qx.nodep_int, qy.nodep_int, (Option.some.inj e2).symm⟩
      | _ => cases e2
    | _ => cases e2
  cases o with
  | eq =>
    rcases eqW_ok l qx qy e with ⟨i, j, rfl, rfl, rfl⟩ | ⟨d, d2, h1, h2, h3, h4, rfl⟩
    · exact op_eq pins s σ H _ _ v u Q I rx ry ⟨rfl, by rw [dec_int]; exact q⟩
    · exact op_eqD (by omega) pins s σ H _ _ v u Q I rx ry ⟨d, d2, h1, h2, h3, h4, q⟩
  | ne =>
    have e' := notO_some e
    rcases eqW_ok l qx qy e' with ⟨i, j, rfl, rfl, eb⟩ | ⟨d, d2, h1, h2, h3, h4, eb⟩
    · exact op_ne pins s σ H _ _ v u Q I rx ry ⟨rfl, by rw [dec_int, ← eb, Bool.not_not]; exact q⟩
    · exact op_neD (by omega) pins s σ H _ _ v u Q I rx ry ⟨d, d2, h1, h2, h3, h4, by rw [← eb, Bool.not_not]; exact q⟩
  | lt => obtain ⟨i, j, rfl, rfl, rfl⟩ := ord .lt e; exact op_lt pins s σ H _ _ v u Q I rx ry ⟨i, j, rfl, rfl, q⟩
  | le => obtain ⟨i, j, rfl, rfl, rfl⟩ := ord .le e; exact op_le pins s σ H _ _ v u Q I rx ry ⟨i, j, rfl, rfl, q⟩
  | gt => obtain ⟨i, j, rfl, rfl, rfl⟩ := ord .gt e; exact op_gt pins s σ H _ _ v u Q I rx ry ⟨i, j, rfl, rfl, q⟩
  | ge => obtain ⟨i, j, rfl, rfl, rfl⟩ := ord .ge e; exact op_ge pins s σ H _ _ v u Q I rx ry ⟨i, j, rfl, rfl, q⟩
  | isin =>
    rcases in_ok (Q := Q) false l qx qy e q with z | z | z
    · exact op_din (by omega) pins s σ H _ _ v u Q I rx ry z
    · exact op_inD hu pins s σ H _ _ v u Q I rx ry z
    · exact op_in_seq pins s σ H _ _ v u Q I rx ry z
  | notin =>
    have e' := notO_some e
    rcases in_ok (Q := Q) true l qx qy e' (by rw [if_pos rfl, Bool.not_not]; exact q) with z | z | z
    · exact op_dnin (by omega) pins s σ H _ _ v u Q I rx ry z
    · exact op_notInD hu pins s σ H _ _ v u Q I rx ry z
    · exact op_notIn_seq pins s σ H _ _ v u Q I rx ry z
  | iss =>
    cases wy with
    | non => rw [qy.nodep_non] at ry; exact op_isN pins s σ H x _ v u Q I rx ry ⟨rfl, by rw [← isNon_ok qx e]; exact q⟩
    | _ => cases e
  | isnt =>
    cases wy with
    | non => rw [qy.nodep_non] at ry; exact op_notN pins s σ H x _ v u Q I rx ry ⟨rfl, by rw [← isNon_ok qx (notO_some e), Bool.not_not]; exact q⟩
    | _ => cases e

/-! ### subscripts -/
theorem atI_W {K : PySem.W.Frag} {ρ : List Addr} {H : Hp} {ws : List W} {vs : List V} (q : VRs K ρ H ws vs) {i : Int} {w : W} (e : atI ws i = some w) : ∃ v, atI vs i = some v ∧ VR K ρ H w v := by
  unfold atI at e ⊢
  rw [q.length]
  cases e1 : ixN ws.length i with
  | none => rw [e1] at e; cases e
  | some j =>
    rw [e1] at e
    exact q.get e
def rIxA (K : PySem.W.Frag) : R2 := fun x y H Q => rIxL K x y H Q ∨ rIxT K x y H Q ∨ rIxD2 x y H Q
theorem idxW {K : PySem.W.Frag} {x y : V} {H : Hp} {Q : VK} (q : m2 K ct Wx idxOp x y H Q) : rIxA K x y H Q := by
  obtain ⟨ρ, h, wx, wy, l, qx, qy, q⟩ := q
  cases wx with
  | tup xs =>
    cases wy with
    | int i =>
      obtain ⟨a, vs, rfl, ta, ra⟩ := qx.tup
      rw [qy.nodep_int]
      cases e : atI xs i with
      | none => simp only [idxOp, e] at q; exact absurd q rderr
      | some w =>
        simp only [idxOp, e] at q
        obtain ⟨v, e2, qv⟩ := atI_W ra e
        exact .inr (.inl ⟨a, vs, i, v, rfl, rfl, ta.sq, e2, q.fine l _ qv⟩)
    | _ => exact absurd q rderr
  | frl xs =>
    cases wy with
    | int i =>
      obtain ⟨a, vs, rfl, ta, ra⟩ := qx.frl
      rw [qy.nodep_int]
      cases e : atI xs i with
      | none => simp only [idxOp, e] at q; exact absurd q rderr
      | some w =>
        simp only [idxOp, e] at q
        obtain ⟨v, e2, qv⟩ := atI_W ra e
        exact .inl ⟨a, vs, i, v, rfl, rfl, ta.seq, e2, q.fine l _ qv⟩
    | _ => exact absurd q rderr
  | ref n =>
    cases e1 : h.get n with
    | none => simp only [idxOp, e1] at q; exact absurd q rderr
    | some o =>
      cases o with
      | lst xs =>
        simp only [idxOp, e1] at q
        cases wy with
        | int i =>
          obtain ⟨a, vs, rfl, _, ha, ra⟩ := l.lst e1 qx
          rw [qy.nodep_int]
          cases e : atI xs i with
          | none => simp only [e] at q; exact absurd q rderr
          | some w =>
            simp only [e] at q
            obtain ⟨v, e2, qv⟩ := atI_W ra e
            exact .inl ⟨a, vs, i, v, rfl, rfl, SqL.of ha, e2, q.fine l _ qv⟩
        | _ => exact absurd q rderr
      | dct kvs =>
        simp only [idxOp, e1] at q
        obtain ⟨a, vs, rfl, _, ha, ra⟩ := l.dct e1 qx
        cases e2 : keyOf wy with
        | none => simp only [e2] at q; exact absurd q rderr
        | some k =>
          simp only [e2] at q
          rw [keyOf_ok qy e2]
          cases e3 : kFind kvs k with
          | none => simp only [e3] at q; exact absurd q rderr
          | some w =>
            simp only [e3] at q
            obtain ⟨v, g, qv⟩ := (kFind_ok k ra).2 w e3
            refine .inr (.inr ⟨a, v, rfl, ?_, q.fine l _ qv⟩)
            rw [← g]
            exact DGet.k ha
  | _ => exact absurd q rderr
theorem ixR (hu : X.A.units + 65 < cLine) : IxR X (m2 X.K ct Wx idxOp) := by
  intro value slice pins s σ H x y v u Q I rx ry q hs
  rcases idxW q with z | z | z
  · exact ix_list value slice pins s σ H x y v u Q I rx ry z hs
  · exact ix_tup value slice pins s σ H x y v u Q I rx ry z hs
  · exact ix_dct (by omega) value slice pins s σ H x y v u Q I rx ry z hs
theorem getR (hu : X.A.units + 65 < cLine) : PGet X (m2 X.K ct Wx idxOp) := by
  intro pins s σ H x y v u Q I rx ry q
  have hn := line63
  rcases idxW q with z | z | z
  · obtain ⟨p, xs, i, z, rfl, rfl, hq, he, q⟩ := z
    cases rx
    obtain ⟨t, rfl⟩ := ry
    obtain ⟨its, r, pl, hz⟩ := I.list hq
    obtain ⟨j, h1, h2, h3, h4, h5⟩ := atI_get he
    obtain ⟨w, ew, rw'⟩ := r.get h2
    have hl := r.length
    have fin : EP X pins σ Q w s := ⟨z, H, I, rw', q⟩
    by_cases h0 : 0 ≤ i
    · have hj : i.toNat = j := by
        rw [seqIndex_of h0 h5] at h1
        exact Option.some.inj h1
      exact wpAny_getItem_list pl.isList h0 (by omega) (by rw [hj]; simpa using ew) fin
    · have hj : (i + (its.toArray.size : Int)).toNat = j := by
        rw [seqIndex_neg (by omega) h4] at h1
        rw [List.size_toArray, ← hl]
        exact Option.some.inj h1
      exact wpAny_getItem_list_neg pl.isList (by omega) (by rw [List.size_toArray] <;> omega) (by omega) (by rw [hj]; simpa using ew) fin
  · obtain ⟨p, xs, i, z, rfl, rfl, hq, he, q⟩ := z
    cases rx
    obtain ⟨t, rfl⟩ := ry
    obtain ⟨its, r, pl, hz⟩ := I.tuple hq
    obtain ⟨j, h1, h2, h3, h4, h5⟩ := atI_get he
    obtain ⟨w, ew, rw'⟩ := r.get h2
    have hl := r.length
    exact PyProof.Rows.getItem_tuple (j := j) (Q := EP X pins σ Q) pl (by omega) (by omega) (by rw [List.size_toArray, ← hl]; exact h1) (by simpa using ew) ⟨z, H, I, rw', q⟩
  · obtain ⟨a, z, rfl, g, q⟩ := z
    cases rx
    exact d_getItem (by omega) I g ry fun w' s3 I3 rw' => ⟨z, H, I3, rw', q⟩
def m1S (K : PySem.W.Frag) (ct : Nat → Option Value) (Wx : XK) : V → Option Int → Option Int → Hp → VK → Prop := fun x lo hi H Q => ∃ ρ h wx, Rel K ρ h H ∧ VR K ρ H wx x ∧ rd K ct Wx ρ H (slcOp wx lo hi h) (QW K Q)
theorem cut_ok {K : PySem.W.Frag} {ρ : List Addr} {H : Hp} {ws : List W} {vs : List V} (q : VRs K ρ H ws vs) (lo hi : Option Int) : VRs K ρ H (cutW ws lo hi) (cutV vs lo hi) := by
  unfold cutW cutV
  rw [q.length]
  exact (q.drop _).take _
theorem slcR : SlR X (m1S X.K ct Wx) := by
  intro pins s σ H x v vl vu lo hi sl Q I rx hs pl pu q
  obtain ⟨ρ, h, wx, l, qx, q⟩ := q
  cases wx with
  | tup xs =>
    obtain ⟨a, vs, rfl, ta, ra⟩ := qx.tup
    refine sl_tupZ pins s σ H _ v vl vu lo hi sl Q I rx hs pl pu ⟨a, vs, rfl, ta.sq, fun e => ?_, fun e => newTW l (cut_ok ra lo hi) q⟩
    have e2 : cutW xs lo hi = xs := by
      unfold cutW
      rw [← ra.length, e.1, e.2, ra.length]
      simp
    have q2 : rd X.K ct Wx ρ H (.ok (.tup (cutW xs lo hi)) h) (QW X.K Q) := q
    rw [e2] at q2
    exact q2.fine l _ qx
  | frl xs =>
    obtain ⟨a, vs, rfl, ta, ra⟩ := qx.frl
    exact sl_list pins s σ H _ v vl vu lo hi sl Q I rx hs pl pu ⟨a, vs, rfl, ta.seq, newLW l (cut_ok ra lo hi) q⟩
  | ref n =>
    cases e1 : h.get n with
    | none => simp only [slcOp, e1] at q; exact absurd q rderr
    | some o =>
      cases o with
      | lst xs =>
        simp only [slcOp, e1] at q
        obtain ⟨a, vs, rfl, _, ha, ra⟩ := l.lst e1 qx
        exact sl_list pins s σ H _ v vl vu lo hi sl Q I rx hs pl pu ⟨a, vs, rfl, SqL.of ha, newLW l (cut_ok ra lo hi) q⟩
      | dct kvs => simp only [slcOp, e1] at q; exact absurd q rderr
  | _ => exact absurd q rderr
def m3S (K : PySem.W.Frag) : TSet := fun o i v H Q => ∃ ρ h wo wi wv h', Rel K ρ h H ∧ VR K ρ H wo o ∧ VR K ρ H wi i ∧ VR K ρ H wv v ∧ setOp wo wi wv h = some h' ∧ ∀ H', Stp ρ ρ H H' → Rel K ρ h' H' → Q H'
theorem putK_le {κ : Type} [DecidableEq κ] (kvs : List (κ × V)) (k : κ) (v : V) : (putK kvs k v).length ≤ kvs.length + 1 := length_putK kvs k v
theorem setR (hu : X.A.units + 65 < cLine) : PSet X (m3S X.K) := by
  intro pins s σ H o i v ov iv u Q I ro ri rv q
  obtain ⟨ρ, h, wo, wi, wv, h', l, qo, qi, qv, e, q⟩ := q
  cases wo with
  | ref n =>
    cases e1 : h.get n with
    | none => simp only [setOp, e1] at e; cases e
    | some ob =>
      cases ob with
      | lst xs =>
        simp only [setOp, e1] at e
        cases wi with
        | int k =>
          obtain ⟨a, vs, rfl, er, ha, ra⟩ := l.lst e1 qo
          rw [qi.nodep_int] at ri
          cases e2 : ixN xs.length k with
          | none => simp only [e2] at e; cases e
          | some j =>
            simp only [e2] at e
            have e := Option.some.inj e
            subst e
            obtain ⟨w1, w2⟩ := wrLW l er ha (ra.set j qv)
            exact set_list pins s σ H _ _ v ov iv u Q I ro ri rv ⟨a, vs, k, j, rfl, rfl, ha, by rw [ra.length]; exact e2, q _ w1 w2⟩
        | _ => cases e
      | dct kvs =>
        simp only [setOp, e1] at e
        obtain ⟨a, vs, rfl, er, ha, ra⟩ := l.dct e1 qo
        cases e2 : keyOf wi with
        | none => simp only [e2] at e; cases e
        | some k =>
          simp only [e2] at e
          rw [keyOf_ok qi e2] at ri
          cases c : Nat.ble (kvs.length + 1) 16777216 with
          | false => rw [c, cond_false] at e; exact absurd e (by simp)
          | true =>
            rw [c, cond_true] at e
            have e := Option.some.inj e
            subst e
            have c2 := Nat.le_of_ble_eq_true c
            have hl : vs.length = kvs.length := by have := congrArg List.length ra.keys; simpa using this
            have nz : ∀ o u, H a ≠ some (.frz o u) := fun o u z => by rw [ha] at z; cases z
            have st := Stp.wr (HO.dK (putK vs k v)) er nz
            exact set_dct (by omega) pins s σ H _ _ v ov iv u Q I ro ri rv ⟨a, _, rfl, DPut.k ha (by rw [hl, sizeLine_eq]; omega), q _ st (l.wr _ _ er nz ⟨_, upd_same, KRs.mv l st (kPut_ok k ra qv)⟩)⟩
  | _ => cases e
end
end TL
/-! Built-in functions, methods. -/
namespace TL
open PySem L2 PyProof.Rows
section
variable {K : PySem.W.Frag} {ct : Nat → Option Value} {Wx : XK} {ρ : List Addr} {H : Hp} {h : Hw} {Q : VK}
theorem sqX_of {a : Addr} {vs : List V} (q : SqL K H a vs ∨ SqT K H a vs) : ∃ b, SqX K b H a vs := by
  rcases q with q | q
  · exact ⟨false, q⟩
  · exact ⟨true, q⟩
theorem ints_ok : ∀ {ws : List W} {vs : List V} {is : List Int}, VRs K ρ H ws vs → intsOf ws = some is → vs = is.map V.int
  | [], _, _, q, e => by rw [VRs.nil_iff.mp q]; cases e; rfl
  | w :: ws, _, is, q, e => by
    obtain ⟨v, r, rfl, q1, q2⟩ := VRs.cons_iff.mp q
    cases w with
    | int i =>
      unfold intsOf at e
      cases e2 : intsOf ws with
      | none => rw [e2] at e; cases e
      | some js =>
        rw [e2] at e; cases e
        rw [q1.nodep_int, ints_ok q2 e2]
        rfl
    | _ => cases e
/-! sorting -/
def PR (K : PySem.W.Frag) (ρ : List Addr) (H : Hp) : List (W × PyData) → List (V × PyData) → Prop
  | [], m => m = []
  | p :: l, m => ∃ q r, m = q :: r ∧ p.2 = q.2 ∧ VR K ρ H p.1 q.1 ∧ PR K ρ H l r
theorem PR.ins {p : W × PyData} {q : V × PyData} (e : p.2 = q.2) (g : VR K ρ H p.1 q.1) : ∀ {l : List (W × PyData)} {m : List (V × PyData)}, PR K ρ H l m → PR K ρ H (insS (PySem.W.dataLe false Prod.snd) p l) (insS (PySem.W.dataLe false Prod.snd) q m)
  | [], _, z => by
    unfold PR at z; subst z
    exact ⟨q, [], rfl, e, g, rfl⟩
  | a :: l, _, z => by
    have z0 := z
    obtain ⟨b, r, rfl, e2, g2, t⟩ := z
    have hle : PySem.W.dataLe false Prod.snd p a = PySem.W.dataLe false Prod.snd q b := by
      unfold PySem.W.dataLe PySem.W.sortLe
      simp only [e, e2]
    unfold insS
    rw [hle]
    cases PySem.W.dataLe false Prod.snd q b with
    | true => exact ⟨q, _, rfl, e, g, z0⟩
    | false => exact ⟨b, _, rfl, e2, g2, PR.ins e g t⟩
theorem PR.srt : ∀ {l : List (W × PyData)} {m : List (V × PyData)}, PR K ρ H l m → PR K ρ H (isort (PySem.W.dataLe false Prod.snd) l) (isort (PySem.W.dataLe false Prod.snd) m)
  | [], _, z => by unfold PR at z; subst z; exact rfl
  | a :: l, _, z => by
    obtain ⟨b, r, rfl, e2, g2, t⟩ := z
    exact PR.ins e2 g2 t.srt
theorem PR.zip : ∀ {ws : List W} {vs : List V} {ds : List PyData}, VRs K ρ H ws vs → PR K ρ H (ws.zip ds) (vs.zip ds)
  | [], _, _, q => by rw [VRs.nil_iff.mp q]; exact rfl
  | w :: ws, _, [], q => by
    obtain ⟨v, r, rfl, q1, q2⟩ := VRs.cons_iff.mp q
    exact rfl
  | w :: ws, _, d :: ds, q => by
    obtain ⟨v, r, rfl, q1, q2⟩ := VRs.cons_iff.mp q
    exact ⟨(v, d), _, rfl, rfl, q1, PR.zip q2⟩
theorem PR.fst : ∀ {l : List (W × PyData)} {m : List (V × PyData)}, PR K ρ H l m → VRs K ρ H (l.map Prod.fst) (m.map Prod.fst)
  | [], _, z => by unfold PR at z; subst z; exact VRs.nil_iff.mpr rfl
  | a :: l, _, z => by
    obtain ⟨b, r, rfl, e2, g2, t⟩ := z
    exact VRs.cons_iff.mpr ⟨_, _, rfl, g2, t.fst⟩
theorem sort_ok {ws : List W} {vs : List V} (ds : List PyData) (q : VRs K ρ H ws vs) : VRs K ρ H ((isort (PySem.W.dataLe false Prod.snd) (ws.zip ds)).map Prod.fst) (sortV vs ds) := (PR.zip q).srt.fst
theorem sortOk_ok {ds : List PyData} (e : sortOk ds = true) : PySem.W.AllAlike ds ∧ PySem.W.Sortable ds ∧ ∀ d ∈ ds, d.depth ≤ 60 := by
  unfold sortOk at e
  simp only [Bool.and_eq_true, List.all_eq_true, Bool.or_eq_true] at e
  obtain ⟨⟨e1, e2⟩, e3⟩ := e
  refine ⟨fun d hd d' hd' => e1 d hd d' hd', ?_, fun d hd => Nat.le_of_ble_eq_true (e3 d hd)⟩
  rcases e2 with e2 | e2
  · refine .inl fun d hd => ?_
    have := e2 d hd
    unfold tupNE at this
    split at this
    · exact ⟨_, _, rfl⟩
    · cases this
  · refine .inr fun d hd => ?_
    have := e2 d hd
    refine ⟨?_, ?_⟩
    · rintro rfl; cases this
    · rintro xs rfl; cases this
end
/-! ### built-in functions -/
def biName : Bi → Str
  | .len => "len"
  | .list => "list"
  | .tuple => "tuple"
  | .sum => "sum"
  | .sorted => "sorted"
  | .min1 => "min"
  | .max1 => "max"
  | .min2 => "min"
  | .max2 => "max"
  | .int => "int"
  | .abs => "abs"
  | .isinst _ => "isinstance"
  | .repr => "repr"
  | .rev => "len"
  | .lrng1 => "list"
  | .lrng2 => "list"
def biVal : Bi → Value
  | .len => .builtin "len"
  | .list => .type "list"
  | .tuple => .type "tuple"
  | .sum => .builtin "sum"
  | .sorted => .builtin "sorted"
  | .min1 => .builtin "min"
  | .max1 => .builtin "max"
  | .min2 => .builtin "min"
  | .max2 => .builtin "max"
  | .int => .type "int"
  | .abs => .builtin "abs"
  | .isinst _ => .builtin "isinstance"
  | .repr => .builtin "repr"
  | .rev => .builtin "len"
  | .lrng1 => .type "list"
  | .lrng2 => .type "list"
theorem bootB (b : Bi) : bootBuiltins (biName b) = some (biVal b) := by cases b <;> first | decide +kernel | exact PyProof.Rows.boot_isinstance
theorem biNoName (b : Bi) : biName b ≠ "__name__" ∧ (biName b == ("__debug__" : Str)) = false := by
  cases b <;> first | exact ⟨by decide +kernel, by decide +kernel⟩ | exact ⟨(by decide +kernel : ("isinstance" : Str) ≠ "__name__"), (by decide +kernel : (("isinstance" : Str) == ("__debug__" : Str)) = false)⟩
def plainBi : Bi → Bool
  | .isinst _ => false
  | .rev => false
  | .lrng1 => false
  | .lrng2 => false
  | _ => true
section
variable {X : Cx} {ct : Nat → Option Value} {Wx : XK}
def m1C (K : PySem.W.Frag) (ct : Nat → Option Value) (Wx : XK) (b : Bi) : List V → Hp → VK → Prop := fun xs H Q => ∃ ρ h ws, Rel K ρ h H ∧ VRs K ρ H ws xs ∧ rd K ct Wx ρ H (biOp b ws h) (QW K Q)
theorem biR (hc : X.calm = true) (hu : X.A.units + 65 < cLine) (hg : X.A.guards = some []) (b : Bi) (hb : plainBi b = true) : CallR X (biVal b) (m1C X.K ct Wx b) := by
  intro pins s σ H xs us Q I r q
  obtain ⟨ρ, h, ws, l, qs, q⟩ := q
  cases b with
  | len =>
    match ws, qs, q with
    | [], _, q => exact absurd q rderr
    | x :: _ :: _, _, q => exact False.elim (by cases x <;> exact q)
    | [w], qs, q =>
      obtain ⟨v, rfl, qv⟩ := qs.one
      cases w with
      | str x =>
        rw [qv.nodep_str] at r
        obtain ⟨c, q⟩ := rdif q
        exact call_len pins s σ H _ us Q I r ⟨_, _, rfl, (show LenV X.K (.str x) H x.length from ⟨szOk_le c, rfl⟩), q.fine l _ VR.mk_int⟩
      | tup ys =>
        obtain ⟨a, vs, rfl, ta, ra⟩ := qv.tup
        exact call_len pins s σ H _ us Q I r ⟨_, ys.length, rfl, .inr ⟨vs, ta.sq, ra.length.symm⟩, q.fine l _ VR.mk_int⟩
      | frl ys =>
        obtain ⟨a, vs, rfl, ta, ra⟩ := qv.frl
        exact call_len pins s σ H _ us Q I r ⟨_, ys.length, rfl, .inl ⟨vs, ta.seq, ra.length.symm⟩, q.fine l _ VR.mk_int⟩
      | ref n =>
        cases e1 : h.get n with
        | none => simp only [biOp, e1] at q; exact absurd q rderr
        | some o =>
          cases o with
          | lst ys =>
            simp only [biOp, e1] at q
            obtain ⟨a, vs, rfl, _, ha, ra⟩ := l.lst e1 qv
            exact call_len pins s σ H _ us Q I r ⟨_, ys.length, rfl, .inl ⟨vs, SqL.of ha, ra.length.symm⟩, q.fine l _ VR.mk_int⟩
          | dct kvs =>
            simp only [biOp, e1] at q
            obtain ⟨a, vs, rfl, _, ha, ra⟩ := l.dct e1 qv
            have hl : vs.length = kvs.length := by have := congrArg List.length ra.keys; simpa using this
            exact call_lenD pins s σ H _ us Q I r ⟨a, vs, rfl, ha, by rw [hl]; exact q.fine l _ VR.mk_int⟩
      | _ => exact absurd q rderr
  | list =>
    match ws, qs, q with
    | [], _, q => exact absurd q rderr
    | _ :: _ :: _, _, q => exact absurd q rderr
    | [w], qs, q =>
      obtain ⟨v, rfl, qv⟩ := qs.one
      cases e : seqOf h w with
      | none => simp only [biOp, e] at q; exact absurd q rderr
      | some ys =>
        simp only [biOp, e] at q
        obtain ⟨a, vs, rfl, sq, ra⟩ := seqOf_ok l e qv
        exact call_list_of pins s σ H _ us Q I r ⟨a, vs, rfl, sq, newLW l ra q⟩
  | tuple =>
    match ws, qs, q with
    | [], _, q => exact absurd q rderr
    | _ :: _ :: _, _, q => exact absurd q rderr
    | [w], qs, q =>
      obtain ⟨v, rfl, qv⟩ := qs.one
      cases e : seqOf h w with
      | none => simp only [biOp, e] at q; exact absurd q rderr
      | some ys =>
        simp only [biOp, e] at q
        obtain ⟨a, vs, rfl, sq, ra⟩ := seqOf_ok l e qv
        refine call_tupZ pins s σ H _ us Q I r ⟨a, vs, rfl, ?_⟩
        cases w with
        | tup zs =>
          cases e
          obtain ⟨a2, vs2, e2, ta, ra2⟩ := qv.tup
          cases e2
          have : vs = vs2 := by
            rcases sq with sq | sq
            · obtain ⟨its, rv, ⟨o, n, g1, g2, g3⟩, _⟩ := I.list sq
              obtain ⟨its2, rv2, ⟨o2, g4, g5, _⟩, _⟩ := I.tuple ta.sq
              rw [g1] at g4; cases g4
              rw [g2] at g5; exact absurd g5 (by simp)
            · exact I.tuple_inj sq ta.sq
          subst this
          exact .inr ⟨ta.sq, q.fine l _ qv⟩
        | frl zs =>
          cases e
          obtain ⟨a2, vs2, e2, ta, ra2⟩ := qv.frl
          cases e2
          exact .inl ⟨(by
            rcases sq with sq | sq
            · exact sq
            · obtain ⟨its2, rv2, ⟨o2, g4, g5, _⟩, _⟩ := I.tuple sq
              obtain ⟨its, rv, ⟨o, n, g1, g2, g3⟩, _⟩ := I.list ta.seq
              rw [g1] at g4; cases g4
              rw [g2] at g5; exact absurd g5 (by simp)), newTW l ra q⟩
        | ref n =>
          cases e0 : h.get n with
          | none => simp only [seqOf, e0] at e; cases e
          | some ob =>
            cases ob with
            | dct _ => simp only [seqOf, e0] at e; cases e
            | lst ys2 =>
              simp only [seqOf, e0] at e
              cases e
              obtain ⟨a2, vs2, e2, _, ha, ra2⟩ := l.lst e0 qv
              cases e2
              exact .inl ⟨(by
                rcases sq with sq | sq
                · exact sq
                · obtain ⟨its2, rv2, ⟨o2, g4, g5, _⟩, _⟩ := I.tuple sq
                  obtain ⟨its, rv, ⟨o, n, g1, g2, g3⟩, _⟩ := I.list (SqL.of ha)
                  rw [g1] at g4; cases g4
                  rw [g2] at g5; exact absurd g5 (by simp)), newTW l ra q⟩
        | _ => cases e
  | sum =>
    match ws, qs, q with
    | [], _, q => exact absurd q rderr
    | _ :: _ :: _, _, q => exact absurd q rderr
    | [w], qs, q =>
      obtain ⟨v, rfl, qv⟩ := qs.one
      cases e : seqOf h w with
      | none => simp only [biOp, e] at q; exact absurd q rderr
      | some ys =>
        obtain ⟨a, vs, rfl, sq, ra⟩ := seqOf_ok l e qv
        cases e2 : intsOf ys with
        | none => simp only [biOp, e, e2] at q; exact absurd q rderr
        | some is =>
          simp only [biOp, e, e2] at q
          obtain ⟨b, sx⟩ := sqX_of sq
          rw [ints_ok ra e2] at sx
          exact cr_sumX hc pins s σ H _ us Q I r ⟨b, a, is, rfl, sx, q.fine l _ VR.mk_int⟩
  | sorted =>
    match ws, qs, q with
    | [], _, q => exact absurd q rderr
    | _ :: _ :: _, _, q => exact absurd q rderr
    | [w], qs, q =>
      obtain ⟨v, rfl, qv⟩ := qs.one
      cases e : seqOf h w with
      | none => simp only [biOp, e] at q; exact absurd q rderr
      | some ys =>
        obtain ⟨a, vs, rfl, sq, ra⟩ := seqOf_ok l e qv
        cases e2 : optAll (ys.map (dat h)) with
        | none => simp only [biOp, e, e2] at q; exact absurd q rderr
        | some ds =>
          simp only [biOp, e, e2] at q
          obtain ⟨c, q⟩ := rdif q
          obtain ⟨c1, c2, c3⟩ := sortOk_ok c
          obtain ⟨b, sx⟩ := sqX_of sq
          exact cr_srt (by omega) pins s σ H _ us Q I r ⟨b, a, vs, ds, rfl, sx, toDs_ok l 40 ys vs ds e2 ra, c1, c2, c3, newLW l (sort_ok ds ra) q⟩
  | min1 =>
    match ws, qs, q with
    | [], _, q => exact absurd q rderr
    | _ :: _ :: _, _, q => exact absurd q rderr
    | [w], qs, q =>
      obtain ⟨v, rfl, qv⟩ := qs.one
      cases e : seqOf h w with
      | none => simp only [biOp, e] at q; exact absurd q rderr
      | some ys =>
        obtain ⟨a, vs, rfl, sq, ra⟩ := seqOf_ok l e qv
        cases e2 : intsOf ys with
        | none => simp only [biOp, e, e2] at q; exact absurd q rderr
        | some is =>
          cases is with
          | nil => simp only [biOp, e, e2] at q; exact absurd q rderr
          | cons n ns =>
            simp only [biOp, e, e2] at q
            obtain ⟨b, sx⟩ := sqX_of sq
            rw [ints_ok ra e2] at sx
            exact cr_lst hc (by omega) pins s σ H _ us Q I r ⟨b, a, n, ns, rfl, sx, q.fine l _ VR.mk_int⟩
  | max1 =>
    match ws, qs, q with
    | [], _, q => exact absurd q rderr
    | _ :: _ :: _, _, q => exact absurd q rderr
    | [w], qs, q =>
      obtain ⟨v, rfl, qv⟩ := qs.one
      cases e : seqOf h w with
      | none => simp only [biOp, e] at q; exact absurd q rderr
      | some ys =>
        obtain ⟨a, vs, rfl, sq, ra⟩ := seqOf_ok l e qv
        cases e2 : intsOf ys with
        | none => simp only [biOp, e, e2] at q; exact absurd q rderr
        | some is =>
          cases is with
          | nil => simp only [biOp, e, e2] at q; exact absurd q rderr
          | cons n ns =>
            simp only [biOp, e, e2] at q
            obtain ⟨b, sx⟩ := sqX_of sq
            rw [ints_ok ra e2] at sx
            exact cr_gst hc (by omega) pins s σ H _ us Q I r ⟨b, a, n, ns, rfl, sx, q.fine l _ VR.mk_int⟩
  | max2 =>
    match ws, qs, q with
    | [.int i, .int j], qs, q =>
      obtain ⟨v, v2, rfl, q1, q2⟩ := qs.two
      rw [q1.nodep_int, q2.nodep_int] at r
      exact call_max2 hc pins s σ H _ us Q I r ⟨i, j, rfl, q.fine l _ VR.mk_int⟩
    | [], _, q => exact absurd q rderr
    | [x], _, q => exact False.elim (by cases x <;> exact q)
    | x :: y :: _ :: _, _, q => exact False.elim (by cases x <;> cases y <;> exact q)
  | min2 =>
    match ws, qs, q with
    | [.int i, .int j], qs, q =>
      obtain ⟨v, v2, rfl, q1, q2⟩ := qs.two
      rw [q1.nodep_int, q2.nodep_int] at r
      exact call_min2 hc pins s σ H _ us Q I r ⟨i, j, rfl, q.fine l _ VR.mk_int⟩
    | [], _, q => exact absurd q rderr
    | [x], _, q => exact False.elim (by cases x <;> exact q)
    | x :: y :: _ :: _, _, q => exact False.elim (by cases x <;> cases y <;> exact q)
  | int =>
    match ws, qs, q with
    | [.int i], qs, q =>
      obtain ⟨v, rfl, q1⟩ := qs.one
      rw [q1.nodep_int] at r
      exact call_int1 pins s σ H _ us Q I r (.inl ⟨i, rfl, q.fine l _ VR.mk_int⟩)
    | [.bl i], qs, q =>
      obtain ⟨v, rfl, q1⟩ := qs.one
      rw [q1.nodep_bl] at r
      exact call_int1 pins s σ H _ us Q I r (.inr ⟨i, rfl, q.fine l _ VR.mk_int⟩)
    | [], _, q => exact absurd q rderr
    | x :: _ :: _, _, q => exact False.elim (by cases x <;> exact q)
  | abs =>
    match ws, qs, q with
    | [.int i], qs, q =>
      obtain ⟨v, rfl, q1⟩ := qs.one
      rw [q1.nodep_int] at r
      exact call_abs pins s σ H _ us Q I r ⟨i, rfl, q.fine l _ VR.mk_int⟩
    | [], _, q => exact absurd q rderr
    | x :: _ :: _, _, q => exact False.elim (by cases x <;> exact q)
  | repr =>
    match ws, qs, q with
    | [], _, q => exact absurd q rderr
    | _ :: _ :: _, _, q => exact absurd q rderr
    | [w], qs, q =>
      obtain ⟨v, rfl, qv⟩ := qs.one
      cases e : dat h w with
      | none => simp only [biOp, e] at q; exact absurd q rderr
      | some d =>
        simp only [biOp, e] at q
        obtain ⟨c, q⟩ := rdif q
        simp only [Bool.and_eq_true] at c
        exact cr_rpr hg (by omega) pins s σ H _ us Q I r ⟨v, d, rfl, toD_ok l 40 w v d e qv, c.1.1, Nat.le_of_ble_eq_true c.1.2, szOk_le c.2, q.fine l _ VR.mk_str⟩
  | isinst _ => cases hb
  | rev => cases hb
  | lrng1 => cases hb
  | lrng2 => cases hb
end
end TL
/-! Methods, truth, isinstance, reversed copies, lists of ranges. -/
namespace TL
open PySem L2 PyProof.Rows
def meName : Me → Str
  | .append => "append"
  | .pop => "pop"
  | .index => "index"
  | .insert => "insert"
  | .extend => "extend"
def meId : Me → String
  | .append => "list.append"
  | .pop => "list.pop"
  | .index => "list.index"
  | .insert => "list.insert"
  | .extend => "list.extend"
def tyName : Nat → String
  | 0 => "int"
  | 1 => "bool"
  | 2 => "tuple"
  | 3 => "str"
  | 4 => "list"
  | _ => "dict"
def kindW : W → Bool
  | .tup _ => true
  | _ => false
section
variable {K : PySem.W.Frag} {ct : Nat → Option Value} {Wx : XK} {ρ : List Addr} {H : Hp} {h : Hw} {Q : VK}
theorem firstD_ok {d : PyData} : ∀ {ds : List PyData} {k j : Nat}, firstD d ds k = some j → ∃ i z, j = k + i ∧ ds[i]? = some z ∧ PyData.eqv z d = true ∧ ∀ m z', m < i → ds[m]? = some z' → PyData.eqv z' d = false
  | [], _, _, e => by cases e
  | a :: r, k, j, e => by
    unfold firstD at e
    cases c : PyData.eqv a d with
    | true =>
      rw [c, cond_true] at e
      cases e
      exact ⟨0, a, rfl, rfl, c, fun m _ z => absurd z (Nat.not_lt_zero m)⟩
    | false =>
      rw [c, cond_false] at e
      obtain ⟨i, z, e1, e2, e3, e4⟩ := firstD_ok e
      refine ⟨i + 1, z, by omega, e2, e3, fun m z' hm hz => ?_⟩
      cases m with
      | zero => cases hz; exact c
      | succ m => exact e4 m z' (by omega) hz
theorem VRs.dropLast {ws : List W} {vs : List V} (q : VRs K ρ H ws vs) : VRs K ρ H ws.dropLast vs.dropLast := by
  rw [List.dropLast_eq_take, List.dropLast_eq_take, q.length]
  exact q.take _
def mM (K : PySem.W.Frag) (ct : Nat → Option Value) (Wx : XK) (m : Me) (tp : Bool) : V → List V → Hp → VK → Prop := fun x xs H Q => ∃ ρ h wx ws, Rel K ρ h H ∧ VR K ρ H wx x ∧ VRs K ρ H ws xs ∧ kindW wx = tp ∧ rd K ct Wx ρ H (meOp m wx ws h) (QW K Q)
end
section
variable {X : Cx} {ct : Nat → Option Value} {Wx : XK}
theorem meLst {K : PySem.W.Frag} {m : Me} {wx : W} {ws : List W} {ρ : List Addr} {H : Hp} {h : Hw} {P : W → List Addr → Hw → Hp → Prop} (hk : kindW wx = false) (q : rd K ct Wx ρ H (meOp m wx ws h) P) : ∃ n xs, wx = .ref n ∧ h.get n = some (.lst xs) := by
  cases wx with
  | ref n =>
    cases e : h.get n with
    | none => exact False.elim (by cases m <;> cases ws with
        | nil => first | exact q | (simp only [meOp, e] at q; exact q)
        | cons w ws => cases w <;> cases ws with
          | nil => first | exact q | (simp only [meOp, e] at q; exact q)
          | cons w2 ws => cases ws <;> first | exact q | (simp only [meOp, e] at q; exact q))
    | some o =>
      cases o with
      | lst xs => exact ⟨n, xs, rfl, e⟩
      | dct kvs => exact False.elim (by cases m <;> cases ws with
        | nil => first | exact q | (simp only [meOp, e] at q; exact q)
        | cons w ws => cases w <;> cases ws with
          | nil => first | exact q | (simp only [meOp, e] at q; exact q)
          | cons w2 ws => cases ws <;> first | exact q | (simp only [meOp, e] at q; exact q))
  | tup xs => cases hk
  | _ => exact False.elim (by cases m <;> first | exact q | (cases ws with
      | nil => exact q
      | cons w ws => cases w <;> cases ws with
        | nil => exact q
        | cons w2 ws => cases ws <;> exact q))
theorem meL (hu : X.A.units + 65 < cLine) (m : Me) : MtR X (meId m) (mM X.K ct Wx m false) := by
  intro pins s σ H x xs v us Q I rx rxs q
  obtain ⟨ρ, h, wx, ws, l, qx, qs, hk, q⟩ := q
  obtain ⟨n, ys, rfl, e1⟩ := meLst hk q
  obtain ⟨a, vs, rfl, er, ha, ra⟩ := l.lst e1 qx
  cases m with
  | append =>
    match ws, qs, q with
    | [], _, q => exact False.elim q
    | _ :: _ :: _, _, q => exact False.elim q
    | [w], qs, q =>
      obtain ⟨y, rfl, qy⟩ := qs.one
      simp only [meOp, e1] at q
      obtain ⟨c, q⟩ := rdif q
      have c := Nat.le_of_ble_eq_true c
      obtain ⟨w1, w2⟩ := wrLW l er ha (ra.app (us := [w]) (ts := [y]) qs)
      exact mt_append pins s σ H _ _ v us Q I rx rxs ⟨a, vs, y, rfl, rfl, ha, by rw [ra.length, sizeLine_eq]; omega, q _ _ w1 w2 _ VR.mk_non⟩
  | pop =>
    match ws, qs, q with
    | [], qs, q =>
      obtain rfl := VRs.nil_iff.mp qs
      cases e2 : ys[ys.length - 1]? with
      | none => simp only [meOp, e1, e2] at q; exact absurd q rderr
      | some w =>
        simp only [meOp, e1, e2] at q
        obtain ⟨y, g, qy⟩ := ra.get e2
        obtain ⟨w1, w2⟩ := wrLW l er ha ra.dropLast
        exact mt_pop pins s σ H _ _ v us Q I rx rxs ⟨a, vs, y, rfl, rfl, ha, by rw [ra.length]; exact g, q _ _ w1 w2 _ (qy.mv l w1)⟩
    | [.int i], qs, q =>
      obtain ⟨y0, rfl, qy0⟩ := qs.one
      rw [qy0.nodep_int] at rxs
      cases e2 : ixN ys.length i with
      | none => simp only [meOp, e1, e2] at q; exact absurd q rderr
      | some k =>
        cases e3 : ys[k]? with
        | none => simp only [meOp, e1, e2, e3] at q; exact absurd q rderr
        | some w =>
          simp only [meOp, e1, e2, e3] at q
          obtain ⟨c, q⟩ := rdif q
          have c : i.natAbs ≤ 2305843009213693952 := Nat.le_of_ble_eq_true c
          obtain ⟨y, g, qy⟩ := ra.get e3
          obtain ⟨w1, w2⟩ := wrLW l er ha (ra.eraseIdx k)
          exact mt_popAt pins s σ H _ _ v us Q I rx rxs ⟨a, vs, i, k, y, rfl, rfl, ha, by omega, by omega, by rw [ra.length]; exact (ixN_seq e2).1, g, q _ _ w1 w2 _ (qy.mv l w1)⟩
    | x :: _ :: _, _, q => exact False.elim (by cases x <;> exact q)
  | index =>
    match ws, qs, q with
    | [], _, q => exact False.elim q
    | x :: _ :: _, _, q => exact False.elim (by cases x <;> exact q)
    | [w], qs, q =>
      obtain ⟨y, rfl, qy⟩ := qs.one
      have q2 : rd X.K ct Wx ρ H (match dat h w, optAll (ys.map (toD 39 h)) with
        | some d, some ds => bif SeqAt.shaped d && SeqAt.shaped (.list ds) then (match firstD d ds 0 with
          | some k => .ok (.int k) h
          | none => .err) else .err
        | _, _ => .err) (QW X.K Q) := by
        cases w <;> (simp only [meOp, e1] at q; exact q)
      cases e2 : dat h w with
      | none => rw [e2] at q2; exact absurd q2 rderr
      | some d =>
        cases e3 : optAll (ys.map (toD 39 h)) with
        | none => rw [e2, e3] at q2; exact absurd q2 rderr
        | some ds =>
          simp only [e2, e3] at q2
          obtain ⟨c, q2⟩ := rdif q2
          obtain ⟨c1, c2⟩ := Bool.and_eq_true_iff.mp c
          cases e4 : firstD d ds 0 with
          | none => rw [e4] at q2; exact absurd q2 rderr
          | some k =>
            simp only [e4] at q2
            obtain ⟨i, z, f1, f2, f3, f4⟩ := firstD_ok e4
            have f1 : k = i := by omega
            subst f1
            exact mt_indexD hu pins s σ H _ _ v us Q I rx rxs ⟨a, y, d, ds, k, z, rfl, rfl, .lst (SqL.of ha) (toDs_ok l 39 ys vs ds e3 ra), toD_ok l 40 w y d e2 qy, c2, c1, f2, f3, f4, q2.fine l _ VR.mk_int⟩
  | insert =>
    match ws, qs, q with
    | [.int i, w], qs, q =>
      obtain ⟨y0, y, rfl, qy0, qy⟩ := qs.two
      rw [qy0.nodep_int] at rxs
      simp only [meOp, e1] at q
      obtain ⟨c, q⟩ := rdif q
      simp only [Bool.and_eq_true, decide_eq_true_eq] at c
      obtain ⟨⟨c1, c2⟩, c3⟩ := c
      have c1 := Nat.le_of_ble_eq_true c1
      have c2 : i.natAbs ≤ 2305843009213693952 := Nat.le_of_ble_eq_true c2
      obtain ⟨w1, w2⟩ := wrLW l er ha (((ra.take i.toNat).app (VRs.cons_iff.mpr ⟨y, [], rfl, qy, VRs.nil_iff.mpr rfl⟩)).app (ra.drop i.toNat))
      exact mt_insert pins s σ H _ _ v us Q I rx rxs ⟨a, vs, i, y, rfl, rfl, ha, by rw [ra.length, sizeLine_eq]; omega, c3, by omega, q _ _ w1 w2 _ VR.mk_non⟩
    | [], _, q => exact False.elim q
    | [x], _, q => exact False.elim (by cases x <;> exact q)
    | x :: _ :: _ :: _, _, q => exact False.elim (by cases x <;> exact q)
    | [.non, _], _, q => exact False.elim q
    | [.bl _, _], _, q => exact False.elim q
    | [.str _, _], _, q => exact False.elim q
    | [.tup _, _], _, q => exact False.elim q
    | [.frl _, _], _, q => exact False.elim q
    | [.ref _, _], _, q => exact False.elim q
  | extend =>
    match ws, qs, q with
    | [.ref m], qs, q =>
      obtain ⟨y0, rfl, qy0⟩ := qs.one
      cases e2 : h.get m with
      | none => simp only [meOp, e1, e2] at q; exact absurd q rderr
      | some o =>
        cases o with
        | dct _ => simp only [meOp, e1, e2] at q; exact absurd q rderr
        | lst zs =>
          simp only [meOp, e1, e2] at q
          obtain ⟨c, q⟩ := rdif q
          have c := szOk_le c
          obtain ⟨b, us2, rfl, _, hb, rb⟩ := l.lst e2 qy0
          rw [← ra.length, ← rb.length] at c
          obtain ⟨w1, w2⟩ := wrLW l er ha (ra.app rb)
          exact mt_extend pins s σ H _ _ v us Q I rx rxs ⟨a, b, vs, us2, rfl, rfl, ha, hb, c, q _ _ w1 w2 _ VR.mk_non⟩
    | [], _, q => exact False.elim q
    | x :: _ :: _, _, q => exact False.elim (by cases x <;> exact q)
    | [.non], _, q => exact False.elim q
    | [.bl _], _, q => exact False.elim q
    | [.int _], _, q => exact False.elim q
    | [.str _], _, q => exact False.elim q
    | [.tup _], _, q => exact False.elim q
    | [.frl _], _, q => exact False.elim q
theorem meT : MtR X "tuple.index" (mM X.K ct Wx .index true) := by
  intro pins s σ H x xs v us Q I rx rxs q
  obtain ⟨ρ, h, wx, ws, l, qx, qs, hk, q⟩ := q
  cases wx with
  | tup ys =>
    obtain ⟨a, vs, rfl, ta, ra⟩ := qx.tup
    match ws, qs, q with
    | [.int k], qs, q =>
      obtain ⟨y, rfl, qy⟩ := qs.one
      rw [qy.nodep_int] at rxs
      cases e : intsOf ys with
      | none => simp only [meOp, e] at q; exact absurd q rderr
      | some is =>
        simp only [meOp, e] at q
        obtain ⟨c, q⟩ := rdif q
        have e2 := ints_ok ra e
        subst e2
        exact mt_tix pins s σ H _ _ v us Q I rx rxs ⟨a, is, k, rfl, rfl, ta.sq, List.elem_iff.mp c, q.fine l _ VR.mk_int⟩
    | [], _, q => exact False.elim q
    | x :: _ :: _, _, q => exact False.elim (by cases x <;> exact q)
    | [.non], _, q => exact False.elim q
    | [.bl _], _, q => exact False.elim q
    | [.str _], _, q => exact False.elim q
    | [.tup _], _, q => exact False.elim q
    | [.frl _], _, q => exact False.elim q
    | [.ref _], _, q => exact False.elim q
  | _ => cases hk
/-- the methods of lists -/
def spL (ct : Nat → Option Value) (Wx : XK) (hu : X.A.units + 65 < cLine) : ∀ m : Me, MSp X (meName m)
  | .append => ⟨"list", _, mM X.K ct Wx .append false, PySem.F.plainAttrs_list, PySem.F.slot_list_append, PySem.F.type_list_append, meL hu .append⟩
  | .pop => ⟨"list", _, mM X.K ct Wx .pop false, PySem.F.plainAttrs_list, PySem.F.slot_list_pop, PySem.F.type_list_pop, meL hu .pop⟩
  | .index => ⟨"list", _, mM X.K ct Wx .index false, PySem.F.plainAttrs_list, PySem.F.slot_list_index, PySem.F.type_list_index, meL hu .index⟩
  | .insert => ⟨"list", _, mM X.K ct Wx .insert false, PySem.F.plainAttrs_list, PySem.F.slot_list_insert, PySem.F.type_list_insert, meL hu .insert⟩
  | .extend => ⟨"list", _, mM X.K ct Wx .extend false, PySem.F.plainAttrs_list, PySem.F.slot_list_extend, PySem.F.type_list_extend, meL hu .extend⟩
/-- by the kind of the receiver -/
def spM (ct : Nat → Option Value) (Wx : XK) (hu : X.A.units + 65 < cLine) (m : Me) (tp : Bool) : MSp X (meName m) := match m, tp with
  | .index, true => ⟨"tuple", _, mM X.K ct Wx .index true, PySem.F.plainAttrs_tuple, PySem.F.slot_tuple_index, PySem.F.type_tuple_index, meT⟩
  | m, _ => spL ct Wx hu m
theorem spL_is (hu : X.A.units + 65 < cLine) (m : Me) : (spL ct Wx hu m).T = "list" ∧ (spL ct Wx hu m).r = mM X.K ct Wx m false := by cases m <;> exact ⟨rfl, rfl⟩
/-- what the machine's look at the receiver tells -/
theorem recv_ok (hu : X.A.units + 65 < cLine) {m : Me} {wx : W} {x : V} {ρ : List Addr} {H : Hp} {h : Hw} (l : Rel X.K ρ h H) (qx : VR X.K ρ H wx x) (e : recvOk m wx h = true) :
    tyZ X.K (spM ct Wx hu m (kindW wx)).T x H ∧ (spM ct Wx hu m (kindW wx)).r = mM X.K ct Wx m (kindW wx) := by
  cases wx with
  | ref n =>
    cases e1 : h.get n with
    | none => simp only [recvOk, e1] at e; cases e
    | some o =>
      cases o with
      | dct _ => simp only [recvOk, e1] at e; cases e
      | lst xs =>
        obtain ⟨a, vs, rfl, _, ha, ra⟩ := l.lst e1 qx
        have h1 := spL_is (ct := ct) (Wx := Wx) hu m
        have h2 : spM ct Wx hu m (kindW (.ref n)) = spL ct Wx hu m := by cases m <;> rfl
        rw [h2, h1.1, h1.2]
        exact ⟨.inl ⟨rfl, vs, SqL.of ha⟩, rfl⟩
  | tup xs =>
    obtain ⟨a, vs, rfl, ta, ra⟩ := qx.tup
    cases m with
    | index => exact ⟨.inr (.inl ⟨rfl, vs, ta⟩), rfl⟩
    | _ => cases e
  | _ => cases e

/-! ### truth -/
theorem tru_W {K : PySem.W.Frag} {ρ : List Addr} {H : Hp} {h : Hw} (l : Rel K ρ h H) {w : W} {v : V} {b : Bool} (q : VR K ρ H w v) (e : tru h w = some b) : TruV K v H b := by
  cases w with
  | non => rw [q.nodep_non]; exact (Option.some.inj e).symm
  | bl _ => rw [q.nodep_bl]; exact (Option.some.inj e).symm
  | int _ => rw [q.nodep_int]; exact (Option.some.inj e).symm
  | str x =>
    rw [q.nodep_str]
    simp only [tru] at e
    cases c : Nat.ble x.length 16777216 with
    | false => rw [c, cond_false] at e; cases e
    | true =>
      rw [c, cond_true] at e
      exact ⟨by rw [sizeLine_eq]; exact Nat.le_of_ble_eq_true c, (Option.some.inj e).symm⟩
  | tup xs =>
    obtain ⟨a, vs, rfl, ta, ra⟩ := q.tup
    refine .inr (.inl ⟨vs, ta.sq, ?_⟩)
    have := ra.length
    rw [← Option.some.inj e]
    cases xs <;> cases vs <;> first | rfl | cases this
  | frl xs =>
    obtain ⟨a, vs, rfl, ta, ra⟩ := q.frl
    refine .inl ⟨vs, ta.seq, ?_⟩
    have := ra.length
    rw [← Option.some.inj e]
    cases xs <;> cases vs <;> first | rfl | cases this
  | ref n =>
    cases e1 : h.get n with
    | none => simp only [tru, e1] at e; cases e
    | some o =>
      cases o with
      | lst xs =>
        simp only [tru, e1] at e
        obtain ⟨a, vs, rfl, _, ha, ra⟩ := l.lst e1 q
        refine .inl ⟨vs, SqL.of ha, ?_⟩
        have := ra.length
        rw [← Option.some.inj e]
        cases xs <;> cases vs <;> first | rfl | cases this
      | dct kvs =>
        simp only [tru, e1] at e
        obtain ⟨a, vs, rfl, _, ha, ra⟩ := l.dct e1 q
        refine .inr (.inr ⟨vs, ha, ?_⟩)
        have := congrArg List.length ra.keys
        rw [← Option.some.inj e]
        cases kvs <;> cases vs <;> first | rfl | (simp at this)

/-! ### isinstance -/
theorem ty_W {K : PySem.W.Frag} {ρ : List Addr} {H : Hp} {h : Hw} (l : Rel K ρ h H) {w : W} {v : V} {b : Bool} {t : Nat} (ht : t < 6) (q : VR K ρ H w v) (e : isT t h w = some b) :
    ∃ T : String, TyX K H v (.type T) ∧ kitB T (tyName t) = some b := by
  have d : ∀ (T : String) (c : Bool), c = b → kitB T (tyName t) = some c → kitB T (tyName t) = some b := fun T c e1 e2 => by rw [← e1]; exact e2
  have h6 : t = 0 ∨ t = 1 ∨ t = 2 ∨ t = 3 ∨ t = 4 ∨ t = 5 := by omega
  cases w with
  | non =>
    rw [q.nodep_non]
    refine ⟨"NoneType", .base .non, d _ _ (Option.some.inj e) ?_⟩
    rcases h6 with rfl | rfl | rfl | rfl | rfl | rfl <;> decide +kernel
  | bl x =>
    rw [q.nodep_bl]
    refine ⟨"bool", .base (.bl x), d _ _ (Option.some.inj e) ?_⟩
    rcases h6 with rfl | rfl | rfl | rfl | rfl | rfl <;> decide +kernel
  | int x =>
    rw [q.nodep_int]
    refine ⟨"int", .base (.int x), d _ _ (Option.some.inj e) ?_⟩
    rcases h6 with rfl | rfl | rfl | rfl | rfl | rfl <;> decide +kernel
  | str x =>
    rw [q.nodep_str]
    refine ⟨"str", .base (.str x), d _ _ (Option.some.inj e) ?_⟩
    rcases h6 with rfl | rfl | rfl | rfl | rfl | rfl <;> decide +kernel
  | tup xs =>
    obtain ⟨a, vs, rfl, ta, ra⟩ := q.tup
    refine ⟨"tuple", ?_, d _ _ (Option.some.inj e) ?_⟩
    · rcases ta with ⟨o, g, _⟩ | ⟨o, its, n, g1, g2, _⟩
      · exact .fTuple g
      · exact .kTuple g1 g2
    · rcases h6 with rfl | rfl | rfl | rfl | rfl | rfl <;> decide +kernel
  | frl xs =>
    obtain ⟨a, vs, rfl, ta, ra⟩ := q.frl
    refine ⟨"list", ?_, d _ _ (Option.some.inj e) ?_⟩
    · rcases ta with ⟨o, g⟩ | ⟨o, its, n, g1, g2, _⟩
      · exact .base (.frz g)
      · exact .kList g1 g2
    · rcases h6 with rfl | rfl | rfl | rfl | rfl | rfl <;> decide +kernel
  | ref n =>
    cases e1 : h.get n with
    | none => simp only [isT, e1] at e; cases e
    | some o =>
      cases o with
      | lst xs =>
        simp only [isT, e1] at e
        obtain ⟨a, vs, rfl, _, ha, ra⟩ := l.lst e1 q
        refine ⟨"list", .base (.lst ha), d _ _ (Option.some.inj e) ?_⟩
        rcases h6 with rfl | rfl | rfl | rfl | rfl | rfl <;> decide +kernel
      | dct kvs =>
        simp only [isT, e1] at e
        obtain ⟨a, vs, rfl, _, ha, ra⟩ := l.dct e1 q
        refine ⟨"dict", .base (.dK ha), d _ _ (Option.some.inj e) ?_⟩
        rcases h6 with rfl | rfl | rfl | rfl | rfl | rfl <;> decide +kernel
end
end TL
/-! What is walked, by the machine; targets; the readings of statements. -/
namespace TL
open PySem PySem.Spec PyProof.Rows L2
mutual
theorem W.beq_eq : ∀ (a b : W), W.beq a b = true → a = b
  | .non, b, e => by cases b <;> first | rfl | (exact absurd e (by simp [W.beq]))
  | .bl x, b, e => by
    cases b with
    | bl y => simp [W.beq] at e; rw [e]
    | _ => exact absurd e (by simp [W.beq])
  | .int x, b, e => by
    cases b with
    | int y => simp [W.beq] at e; rw [e]
    | _ => exact absurd e (by simp [W.beq])
  | .str x, b, e => by
    cases b with
    | str y => simp [W.beq] at e; rw [e]
    | _ => exact absurd e (by simp [W.beq])
  | .tup x, b, e => by
    cases b with
    | tup y => simp only [W.beq] at e; rw [W.beqs_eq x y e]
    | _ => exact absurd e (by simp [W.beq])
  | .frl x, b, e => by cases b <;> exact absurd e (by simp [W.beq])
  | .ref x, b, e => by
    cases b with
    | ref y => simp only [W.beq] at e; rw [Nat.eq_of_beq_eq_true e]
    | _ => exact absurd e (by simp [W.beq])
theorem W.beqs_eq : ∀ (a b : List W), W.beqs a b = true → a = b
  | [], b, e => by
    cases b with
    | nil => rfl
    | cons _ _ => exact absurd e (by simp [W.beqs])
  | x :: xs, b, e => by
    cases b with
    | nil => exact absurd e (by simp [W.beqs])
    | cons y ys =>
      simp only [W.beqs, Bool.and_eq_true] at e
      rw [W.beq_eq x y e.1, W.beqs_eq xs ys e.2]
end
section
variable {K : PySem.W.Frag} {ct : Nat → Option Value} {ρ0 : List Addr} {H0 : Hp} {h0 : Hw}
/-- a sequence as it is walked -/
theorem seq_keep (l0 : Rel K ρ0 h0 H0) {w : W} {v : V} {xs : List W} (e : seqOf h0 w = some xs) (q : VR K ρ0 H0 w v) :
    ∃ (b : Bool) (a : Addr), v = .ref a ∧ (∃ vs, SqX K b H0 a vs) ∧ ∀ ρ h H, Stp ρ0 ρ H0 H → Rel K ρ h H → okG (grdOf h0 w) h = true → ∃ vs, SqX K b H a vs ∧ VRs K ρ H xs vs := by
  cases w with
  | tup ys =>
    cases e
    obtain ⟨a, vs, rfl, ta, ra⟩ := q.tup
    exact ⟨true, a, rfl, ⟨vs, ta.sq⟩, fun ρ h H s l g => ⟨vs, (ta.mv s).sq, ra.mv l0 s⟩⟩
  | frl ys =>
    cases e
    obtain ⟨a, vs, rfl, ta, ra⟩ := q.frl
    exact ⟨false, a, rfl, ⟨vs, ta.seq⟩, fun ρ h H s l g => ⟨vs, FzL.seq (ta.elim (fun ⟨o, q⟩ => .inl ⟨o, s.fz _ _ _ q⟩) .inr), ra.mv l0 s⟩⟩
  | ref n =>
    cases e0 : h0.get n with
    | none => simp only [seqOf, e0] at e; cases e
    | some o =>
      cases o with
      | dct _ => simp only [seqOf, e0] at e; cases e
      | lst ys =>
        simp only [seqOf, e0] at e
        cases e
        obtain ⟨a, vs, rfl, er, ha, ra⟩ := l0.lst e0 q
        refine ⟨false, a, rfl, ⟨vs, SqL.of ha⟩, fun ρ h H s l g => ?_⟩
        simp only [grdOf, e0, okG, List.all_cons, List.all_nil, Bool.and_true] at g
        cases e1 : h.get n with
        | none => rw [e1] at g; cases g
        | some o =>
          cases o with
          | dct _ => rw [e1] at g; cases g
          | lst zs =>
            rw [e1] at g
            have ez := W.beqs_eq _ _ g
            subst ez
            obtain ⟨a2, vs2, ea, _, hb, rb⟩ := l.lst e1 (VR.mk_ref (K := K) (H := H) (pre_get s.pre er))
            cases ea
            exact ⟨vs2, SqL.of hb, rb⟩
  | _ => cases e
/-- the walk goes over these items, while gs stand -/
structure WkW (K : PySem.W.Frag) (J : It) (xs : List W) (gs : List (Nat × List W)) (ρ0 : List Addr) (H0 : Hp) : Prop where
  go : ∀ ρ h H i, Stp ρ0 ρ H0 H → Rel K ρ h H → okG gs h = true → i < xs.length → J.go i H
  st : ∀ ρ h H, Stp ρ0 ρ H0 H → Rel K ρ h H → okG gs h = true → J.stop xs.length H
  yl : ∀ ρ h H i x H', Stp ρ0 ρ H0 H → Rel K ρ h H → okG gs h = true → i < xs.length → J.yld i H x H' → ∃ w, xs[i]? = some w ∧ Stp ρ ρ H H' ∧ Rel K ρ h H' ∧ VR K ρ H' w x
def ItS (K : PySem.W.Frag) (b : Bool) (a : Addr) : It := match b with
  | true => Itt K a
  | false => Itl K a
theorem its_go {b : Bool} {a : Addr} {i : Nat} {H : Hp} {xs : List V} {x : V} (q : SqX K b H a xs) (e : xs[i]? = some x) : (ItS K b a).go i H := by cases b <;> exact ⟨xs, x, q, e⟩
theorem its_st {b : Bool} {a : Addr} {i : Nat} {H : Hp} {xs : List V} (q : SqX K b H a xs) (e : xs.length ≤ i) : (ItS K b a).stop i H := by cases b <;> exact ⟨xs, q, e⟩
theorem its_yl {b : Bool} {a : Addr} {i : Nat} {H H' : Hp} {xs : List V} {x : V} (q : SqX K b H a xs) (e : (ItS K b a).yld i H x H') : H' = H ∧ xs[i]? = some x := by cases b <;> exact ⟨e.1, e.2 xs q⟩
theorem okG_app {g1 g2 : List (Nat × List W)} {h : Hw} (e : okG (g1 ++ g2) h = true) : okG g1 h = true ∧ okG g2 h = true := by
  unfold okG at e ⊢
  rw [List.all_append, Bool.and_eq_true] at e
  exact e
theorem wk_seq (l0 : Rel K ρ0 h0 H0) {w : W} {v : V} {xs : List W} (e : seqOf h0 w = some xs) (q : VR K ρ0 H0 w v) : ∃ (b : Bool) (a : Addr), v = .ref a ∧ (∃ vs, SqX K b H0 a vs) ∧ WkW K (ItS K b a) xs (grdOf h0 w) ρ0 H0 := by
  obtain ⟨b, a, rfl, k0, kp⟩ := seq_keep l0 e q
  refine ⟨b, a, rfl, k0, ⟨fun ρ h H i s l g hi => ?_, fun ρ h H s l g => ?_, fun ρ h H i x H' s l g hi y => ?_⟩⟩
  · obtain ⟨vs, sq, rv⟩ := kp ρ h H s l g
    have hi2 : i < vs.length := by rw [rv.length]; exact hi
    exact its_go sq (List.getElem?_eq_getElem hi2)
  · obtain ⟨vs, sq, rv⟩ := kp ρ h H s l g
    exact its_st sq (Nat.le_of_eq rv.length)
  · obtain ⟨vs, sq, rv⟩ := kp ρ h H s l g
    obtain ⟨rfl, ex⟩ := its_yl sq y
    obtain ⟨u, eu, qu⟩ := rv.get (List.getElem?_eq_getElem hi)
    rw [ex] at eu
    cases eu
    exact ⟨_, List.getElem?_eq_getElem hi, Stp.refl, l, qu⟩
theorem rngs_len : ∀ (n : Nat) (lo : Int), (rngs lo n).length = n
  | 0, _ => rfl
  | n + 1, lo => by unfold rngs; rw [List.length_cons, rngs_len n]
theorem rngs_get : ∀ (n : Nat) (lo : Int) (i : Nat), i < n → (rngs lo n)[i]? = some (.int (lo + i))
  | 0, _, _, h => absurd h (Nat.not_lt_zero _)
  | n + 1, lo, 0, _ => by unfold rngs; simp
  | n + 1, lo, i + 1, h => by
    unfold rngs
    rw [List.getElem?_cons_succ, rngs_get n (lo + 1) i (by omega)]
    congr 2
    omega
theorem wk_rng (lo : Int) (n : Nat) : WkW K (Itr lo n) (rngs lo n) [] ρ0 H0 := by
  refine ⟨fun ρ h H i s l g hi => ?_, fun ρ h H s l g => ?_, fun ρ h H i x H' s l g hi y => ?_⟩
  · rw [rngs_len] at hi; exact hi
  · exact Nat.le_of_eq (rngs_len n lo).symm
  · rw [rngs_len] at hi
    obtain ⟨rfl, rfl⟩ := y
    exact ⟨_, rngs_get n lo i hi, Stp.refl, l, VR.mk_int⟩
theorem enums_len : ∀ (xs : List W) (k : Nat), (enums k xs).length = xs.length
  | [], _ => rfl
  | x :: r, k => by unfold enums; rw [List.length_cons, List.length_cons, enums_len r]
theorem enums_get : ∀ (xs : List W) (k i : Nat) (x : W), xs[i]? = some x → (enums k xs)[i]? = some (.tup [.int ((k + i : Nat) : Int), x])
  | [], _, _, _, h => by simp at h
  | x :: r, k, 0, y, h => by unfold enums; simp at h; subst h; simp
  | x :: r, k, i + 1, y, h => by
    unfold enums
    rw [List.getElem?_cons_succ, enums_get r (k + 1) i y (by simpa using h)]
    rw [show k + 1 + i = k + (i + 1) by omega]
theorem newT_ok {ρ : List Addr} {h : Hw} {H H' : Hp} {ws : List W} {vs : List V} {v : V} (l : Rel K ρ h H) (q : VRs K ρ H ws vs) (n : NewT H vs v H') : Stp ρ ρ H H' ∧ Rel K ρ h H' ∧ VR K ρ H' (.tup ws) v := by
  obtain ⟨T, o, rfl, hT, hd, rfl⟩ := n
  have s := Stp.laid (ρ := ρ) T (HO.frz o (.tup vs)) hT
  exact ⟨s, l.laid T _ hT, VR.mk_tup (.inl ⟨o, upd_same, hd⟩) (q.mv l s)⟩
theorem wk_enm (l0 : Rel K ρ0 h0 H0) {w : W} {v : V} {xs : List W} (e : seqOf h0 w = some xs) (q : VR K ρ0 H0 w v) : ∃ (b : Bool) (a : Addr), v = .ref a ∧ (∃ vs, SqX K b H0 a vs) ∧ WkW K (ItE K b a) (enums 0 xs) (grdOf h0 w) ρ0 H0 := by
  obtain ⟨b, a, rfl, k0, kp⟩ := seq_keep l0 e q
  refine ⟨b, a, rfl, k0, ⟨fun ρ h H i s l g hi => ?_, fun ρ h H s l g => ?_, fun ρ h H i x H' s l g hi y => ?_⟩⟩
  · obtain ⟨vs, sq, rv⟩ := kp ρ h H s l g
    rw [enums_len] at hi
    have hi2 : i < vs.length := by rw [rv.length]; exact hi
    exact ⟨vs, _, sq, List.getElem?_eq_getElem hi2⟩
  · obtain ⟨vs, sq, rv⟩ := kp ρ h H s l g
    exact ⟨vs, sq, by rw [enums_len]; exact rv.length⟩
  · obtain ⟨vs, sq, rv⟩ := kp ρ h H s l g
    rw [enums_len] at hi
    obtain ⟨z, nt, ez⟩ := y
    obtain ⟨u, eu, qu⟩ := rv.get (List.getElem?_eq_getElem hi)
    rw [ez vs sq] at eu
    cases eu
    obtain ⟨s1, l1, q1⟩ := newT_ok (ws := [.int (i : Nat), xs[i]]) l (VRs.cons_iff.mpr ⟨_, _, rfl, VR.mk_int, VRs.cons_iff.mpr ⟨_, _, rfl, qu, VRs.nil_iff.mpr rfl⟩⟩) nt
    refine ⟨_, enums_get xs 0 i _ (List.getElem?_eq_getElem hi), s1, l1, ?_⟩
    rw [Nat.zero_add]
    exact q1
theorem zip2_len : ∀ (xs ys : List W), (zip2 xs ys).length = min xs.length ys.length
  | [], ys => by cases ys <;> simp [zip2]
  | x :: xs, [] => by simp [zip2]
  | x :: xs, y :: ys => by simp only [zip2, List.length_cons, zip2_len xs ys]; omega
theorem zip2_get : ∀ (xs ys : List W) (i : Nat) (x y : W), xs[i]? = some x → ys[i]? = some y → (zip2 xs ys)[i]? = some (.tup [x, y])
  | [], _, _, _, _, h, _ => by simp at h
  | _ :: _, [], _, _, _, _, h => by simp at h
  | x :: xs, y :: ys, 0, _, _, h, h2 => by simp at h h2; subst h h2; simp [zip2]
  | x :: xs, y :: ys, i + 1, a, b, h, h2 => by
    simp only [zip2, List.getElem?_cons_succ]
    exact zip2_get xs ys i a b (by simpa using h) (by simpa using h2)
theorem wk_zip (l0 : Rel K ρ0 h0 H0) {w w2 : W} {v v2 : V} {xs ys : List W} (e : seqOf h0 w = some xs) (q : VR K ρ0 H0 w v) (e2 : seqOf h0 w2 = some ys) (q2 : VR K ρ0 H0 w2 v2) :
    ∃ (b c : Bool) (a d : Addr) (us vs : List V), v = .ref a ∧ v2 = .ref d ∧ SqX K b H0 a us ∧ SqX K c H0 d vs ∧ WkW K (ItZ K b c a d) (zip2 xs ys) (grdOf h0 w ++ grdOf h0 w2) ρ0 H0 := by
  obtain ⟨b, a, rfl, ⟨us, k0⟩, kp⟩ := seq_keep l0 e q
  obtain ⟨c, d, rfl, ⟨vs, k1⟩, kp2⟩ := seq_keep l0 e2 q2
  refine ⟨b, c, a, d, us, vs, rfl, rfl, k0, k1, ⟨fun ρ h H i s l g hi => ?_, fun ρ h H s l g => ?_, fun ρ h H i x H' s l g hi y => ?_⟩⟩
  · obtain ⟨g1, g2⟩ := okG_app g
    obtain ⟨vs, sq, rv⟩ := kp ρ h H s l g1
    obtain ⟨vs2, sq2, rv2⟩ := kp2 ρ h H s l g2
    rw [zip2_len] at hi
    have i1 : i < vs.length := by rw [rv.length]; omega
    have i2 : i < vs2.length := by rw [rv2.length]; omega
    exact ⟨vs, vs2, _, _, sq, sq2, List.getElem?_eq_getElem i1, List.getElem?_eq_getElem i2⟩
  · obtain ⟨g1, g2⟩ := okG_app g
    obtain ⟨vs, sq, rv⟩ := kp ρ h H s l g1
    obtain ⟨vs2, sq2, rv2⟩ := kp2 ρ h H s l g2
    rw [zip2_len]
    exact ⟨vs, vs2, sq, sq2, by rw [rv.length]; omega, by rw [rv2.length]; omega, by rw [rv.length, rv2.length]; omega⟩
  · obtain ⟨g1, g2⟩ := okG_app g
    obtain ⟨vs, sq, rv⟩ := kp ρ h H s l g1
    obtain ⟨vs2, sq2, rv2⟩ := kp2 ρ h H s l g2
    rw [zip2_len] at hi
    have i1 : i < xs.length := by omega
    have i2 : i < ys.length := by omega
    obtain ⟨z1, z2, nt, e1, e2⟩ := y
    obtain ⟨u, eu, qu⟩ := rv.get (List.getElem?_eq_getElem i1)
    obtain ⟨u2, eu2, qu2⟩ := rv2.get (List.getElem?_eq_getElem i2)
    rw [e1 vs sq] at eu
    rw [e2 vs2 sq2] at eu2
    cases eu
    cases eu2
    obtain ⟨s1, l1, q1⟩ := newT_ok (ws := [xs[i], ys[i]]) l (VRs.cons_iff.mpr ⟨_, _, rfl, qu, VRs.cons_iff.mpr ⟨_, _, rfl, qu2, VRs.nil_iff.mpr rfl⟩⟩) nt
    exact ⟨_, zip2_get xs ys i _ _ (List.getElem?_eq_getElem i1) (List.getElem?_eq_getElem i2), s1, l1, q1⟩
end

/-! ### what a loop walks: the readings -/
def tI (K : PySem.W.Frag) (ct : Nat → Option Value) (Wx : WX) (k : ItK) (m : Env → Hw → R (List W)) : TI := fun σ H R => ∃ env ρ h, ER K ρ H env σ ∧ Rel K ρ h H ∧
  rd K ct (fun c d => Wx c d σ) ρ H (m env h) fun ws ρ' h' H' => ∃ p, iterOf k ws h' = some p ∧ ∀ J, WkW K J p.1 p.2 ρ' H' → R J H'
section
variable {X : Cx} {ct : Nat → Option Value} {Wx : WX} {tg : Expr} {m : Env → Hw → R W} {ma : Env → Hw → R (List W)}
def iSq (K : PySem.W.Frag) (tl : TE) : TI := fun σ H R => tl σ H fun x H1 => ∃ (b : Bool) (a : Addr), x = .ref a ∧ (∃ xs, SqX K b H1 a xs) ∧ R (ItS K b a) H1
theorem pi_sq {l : Expr} {tl : TE} (hl : PE X l tl) : PI X tg l (iSq X.K tl) := by
  refine ⟨fun pins s σ H R I hq => thn (hl.run pins s σ H _ I hq) fun v s1 ⟨x, H1, I1, r1, b, a, e, ⟨xs, sq⟩, q⟩ => ?_⟩
  subst e
  cases r1
  have fp : ∀ c ∈ [s1.heap.objs.size], FpOk X pins H1 c := fun c hc => by
    rw [List.mem_singleton.mp hc]
    exact I1.fpOk (Nat.le_refl _) (I1.hok.fresh (Nat.le_refl _))
  have kp : ∀ o : Obj, Inv X pins σ H1 { s1 with heap := s1.heap.push o } := fun o => I1.kept (t' := s1.toks) fun c u e => Heap.get?_push_of_some _ e
  cases b with
  | true =>
    obtain ⟨its, rv, p, hz⟩ := I1.tuple sq
    exact wpAny_pyIter_tuple (show s1.heap.IsTuple a its.toArray from p) ⟨_, _, _, _, H1, rfl, kp _, turn_tuple a _, ⟨_, Heap.get?_push_size _ rfl, rfl, rfl⟩, fp, q⟩
  | false =>
    obtain ⟨its, rv, p, hz⟩ := I1.list sq
    exact wpAny_pyIter_list p.isList ⟨_, _, _, _, H1, rfl, kp _, turn_list a _, ⟨_, Heap.get?_push_size _ rfl, rfl, rfl⟩, fp, q⟩
theorem PI.mo {e : Expr} {t t' : TI} (p : PI X tg e t) (f : ∀ σ H R, t' σ H R → t σ H R) : PI X tg e t' := ⟨fun pins s σ H R I q => p.run pins s σ H R I (f σ H R q)⟩
theorem pi_seqW {l : Expr} (hl : PE X l (tE X.K ct Wx m)) : PI X tg l (tI X.K ct Wx .seq fun env h => (m env h).bind fun x h1 => .ok [x] h1) := by
  refine PI.mo (pi_sq hl) fun σ H R ⟨env, ρ, h, er, l, q⟩ => ⟨env, ρ, h, er, l, (rd.bind q).imp fun w ρ' h' H' s' l' q => fun v qv => ?_⟩
  obtain ⟨p, e, q⟩ := rd.fine q l'
  simp only [iterOf] at e
  cases e1 : seqOf h' w with
  | none => rw [e1] at e; cases e
  | some xs =>
    rw [e1] at e
    cases e
    obtain ⟨b, a, rfl, ks, wk⟩ := wk_seq l' e1 qv
    exact ⟨b, a, rfl, ks, q _ wk⟩
theorem rngOk_b {i : Int} (e : rngOk i = true) : -(2 ^ 62) ≤ i ∧ i < 2 ^ 62 := by
  have : i.natAbs ≤ 2305843009213693952 := Nat.le_of_ble_eq_true e
  omega
theorem pi_rngW1 {a : Expr} {p pos : Pos} (hg : Gl X "range") (hm : X.mg "range" = none) (ha : PA X [a] (tA X.K ct Wx ma)) (hs : starEach [a] X.env = [(false, eval a X.env)]) :
    PI X tg (.Call (.Name "range" p) [a] [] pos) (tI X.K ct Wx .rng1 ma) := by
  refine PI.mo (pi_range1 hg hm ha hs) fun σ H R ⟨env, ρ, h, er, l, q⟩ => ⟨env, ρ, h, er, l, q.imp fun ws ρ' h' H' s' l' ⟨p, e, q⟩ => fun vs qs => ?_⟩
  match ws, qs, e with
  | [.int j], qs, e =>
    obtain ⟨v, rfl, qv⟩ := qs.one
    simp only [iterOf] at e
    cases c : rngOk j with
    | false => rw [c, cond_false] at e; exact absurd e (by simp)
    | true =>
      rw [c, cond_true] at e
      have e := Option.some.inj e
      subst e
      exact ⟨j, by rw [qv.nodep_int], (rngOk_b c).1, (rngOk_b c).2, q _ (wk_rng 0 j.toNat)⟩
  | [], _, e => exact absurd e (by simp [iterOf])
  | x :: _ :: _, _, e => exact absurd e (by cases x <;> simp [iterOf])
  | [.non], _, e => exact absurd e (by simp [iterOf])
  | [.bl _], _, e => exact absurd e (by simp [iterOf])
  | [.str _], _, e => exact absurd e (by simp [iterOf])
  | [.tup _], _, e => exact absurd e (by simp [iterOf])
  | [.frl _], _, e => exact absurd e (by simp [iterOf])
  | [.ref _], _, e => exact absurd e (by simp [iterOf])
theorem rng2_inv {ws : List W} {h : Hw} {p : List W × List (Nat × List W)} (e : iterOf .rng2 ws h = some p) : ∃ i j, ws = [.int i, .int j] ∧ rngOk i = true ∧ rngOk j = true ∧ p = (rngs i (j - i).toNat, []) := by
  match ws with
  | [] => simp [iterOf] at e
  | [x] => simp [iterOf] at e
  | _ :: _ :: _ :: _ => simp [iterOf] at e
  | [x, y] =>
    cases x with
    | int i =>
      cases y with
      | int j =>
        simp only [iterOf] at e
        cases c : (rngOk i && rngOk j) with
        | false => rw [c, cond_false] at e; exact absurd e (by simp)
        | true =>
          rw [c, cond_true] at e
          obtain ⟨c1, c2⟩ := Bool.and_eq_true_iff.mp c
          exact ⟨i, j, rfl, c1, c2, (Option.some.inj e).symm⟩
      | _ => simp [iterOf] at e
    | _ => simp [iterOf] at e
theorem pi_rngW2 {a b : Expr} {p pos : Pos} (hg : Gl X "range") (hm : X.mg "range" = none) (ha : PA X [a, b] (tA X.K ct Wx ma)) (hs : starEach [a, b] X.env = [(false, eval a X.env), (false, eval b X.env)]) (hs2 : starEach [b] X.env = [(false, eval b X.env)]) :
    PI X tg (.Call (.Name "range" p) [a, b] [] pos) (tI X.K ct Wx .rng2 ma) := by
  refine PI.mo (pi_range2 hg hm ha hs hs2) fun σ H R ⟨env, ρ, h, er, l, q⟩ => ⟨env, ρ, h, er, l, q.imp fun ws ρ' h' H' s' l' ⟨p, e, q⟩ => fun vs qs => ?_⟩
  have key := rng2_inv e
  obtain ⟨i, j, rfl, c1, c2, rfl⟩ := key
  obtain ⟨v, v2, rfl, q1, q2⟩ := qs.two
  exact ⟨i, j, by rw [q1.nodep_int, q2.nodep_int], ⟨(rngOk_b c1).1, (rngOk_b c1).2, (rngOk_b c2).1, (rngOk_b c2).2⟩, q _ (wk_rng i (j - i).toNat)⟩
theorem pi_enmW {e : Expr} {p pos tpos : Pos} {elts : List Expr} {kk : Nat} (hg : Gl X "enumerate") (hm : X.mg "enumerate" = none) (ha : PA X [e] (tA X.K ct Wx ma)) (hs : starEach [e] X.env = [(false, eval e X.env)]) :
    PI X (.Tuple elts kk tpos) (.Call (.Name "enumerate" p) [e] [] pos) (tI X.K ct Wx .enm ma) := by
  refine PI.mo (pi_enX hg hm ha hs) fun σ H R ⟨env, ρ, h, er, l, q⟩ => ⟨env, ρ, h, er, l, q.imp fun ws ρ' h' H' s' l' ⟨p, e, q⟩ => fun vs qs => ?_⟩
  match ws, qs, e with
  | [w], qs, e =>
    obtain ⟨v, rfl, qv⟩ := qs.one
    simp only [iterOf] at e
    cases e1 : seqOf h' w with
    | none => rw [e1] at e; cases e
    | some xs =>
      rw [e1] at e
      cases e
      obtain ⟨b, a, rfl, ⟨vs, ks⟩, wk⟩ := wk_enm l' e1 qv
      exact ⟨b, a, vs, rfl, ks, q _ wk⟩
  | [], _, e => exact absurd e (by simp [iterOf])
  | x :: _ :: _, _, e => exact absurd e (by simp [iterOf])
theorem pi_zipW {e e2 : Expr} {p pos tpos : Pos} {elts : List Expr} {kk : Nat} (hg : Gl X "zip") (hm : X.mg "zip" = none) (ha : PA X [e, e2] (tA X.K ct Wx ma))
    (hs : starEach [e, e2] X.env = (false, eval e X.env) :: starEach [e2] X.env) (hpl : (backTo pos (starEach [e2] X.env)).any (·.1) = false) :
    PI X (.Tuple elts kk tpos) (.Call (.Name "zip" p) [e, e2] [] pos) (tI X.K ct Wx .zip ma) := by
  refine PI.mo (pi_zpX hg hm ha hs hpl) fun σ H R ⟨env, ρ, h, er, l, q⟩ => ⟨env, ρ, h, er, l, q.imp fun ws ρ' h' H' s' l' ⟨p, e, q⟩ => fun vs qs => ?_⟩
  match ws, qs, e with
  | [w, w2], qs, e =>
    obtain ⟨v, v2, rfl, qv, qv2⟩ := qs.two
    simp only [iterOf] at e
    cases e1 : seqOf h' w with
    | none => rw [e1] at e; cases e
    | some xs =>
      cases e2 : seqOf h' w2 with
      | none => rw [e1, e2] at e; cases e
      | some ys =>
        rw [e1, e2] at e
        cases e
        obtain ⟨b, c, a, d, us, vs, rfl, rfl, k1, k2, wk⟩ := wk_zip l' e1 qv e2 qv2
        exact ⟨b, c, a, d, us, vs, rfl, k1, k2, q _ wk⟩
  | [], _, e => exact absurd e (by simp [iterOf])
  | [x], _, e => exact absurd e (by simp [iterOf])
  | x :: y :: _ :: _, _, e => exact absurd e (by simp [iterOf])
end
end TL
/-! Expressions: the rules, by the machine. -/
namespace TL
open PySem PySem.Spec PyProof.Rows L2
section
variable {K : PySem.W.Frag} {ct : Nat → Option Value} {Wx : WX} {env : Env} {ρ : List Addr} {h : Hw} {H : Hp} {σ : L2.St} {β : Type} {P : β → List Addr → Hw → Hp → Prop}
theorem stepE {m : Env → Hw → R W} {f : W → Hw → R β} {R' : VK} (er : ER K ρ H env σ) (l : Rel K ρ h H) (q : rd K ct (fun c d => Wx c d σ) ρ H ((m env h).bind f) P)
    (k : ∀ w ρ1 h1 H1, Stp ρ ρ1 H H1 → Rel K ρ1 h1 H1 → ER K ρ1 H1 env σ → rd K ct (fun c d => Wx c d σ) ρ1 H1 (f w h1) P → ∀ v, VR K ρ1 H1 w v → R' v H1) : tE K ct Wx m σ H R' :=
  ⟨env, ρ, h, er, l, (rd.bind q).imp fun w ρ1 h1 H1 s1 l1 q1 v qv => k w ρ1 h1 H1 s1 l1 (er.mv l s1) q1 v qv⟩
theorem stepT {m : Env → Hw → R Bool} {f : Bool → Hw → R β} {R' : Bool → Hp → Prop} (er : ER K ρ H env σ) (l : Rel K ρ h H) (q : rd K ct (fun c d => Wx c d σ) ρ H ((m env h).bind f) P)
    (k : ∀ b ρ1 h1 H1, Stp ρ ρ1 H H1 → Rel K ρ1 h1 H1 → ER K ρ1 H1 env σ → rd K ct (fun c d => Wx c d σ) ρ1 H1 (f b h1) P → R' b H1) : tT K ct Wx m σ H R' :=
  ⟨env, ρ, h, er, l, (rd.bind q).imp fun b ρ1 h1 H1 s1 l1 q1 => k b ρ1 h1 H1 s1 l1 (er.mv l s1) q1⟩
theorem stepA {m : Env → Hw → R (List W)} {f : List W → Hw → R β} {R' : List V → Hp → Prop} (er : ER K ρ H env σ) (l : Rel K ρ h H) (q : rd K ct (fun c d => Wx c d σ) ρ H ((m env h).bind f) P)
    (k : ∀ ws ρ1 h1 H1, Stp ρ ρ1 H H1 → Rel K ρ1 h1 H1 → ER K ρ1 H1 env σ → rd K ct (fun c d => Wx c d σ) ρ1 H1 (f ws h1) P → ∀ vs, VRs K ρ1 H1 ws vs → R' vs H1) : tA K ct Wx m σ H R' :=
  ⟨env, ρ, h, er, l, (rd.bind q).imp fun w ρ1 h1 H1 s1 l1 q1 v qv => k w ρ1 h1 H1 s1 l1 (er.mv l s1) q1 v qv⟩
end
section
variable {X : Cx} {ct : Nat → Option Value} {Wx : WX} {pos : Pos} {a b c : Expr} {ma mb mc : Env → Hw → R W} {es : List Expr} {mes : Env → Hw → R (List W)} {ta tb tc : Env → Hw → R Bool}

/-! names, constants -/
theorem w_var (C : Nat → List W → Hw → R W) {i : Nat} {x : Str} (hN : X.N[i]? = some x) (hv : Vis X.env.scope x) (hd : (x == ("__debug__" : Str)) = false) (hcd : (x == ("__classdict__" : Str)) = false) : PE X (.Name x pos) (tE X.K ct Wx (evE C (.var i))) :=
  PE.mo (pe_var hN hv hd hcd) fun σ H Q ⟨env, ρ, h, er, l, q⟩ => by
    have q : rd X.K ct (fun c d => Wx c d σ) ρ H (match env[i]? with
      | some (some w) => .ok w h
      | _ => .err) (QW X.K Q) := by
      simp only [evE] at q
      exact q
    cases e : env[i]? with
    | none => rw [e] at q; exact absurd q rderr
    | some o =>
      cases o with
      | none => rw [e] at q; exact absurd q rderr
      | some w =>
        rw [e] at q
        obtain ⟨v, e2, qv⟩ := er.get i w e
        exact ⟨v, e2, rd.fine q l v qv⟩
theorem w_c {e : Expr} {v : V} {w : W} {m : Env → Hw → R W} (he : PE X e (tC v)) (hm : ∀ env h, m env h = .ok w h) (hq : ∀ ρ H, VR X.K ρ H w v) : PE X e (tE X.K ct Wx m) :=
  PE.mo he fun σ H Q ⟨env, ρ, h, er, l, q⟩ => by
    rw [hm] at q
    exact rd.fine q l v (hq ρ H)

/-! operators -/
theorem w_bin (o : Bop) (ha : PE X a (tE X.K ct Wx ma)) (hb : PE X b (tE X.K ct Wx mb)) : PE X (.BinOp a (bopOf o) b pos) (tE X.K ct Wx fun env h => (ma env h).bind fun x h1 => (mb env h1).bind fun y h2 => binOp o x y h2) := by
  refine ⟨fun pins s σ H Q I ⟨env, ρ, h, er, l, q⟩ => (pe_op (pos := pos) (binR (ct := ct) (Wx := fun c d => Wx c d σ) o) ha hb).run pins s σ H Q I ?_⟩
  exact stepE er l q fun x ρ1 h1 H1 s1 l1 er1 q1 v qv => stepE er1 l1 q1 fun y ρ2 h2 H2 s2 l2 er2 q2 u qu => ⟨ρ2, h2, x, y, l2, qv.mv l1 s2, qu, q2⟩
def negOp (x : W) (h : Hw) : R W := match x with
  | .int i => .ok (.int (-i)) h
  | _ => .err
theorem w_neg (ha : PE X a (tE X.K ct Wx ma)) : PE X (.UnaryOp .USub a pos) (tE X.K ct Wx fun env h => (ma env h).bind fun x h1 => negOp x h1) :=
  PE.mo (pe_un un_neg ha) fun σ H Q ⟨env, ρ, h, er, l, q⟩ => stepE er l q fun x ρ1 h1 H1 s1 l1 er1 q1 v qv => by
    cases x with
    | int i => exact ⟨i, qv.nodep_int, rd.fine q1 l1 _ VR.mk_int⟩
    | _ => exact absurd q1 rderr
def okB (o : Option Bool) (h : Hw) : R W := match o with
  | some k => .ok (.bl k) h
  | none => .err
theorem w_cmp (hu : X.A.units + 65 < cLine) (o : Cop) (ha : PE X a (tE X.K ct Wx ma)) (hb : PE X b (tE X.K ct Wx mb)) (hm : behindInMarks (copOf o) b = false) :
    PE X (.Compare a [copOf o] [b] pos) (tE X.K ct Wx fun env h => (ma env h).bind fun x h1 => (mb env h1).bind fun y h2 => okB (cmpOp o x y h2) h2) :=
  PE.mo (pe_cmpR (cmpR hu o) ha hb hm) fun σ H Q ⟨env, ρ, h, er, l, q⟩ =>
    stepE er l q fun x ρ1 h1 H1 s1 l1 er1 q1 v qv => stepE er1 l1 q1 fun y ρ2 h2 H2 s2 l2 er2 q2 u qu => by
      cases e : cmpOp o x y h2 with
      | none => rw [e] at q2; exact absurd q2 rderr
      | some k => rw [e] at q2; exact ⟨ρ2, h2, x, y, k, l2, qv.mv l1 s2, qu, e, rd.fine q2 l2 _ VR.mk_bl⟩
/-- a test out of a truth value -/
def okT (o : Option Bool) (h : Hw) : R Bool := match o with
  | some k => .ok k h
  | none => .err
theorem w_cmpT (hu : X.A.units + 65 < cLine) (o : Cop) (ha : PE X a (tE X.K ct Wx ma)) (hb : PE X b (tE X.K ct Wx mb)) (hm : behindInMarks (copOf o) b = false) :
    PT X (.Compare a [copOf o] [b] pos) (tT X.K ct Wx fun env h => (ma env h).bind fun x h1 => (mb env h1).bind fun y h2 => okT (cmpOp o x y h2) h2) :=
  PT.mo (pt_cmpR (cmpR hu o) ha hb hm) fun σ H Q ⟨env, ρ, h, er, l, q⟩ =>
    stepE er l q fun x ρ1 h1 H1 s1 l1 er1 q1 v qv => stepE er1 l1 q1 fun y ρ2 h2 H2 s2 l2 er2 q2 u qu => by
      cases e : cmpOp o x y h2 with
      | none => rw [e] at q2; exact absurd q2 rderr
      | some k => rw [e] at q2; exact ⟨ρ2, h2, x, y, k, l2, qv.mv l1 s2, qu, e, k, rfl, rd.fine q2 l2⟩
def chnK (p : Cop) (y : W) (m3 : Hw → R W) (o : Option Bool) (h2 : Hw) : R W := match o with
  | some true => (m3 h2).bind fun z h3 => okB (cmpOp p y z h3) h3
  | some false => .ok (.bl false) h2
  | none => .err
theorem w_chn (hu : X.A.units + 65 < cLine) (o p : Cop) (ha : PE X a (tE X.K ct Wx ma)) (hb : PE X b (tE X.K ct Wx mb)) (hc : PE X c (tE X.K ct Wx mc)) (hm : lastMarks [copOf o, copOf p] [b, c] = false) :
    PE X (.Compare a [copOf o, copOf p] [b, c] pos) (tE X.K ct Wx fun env h => (ma env h).bind fun x h1 => (mb env h1).bind fun y h2 => chnK p y (mc env) (cmpOp o x y h2) h2) :=
  PE.mo (pe_chain (cmpR hu o) (cmpR hu p) ha hb hc hm) fun σ H Q ⟨env, ρ, h, er, l, q⟩ =>
    stepE er l q fun x ρ1 h1 H1 s1 l1 er1 q1 v qv => stepE er1 l1 q1 fun y ρ2 h2 H2 s2 l2 er2 q2 u qu => by
      cases e : cmpOp o x y h2 with
      | none => rw [e] at q2; exact absurd q2 rderr
      | some k =>
        rw [e] at q2
        refine ⟨ρ2, h2, x, y, k, l2, qv.mv l1 s2, qu, e, k, rfl, ?_⟩
        cases k with
        | false => exact rd.fine q2 l2 _ VR.mk_bl
        | true =>
          refine stepE er2 l2 q2 fun z ρ3 h3 H3 s3 l3 er3 q3 t qt => ?_
          cases e2 : cmpOp p y z h3 with
          | none => rw [e2] at q3; exact absurd q3 rderr
          | some k => rw [e2] at q3; exact ⟨ρ3, h3, y, z, k, l3, qu.mv l2 s3, qt, e2, rd.fine q3 l3 _ VR.mk_bl⟩
def chnT (p : Cop) (y : W) (m3 : Hw → R W) (o : Option Bool) (h2 : Hw) : R Bool := match o with
  | some true => (m3 h2).bind fun z h3 => okT (cmpOp p y z h3) h3
  | some false => .ok false h2
  | none => .err
theorem w_chnT (hu : X.A.units + 65 < cLine) (o p : Cop) (ha : PE X a (tE X.K ct Wx ma)) (hb : PE X b (tE X.K ct Wx mb)) (hc : PE X c (tE X.K ct Wx mc)) (hm : lastMarks [copOf o, copOf p] [b, c] = false) :
    PT X (.Compare a [copOf o, copOf p] [b, c] pos) (tT X.K ct Wx fun env h => (ma env h).bind fun x h1 => (mb env h1).bind fun y h2 => chnT p y (mc env) (cmpOp o x y h2) h2) :=
  PT.mo (pt_chain (cmpR hu o) (cmpR hu p) ha hb hc hm) fun σ H Q ⟨env, ρ, h, er, l, q⟩ =>
    stepE er l q fun x ρ1 h1 H1 s1 l1 er1 q1 v qv => stepE er1 l1 q1 fun y ρ2 h2 H2 s2 l2 er2 q2 u qu => by
      cases e : cmpOp o x y h2 with
      | none => rw [e] at q2; exact absurd q2 rderr
      | some k =>
        rw [e] at q2
        refine ⟨ρ2, h2, x, y, k, l2, qv.mv l1 s2, qu, e, k, rfl, ?_⟩
        cases k with
        | false => exact ⟨false, rfl, rd.fine q2 l2⟩
        | true =>
          refine stepE er2 l2 q2 fun z ρ3 h3 H3 s3 l3 er3 q3 t qt => ?_
          cases e2 : cmpOp p y z h3 with
          | none => rw [e2] at q3; exact absurd q3 rderr
          | some k => rw [e2] at q3; exact ⟨ρ3, h3, y, z, k, l3, qu.mv l2 s3, qt, e2, k, rfl, rd.fine q3 l3⟩

/-! and, or, not, if -/
def andK (m2 : Hw → R W) (x : W) (o : Option Bool) (h1 : Hw) : R W := match o with
  | some true => m2 h1
  | some false => .ok x h1
  | none => .err
def orK (m2 : Hw → R W) (x : W) (o : Option Bool) (h1 : Hw) : R W := match o with
  | some false => m2 h1
  | some true => .ok x h1
  | none => .err
theorem w_and {rest : List Expr} (ha : PE X a (tE X.K ct Wx ma)) (hb : PE X (.BoolOp .And (b :: rest) pos) (tE X.K ct Wx mb)) :
    PE X (.BoolOp .And (a :: b :: rest) pos) (tE X.K ct Wx fun env h => (ma env h).bind fun x h1 => andK (mb env) x (tru h1 x) h1) :=
  PE.mo (pe_andT ha hb) fun σ H Q ⟨env, ρ, h, er, l, q⟩ => stepE er l q fun x ρ1 h1 H1 s1 l1 er1 q1 v qv => by
    cases e : tru h1 x with
    | none => rw [e] at q1; exact absurd q1 rderr
    | some k =>
      rw [e] at q1
      refine ⟨k, tru_W l1 qv e, ?_⟩
      cases k with
      | true => exact ⟨env, ρ1, h1, er1, l1, q1⟩
      | false => exact rd.fine q1 l1 v qv
theorem w_or {rest : List Expr} (ha : PE X a (tE X.K ct Wx ma)) (hb : PE X (.BoolOp .Or (b :: rest) pos) (tE X.K ct Wx mb)) :
    PE X (.BoolOp .Or (a :: b :: rest) pos) (tE X.K ct Wx fun env h => (ma env h).bind fun x h1 => orK (mb env) x (tru h1 x) h1) :=
  PE.mo (pe_orT ha hb) fun σ H Q ⟨env, ρ, h, er, l, q⟩ => stepE er l q fun x ρ1 h1 H1 s1 l1 er1 q1 v qv => by
    cases e : tru h1 x with
    | none => rw [e] at q1; exact absurd q1 rderr
    | some k =>
      rw [e] at q1
      refine ⟨k, tru_W l1 qv e, ?_⟩
      cases k with
      | false => exact ⟨env, ρ1, h1, er1, l1, q1⟩
      | true => exact rd.fine q1 l1 v qv
def notOp (o : Option Bool) (h : Hw) : R W := match o with
  | some k => .ok (.bl (!k)) h
  | none => .err
theorem w_not (ha : PE X a (tE X.K ct Wx ma)) : PE X (.UnaryOp .Not a pos) (tE X.K ct Wx fun env h => (ma env h).bind fun x h1 => notOp (tru h1 x) h1) :=
  PE.mo (pe_notT ha) fun σ H Q ⟨env, ρ, h, er, l, q⟩ => stepE er l q fun x ρ1 h1 H1 s1 l1 er1 q1 v qv => by
    cases e : tru h1 x with
    | none => rw [e] at q1; exact absurd q1 rderr
    | some k => rw [e] at q1; exact ⟨k, tru_W l1 qv e, rd.fine q1 l1 _ VR.mk_bl⟩
theorem w_truth (ha : PE X a (tE X.K ct Wx ma)) (he : ∀ whole, isTrue a X.env whole = (do let v ← whole; standAt a.pos; holding [v] (truthy v))) :
    PT X a (tT X.K ct Wx fun env h => (ma env h).bind fun x h1 => okT (tru h1 x) h1) :=
  PT.mo (pt_truth ha he) fun σ H Q ⟨env, ρ, h, er, l, q⟩ => stepE er l q fun x ρ1 h1 H1 s1 l1 er1 q1 v qv => by
    cases e : tru h1 x with
    | none => rw [e] at q1; exact absurd q1 rderr
    | some k => rw [e] at q1; exact ⟨k, tru_W l1 qv e, rd.fine q1 l1⟩
theorem w_notT (ha : PT X a (tT X.K ct Wx ta)) : PT X (.UnaryOp .Not a pos) (tT X.K ct Wx fun env h => (ta env h).bind fun b h1 => .ok (!b) h1) :=
  PT.mo (pt_not ha) fun σ H Q ⟨env, ρ, h, er, l, q⟩ => stepT er l q fun b ρ1 h1 H1 s1 l1 er1 q1 => rd.fine q1 l1
theorem w_andT {rest : List Expr} (ha : PT X a (tT X.K ct Wx ta)) (hb : PW X (.BoolOp .And (b :: rest) pos) (tT X.K ct Wx tb)) :
    PW X (.BoolOp .And (a :: b :: rest) pos) (tT X.K ct Wx fun env h => (ta env h).bind fun k h1 => bif k then tb env h1 else .ok false h1) := by
  refine ⟨fun wh pins s σ H Q I ⟨env, ρ, h, er, l, q⟩ => (pw_and ha hb).run wh pins s σ H Q I ?_⟩
  refine stepT er l q fun k ρ1 h1 H1 s1 l1 er1 q1 => ?_
  cases k with
  | true => exact ⟨env, ρ1, h1, er1, l1, q1⟩
  | false => exact rd.fine q1 l1
theorem w_orT {rest : List Expr} (ha : PT X a (tT X.K ct Wx ta)) (hb : PW X (.BoolOp .Or (b :: rest) pos) (tT X.K ct Wx tb)) :
    PW X (.BoolOp .Or (a :: b :: rest) pos) (tT X.K ct Wx fun env h => (ta env h).bind fun k h1 => bif k then .ok true h1 else tb env h1) := by
  refine ⟨fun wh pins s σ H Q I ⟨env, ρ, h, er, l, q⟩ => (pw_or ha hb).run wh pins s σ H Q I ?_⟩
  refine stepT er l q fun k ρ1 h1 H1 s1 l1 er1 q1 => ?_
  cases k with
  | false => exact ⟨env, ρ1, h1, er1, l1, q1⟩
  | true => exact rd.fine q1 l1
theorem w_ife (hc : PT X c (tT X.K ct Wx tc)) (ha : PE X a (tE X.K ct Wx ma)) (hb : PE X b (tE X.K ct Wx mb)) :
    PE X (.IfExp c a b pos) (tE X.K ct Wx fun env h => (tc env h).bind fun k h1 => bif k then ma env h1 else mb env h1) :=
  PE.mo (pe_ifExp hc ha hb) fun σ H Q ⟨env, ρ, h, er, l, q⟩ => stepT er l q fun k ρ1 h1 H1 s1 l1 er1 q1 => by
    cases k with
    | true => exact ⟨env, ρ1, h1, er1, l1, q1⟩
    | false => exact ⟨env, ρ1, h1, er1, l1, q1⟩

/-! displays -/
theorem w_nil : PA X [] (tA X.K ct Wx fun _ h => .ok [] h) := PA.mo pa_nil fun σ H Q ⟨env, ρ, h, er, l, q⟩ => rd.fine q l [] (VRs.nil_iff.mpr rfl)
theorem w_cons (ha : PE X a (tE X.K ct Wx ma)) (hr : PA X es (tA X.K ct Wx mes)) (hs : starEach (a :: es) X.env = (false, eval a X.env) :: starEach es X.env) :
    PA X (a :: es) (tA X.K ct Wx fun env h => (ma env h).bind fun x h1 => (mes env h1).bind fun xs h2 => .ok (x :: xs) h2) :=
  PA.mo (pa_cons ha hr hs) fun σ H Q ⟨env, ρ, h, er, l, q⟩ => stepE er l q fun x ρ1 h1 H1 s1 l1 er1 q1 v qv => stepA er1 l1 q1 fun xs ρ2 h2 H2 s2 l2 er2 q2 vs qs =>
    rd.fine q2 l2 _ (VRs.cons_iff.mpr ⟨v, vs, rfl, qv.mv l1 s2, qs⟩)
def starK (m2 : Hw → R (List W)) (o : Option (List W)) (h1 : Hw) : R (List W) := match o with
  | some xs => (m2 h1).bind fun ys h2 => .ok (xs ++ ys) h2
  | none => .err
theorem w_star {p : Pos} (ha : PE X a (tE X.K ct Wx ma)) (hr : PA X es (tA X.K ct Wx mes)) : PA X (.Starred a p :: es) (tA X.K ct Wx fun env h => (ma env h).bind fun x h1 => starK (mes env) (seqOf h1 x) h1) :=
  PA.mo (StX.pa_star ha hr) fun σ H Q ⟨env, ρ, h, er, l, q⟩ => stepE er l q fun x ρ1 h1 H1 s1 l1 er1 q1 v qv => by
    cases e : seqOf h1 x with
    | none => rw [e] at q1; exact absurd q1 rderr
    | some xs =>
      rw [e] at q1
      obtain ⟨a, vs, rfl, sq, ra⟩ := seqOf_ok l1 e qv
      refine ⟨a, vs, rfl, sq.symm, stepA er1 l1 q1 fun ys ρ2 h2 H2 s2 l2 er2 q2 us qs => rd.fine q2 l2 _ ((ra.mv l1 s2).app qs)⟩
theorem w_tup {k : Nat} (hs : PA X es (tA X.K ct Wx mes)) : PE X (.Tuple es k pos) (tE X.K ct Wx fun env h => (mes env h).bind fun ws h1 => bif szOk ws.length then .ok (.tup ws) h1 else .err) :=
  PE.mo (pe_tupZ hs) fun σ H Q ⟨env, ρ, h, er, l, q⟩ => stepA er l q fun ws ρ1 h1 H1 s1 l1 er1 q1 vs qs => by
    obtain ⟨c, q1⟩ := rdif q1
    exact ⟨by rw [qs.length]; exact szOk_le c, newTW l1 qs q1⟩
theorem w_lst (hs : PA X es (tA X.K ct Wx mes)) : PE X (.List es pos) (tE X.K ct Wx fun env h => (mes env h).bind fun ws h1 => bif szOk ws.length then .ok (.ref h1.n) (h1.new (.lst ws)) else .err) :=
  PE.mo (pe_lst hs) fun σ H Q ⟨env, ρ, h, er, l, q⟩ => stepA er l q fun ws ρ1 h1 H1 s1 l1 er1 q1 vs qs => by
    obtain ⟨c, q1⟩ := rdif q1
    exact ⟨by rw [qs.length]; exact szOk_le c, newLW l1 qs q1⟩

/-! subscripts -/
theorem w_idx (hu : X.A.units + 65 < cLine) (ha : PE X a (tE X.K ct Wx ma)) (hb : PE X b (tE X.K ct Wx mb)) (hs : PlainIx b) : PE X (.Subscript a b pos) (tE X.K ct Wx fun env h => (ma env h).bind fun x h1 => (mb env h1).bind fun y h2 => idxOp x y h2) := by
  refine ⟨fun pins s σ H Q I ⟨env, ρ, h, er, l, q⟩ => (pe_ix (pos := pos) (ixR (ct := ct) (Wx := fun c d => Wx c d σ) hu) ha hb hs).run pins s σ H Q I ?_⟩
  exact stepE er l q fun x ρ1 h1 H1 s1 l1 er1 q1 v qv => stepE er1 l1 q1 fun y ρ2 h2 H2 s2 l2 er2 q2 u qu => ⟨ρ2, h2, x, y, l2, qv.mv l1 s2, qu, q2⟩
def intK {β : Type} (f : Option Int → Hw → R β) (x : W) (h : Hw) : R β := match x with
  | .int i => f (some i) h
  | _ => .err
def tOW (K : PySem.W.Frag) (ct : Nat → Option Value) (Wx : WX) (m : Env → Hw → R (Option Int)) : TO := fun σ H Q => ∃ env ρ h, ER K ρ H env σ ∧ Rel K ρ h H ∧ rd K ct (fun c d => Wx c d σ) ρ H (m env h) fun o _ _ H' => Q o H'
theorem PO.mo {o : Option Expr} {t t' : TO} (p : PO X o t) (f : ∀ σ H Q, t' σ H Q → t σ H Q) : PO X o t' := ⟨fun pins s σ H Q I q => p.run pins s σ H Q I (f σ H Q q)⟩
theorem w_none : PO X none (tOW X.K ct Wx fun _ h => .ok none h) := PO.mo po_none fun σ H Q ⟨env, ρ, h, er, l, q⟩ => rd.fine q l
theorem w_some (ha : PE X a (tE X.K ct Wx ma)) : PO X (some a) (tOW X.K ct Wx fun env h => (ma env h).bind fun x h1 => intK (fun o h => .ok o h) x h1) :=
  PO.mo (po_some ha) fun σ H Q ⟨env, ρ, h, er, l, q⟩ => stepE er l q fun x ρ1 h1 H1 s1 l1 er1 q1 v qv => by
    cases x with
    | int i => exact ⟨i, qv.nodep_int, rd.fine q1 l1⟩
    | _ => exact absurd q1 rderr
theorem w_slc {lo hi : Option Expr} {ml mh : Env → Hw → R (Option Int)} {p2 : Pos} (ha : PE X a (tE X.K ct Wx ma)) (hl : PO X lo (tOW X.K ct Wx ml)) (hh : PO X hi (tOW X.K ct Wx mh)) :
    PE X (.Subscript a (.Slice lo hi none p2) pos) (tE X.K ct Wx fun env h => (ma env h).bind fun x h1 => (ml env h1).bind fun l h2 => (mh env h2).bind fun u h3 => slcOp x l u h3) := by
  refine ⟨fun pins s σ H Q I ⟨env, ρ, h, er, l, q⟩ => (pe_slice (pos := pos) (p2 := p2) (slcR (ct := ct) (Wx := fun c d => Wx c d σ)) ha hl hh).run pins s σ H Q I ?_⟩
  refine stepE er l q fun x ρ1 h1 H1 s1 l1 er1 q1 v qv => ⟨env, ρ1, h1, er1, l1, (rd.bind q1).imp fun o ρ2 h2 H2 s2 l2 q2 => ⟨env, ρ2, h2, er1.mv l1 s2, l2, (rd.bind q2).imp fun u ρ3 h3 H3 s3 l3 q3 => ?_⟩⟩
  exact ⟨ρ3, h3, x, l3, (qv.mv l1 s2).mv l2 s3, q3⟩
theorem w_rev {k : Nat} {p1 p2 p3 : Pos} (ha : PE X a (tE X.K ct Wx ma)) : PE X (.Subscript a (.Slice none none (some (.UnaryOp .USub (.Constant (.int 1) k p1) p2)) p3) pos) (tE X.K ct Wx fun env h => (ma env h).bind fun x h1 => biOp .rev [x] h1) :=
  PE.mo (pe_revL ha) fun σ H Q ⟨env, ρ, h, er, l, q⟩ => stepE er l q fun x ρ1 h1 H1 s1 l1 er1 q1 v qv => by
    have rv : ∀ {ws : List W} {vs : List V}, VRs X.K ρ1 H1 ws vs → VRs X.K ρ1 H1 ws.reverse vs.reverse := fun {ws} => by
      induction ws with
      | nil => intro vs q; rw [VRs.nil_iff.mp q]; exact VRs.nil_iff.mpr rfl
      | cons w ws ih =>
        intro vs q
        obtain ⟨v, r, rfl, g1, g2⟩ := VRs.cons_iff.mp q
        rw [List.reverse_cons, List.reverse_cons]
        exact (ih g2).app (VRs.cons_iff.mpr ⟨v, [], rfl, g1, VRs.nil_iff.mpr rfl⟩)
    cases x with
    | frl ys =>
      obtain ⟨a, vs, rfl, ta, ra⟩ := qv.frl
      exact ⟨a, vs, rfl, ta.seq, newLW l1 (rv ra) q1⟩
    | ref n =>
      cases e : h1.get n with
      | none => simp only [biOp, e] at q1; exact absurd q1 rderr
      | some o =>
        cases o with
        | dct _ => simp only [biOp, e] at q1; exact absurd q1 rderr
        | lst ys =>
          simp only [biOp, e] at q1
          obtain ⟨a, vs, rfl, _, hb, ra⟩ := l1.lst e qv
          exact ⟨a, vs, rfl, SqL.of hb, newLW l1 (rv ra) q1⟩
    | _ => exact absurd q1 rderr

/-! built-in functions -/
theorem w_bi (hc : X.calm = true) (hu : X.A.units + 65 < cLine) (hgd : X.A.guards = some []) (bi : Bi) (hb : plainBi bi = true) {x : Str} {p : Pos} (hx : x = biName bi) (hg : Gl X x) (hm : X.mg x = none) (hs : PA X (a :: es) (tA X.K ct Wx mes))
    (he : starEach (a :: es) X.env = (false, eval a X.env) :: starEach es X.env) (hpl : (backTo pos (starEach es X.env)).any (·.1) = false) :
    PE X (.Call (.Name x p) (a :: es) [] pos) (tE X.K ct Wx fun env h => (mes env h).bind fun ws h1 => biOp bi ws h1) := by
  subst hx
  refine ⟨fun pins s σ H Q I ⟨env, ρ, h, er, l, q⟩ => ?_⟩
  have rule : CallR X (biVal bi) (m1C X.K ct (fun c d => Wx c d σ) bi) := biR hc hu hgd bi hb
  have rd' : (tCB (m1C X.K ct (fun c d => Wx c d σ) bi) (tA X.K ct Wx mes)) σ H Q := stepA er l q fun ws ρ1 h1 H1 s1 l1 er1 q1 vs qs => ⟨ρ1, h1, ws, l1, qs, q1⟩
  have bn := biNoName bi
  have bv := bootB bi
  generalize biName bi = nm at bn bv hg hm
  have go : (∃ id, biVal bi = .builtin id) ∨ ∃ T, biVal bi = .type T := by cases bi <;> first | exact .inl ⟨_, rfl⟩ | exact .inr ⟨_, rfl⟩
  rcases go with ⟨id, e⟩ | ⟨T, e⟩
  · rw [e] at bv rule
    exact (pe_callB rule hg hm bv hs bn.1 bn.2 he hpl).run pins s σ H Q I rd'
  · rw [e] at bv rule
    exact (pe_callTy rule hg hm bv hs bn.1 bn.2 he hpl).run pins s σ H Q I rd'
theorem bootTy (t : Nat) : bootBuiltins (Str.ofString (tyName t)) = some (.type (tyName t)) := by
  match t with
  | 0 => decide +kernel
  | 1 => decide +kernel
  | 2 => decide +kernel
  | 3 => decide +kernel
  | 4 => decide +kernel
  | _ + 5 => exact (by decide +kernel : bootBuiltins "dict" = some (.type "dict"))
theorem w_isi {t : Nat} (ht : t < 6) {p p2 : Pos} (hg : Gl X "isinstance") (hm : X.mg "isinstance" = none) {y : Str} (hy : y = Str.ofString (tyName t)) (hgy : Gl X y) (hmy : X.mg y = none) (hyn : y ≠ "__name__") (hyd : (y == ("__debug__" : Str)) = false)
    (ha : PE X a (tE X.K ct Wx ma)) (he : starEach [a, .Name y p2] X.env = (false, eval a X.env) :: starEach [.Name y p2] X.env) (he2 : starEach [.Name y p2] X.env = (false, eval (.Name y p2) X.env) :: starEach [] X.env)
    (hpl : (backTo pos (starEach [.Name y p2] X.env)).any (·.1) = false) :
    PE X (.Call (.Name "isinstance" p) [a, .Name y p2] [] pos) (tE X.K ct Wx fun env h => (ma env h).bind fun x h1 => biOp (.isinst t) [x] h1) :=
  PE.mo (pe_callB call_isi hg hm PyProof.Rows.boot_isinstance (pa_cons ha (pa_cons (pe_bltn hgy hmy (by rw [hy]; exact bootTy t) (v := .ty (tyName t)) rfl hyn hyd) pa_nil he2) he) (by decide) (by decide) he hpl) fun σ H Q ⟨env, ρ, h, er, l, q⟩ =>
    stepE er l q fun x ρ1 h1 H1 s1 l1 er1 q1 v qv => by
      cases e : isT t h1 x with
      | none => simp only [biOp, e] at q1; exact absurd q1 rderr
      | some b =>
        simp only [biOp, e] at q1
        obtain ⟨T, ty, kb⟩ := ty_W l1 ht qv e
        exact ⟨v, .ty (tyName t), .type T, .type (tyName t), b, rfl, .ty _, ty, kit_ty kb, rd.fine q1 l1 _ VR.mk_bl⟩
theorem rg_ok {K : PySem.W.Frag} {ρ : List Addr} {H : Hp} (lo hi : Int) : VRs K ρ H (rngs lo (hi - lo).toNat) (rgV lo hi) := by
  unfold rgV
  generalize (hi - lo).toNat = n
  induction n generalizing lo with
  | zero => exact VRs.nil_iff.mpr rfl
  | succ n ih =>
    unfold rngs
    rw [List.range_succ_eq_map, List.map_cons, List.map_map]
    refine VRs.cons_iff.mpr ⟨_, _, rfl, by rw [show lo + ((0 : Nat) : Int) = lo by simp]; exact VR.mk_int, ?_⟩
    have := ih (lo + 1)
    rw [show ((fun i : Nat => V.int (lo + (i : Nat))) ∘ Nat.succ) = fun i : Nat => V.int (lo + 1 + (i : Nat)) by
      funext i
      show V.int (lo + ((i + 1 : Nat) : Int)) = _
      congr 1
      omega]
    exact this
theorem w_lrng1 (hc : X.calm = true) {p p2 pos2 : Pos} (hg : Gl X "list") (hm : X.mg "list" = none) (hg2 : Gl X "range") (hm2 : X.mg "range" = none) (ha : PE X a (tE X.K ct Wx ma)) (na : starEach [a] X.env = (false, eval a X.env) :: starEach [] X.env)
    (na2 : starEach [.Call (.Name "range" p2) [a] [] pos2] X.env = (false, eval (.Call (.Name "range" p2) [a] [] pos2) X.env) :: starEach [] X.env) :
    PE X (.Call (.Name "list" p) [.Call (.Name "range" p2) [a] [] pos2] [] pos) (tE X.K ct Wx fun env h => (ma env h).bind fun x h1 => biOp .lrng1 [x] h1) :=
  PE.mo (pe_listRg hc hg hm (prg_1 hg2 hm2 ha na) na2) fun σ H Q ⟨env, ρ, h, er, l, q⟩ => stepE er l q fun x ρ1 h1 H1 s1 l1 er1 q1 v qv => by
    cases x with
    | int j =>
      simp only [biOp] at q1
      obtain ⟨c, q1⟩ := rdif q1
      obtain ⟨c1, c2⟩ := Bool.and_eq_true_iff.mp c
      have r1 := rngOk_b c1
      have r2 : j.toNat ≤ 16777216 := Nat.le_of_ble_eq_true c2
      refine ⟨j, qv.nodep_int, ⟨by omega, by omega, r1.1, r1.2, by omega⟩, newLW l1 ?_ q1⟩
      have := rg_ok (K := X.K) (ρ := ρ1) (H := H1) 0 j
      rw [show j - 0 = j by omega] at this
      exact this
    | _ => exact absurd q1 rderr
theorem w_lrng2 (hc : X.calm = true) {p p2 pos2 : Pos} (hg : Gl X "list") (hm : X.mg "list" = none) (hg2 : Gl X "range") (hm2 : X.mg "range" = none) (ha : PE X a (tE X.K ct Wx ma)) (hb : PE X b (tE X.K ct Wx mb))
    (na : starEach [a, b] X.env = (false, eval a X.env) :: starEach [b] X.env) (nb : starEach [b] X.env = (false, eval b X.env) :: starEach [] X.env) (hp : (backTo pos2 (starEach [b] X.env)).any (·.1) = false)
    (na2 : starEach [.Call (.Name "range" p2) [a, b] [] pos2] X.env = (false, eval (.Call (.Name "range" p2) [a, b] [] pos2) X.env) :: starEach [] X.env) :
    PE X (.Call (.Name "list" p) [.Call (.Name "range" p2) [a, b] [] pos2] [] pos) (tE X.K ct Wx fun env h => (ma env h).bind fun x h1 => (mb env h1).bind fun y h2 => biOp .lrng2 [x, y] h2) :=
  PE.mo (pe_listRg hc hg hm (prg_2 hg2 hm2 ha hb na nb hp) na2) fun σ H Q ⟨env, ρ, h, er, l, q⟩ => stepE er l q fun x ρ1 h1 H1 s1 l1 er1 q1 v qv => stepE er1 l1 q1 fun y ρ2 h2 H2 s2 l2 er2 q2 u qu => by
    cases x with
    | int i =>
      cases y with
      | int j =>
        simp only [biOp] at q2
        obtain ⟨c, q2⟩ := rdif q2
        simp only [Bool.and_eq_true] at c
        have r1 := rngOk_b c.1.1
        have r2 := rngOk_b c.1.2
        have r3 : (j - i).toNat ≤ 16777216 := Nat.le_of_ble_eq_true c.2
        exact ⟨i, j, qv.nodep_int, qu.nodep_int, ⟨r1.1, r1.2, r2.1, r2.2, by omega⟩, newLW l2 (rg_ok i j) q2⟩
      | _ => exact absurd q2 rderr
    | _ => exact absurd q2 rderr

/-! methods -/
theorem w_me (hu : X.A.units + 65 < cLine) (m : Me) {o : Expr} {mo : Env → Hw → R W} {apos cpos : Pos} (ho : PE X o (tE X.K ct Wx mo)) (ha : PA X (a :: es) (tA X.K ct Wx mes)) (hbase : attributeBase o (meName m) X.env (eval o X.env) = eval o X.env)
    (hfew : (backTo cpos (starEach (a :: es) X.env)).all (fun x => !x.1) = true) (hlen : es.length < 28) (hline : (apos.endLine == cpos.line) = true)
    (hst : starEach (a :: es) X.env = (false, eval a X.env) :: starEach es X.env) (hplain : (backTo cpos (starEach es X.env)).any (·.1) = false) :
    PE X (.Call (.Attribute o (meName m) apos) (a :: es) [] cpos) (tE X.K ct Wx fun env h => (mo env h).bind fun x h1 => bif recvOk m x h1 then (mes env h1).bind fun ws h2 => meOp m x ws h2 else .err) := by
  refine ⟨fun pins s σ H Q I ⟨env, ρ, h, er, l, q⟩ => (pe_mz (spM ct (fun c d => Wx c d σ) hu m) ho ha hbase hfew hlen hline hst hplain).run pins s σ H Q I ?_⟩
  refine stepE er l q fun x ρ1 h1 H1 s1 l1 er1 q1 v qv => ?_
  obtain ⟨c, q1⟩ := rdif q1
  obtain ⟨k1, k2⟩ := recv_ok (ct := ct) (Wx := fun c d => Wx c d σ) hu l1 qv c
  refine ⟨kindW x, k1, stepA er1 l1 q1 fun ws ρ2 h2 H2 s2 l2 er2 q2 vs qs => ?_⟩
  rw [k2]
  exact ⟨ρ2, h2, x, ws, l2, qv.mv l1 s2, qs, rfl, q2⟩
theorem w_me0 (hu : X.A.units + 65 < cLine) (m : Me) {o : Expr} {mo : Env → Hw → R W} {apos cpos : Pos} (ho : PE X o (tE X.K ct Wx mo)) (hbase : attributeBase o (meName m) X.env (eval o X.env) = eval o X.env) (hline : (apos.endLine == cpos.line) = true) :
    PE X (.Call (.Attribute o (meName m) apos) [] [] cpos) (tE X.K ct Wx fun env h => (mo env h).bind fun x h1 => bif recvOk m x h1 then meOp m x [] h1 else .err) := by
  refine ⟨fun pins s σ H Q I ⟨env, ρ, h, er, l, q⟩ => (pe_mz0 (spM ct (fun c d => Wx c d σ) hu m) ho hbase hline).run pins s σ H Q I ?_⟩
  refine stepE er l q fun x ρ1 h1 H1 s1 l1 er1 q1 v qv => ?_
  obtain ⟨c, q1⟩ := rdif q1
  obtain ⟨k1, k2⟩ := recv_ok (ct := ct) (Wx := fun c d => Wx c d σ) hu l1 qv c
  refine ⟨kindW x, k1, ?_⟩
  rw [k2]
  exact ⟨ρ1, h1, x, [], l1, qv, VRs.nil_iff.mpr rfl, rfl, q1⟩
end
end TL
/-! Targets, statements, loops, comprehensions: the rules, by the machine. -/
namespace TL
open PySem PySem.Spec PyProof.Rows L2
/-! ### targets -/
mutual
def Tg.ix : Tg → List Nat
  | .nm i => [i]
  | .tp ts => Tg.ixs ts
def Tg.ixs : List Tg → List Nat
  | [] => []
  | t :: ts => t.ix ++ Tg.ixs ts
end
theorem wipe_at : ∀ (vs : List Nat) (σ : L2.St) (j : Nat), (wipe σ vs)[j]? = if j ∈ vs then (if j < σ.length then some none else none) else σ[j]?
  | [], σ, j => by simp [wipe]
  | v :: vs, σ, j => by
    unfold wipe
    by_cases e : v = j
    · subst e
      rw [if_pos List.mem_cons_self]
      by_cases hl : v < σ.length
      · rw [if_pos hl, List.getElem?_set_self (by rw [wipe_length]; exact hl)]
      · rw [if_neg hl, List.getElem?_eq_none (by rw [List.length_set, wipe_length]; omega)]
    · rw [List.getElem?_set_ne e, wipe_at vs σ j]
      by_cases m : j ∈ vs
      · rw [if_pos m, if_pos (List.mem_cons_of_mem _ m)]
      · rw [if_neg m, if_neg (fun z => (List.mem_cons.mp z).elim (fun q => e q.symm) m)]
theorem wipe_set (vs : List Nat) (σ : L2.St) (i : Nat) (x : Option V) (m : i ∈ vs) : wipe (σ.set i x) vs = wipe σ vs := by
  apply List.ext_getElem?
  intro j
  rw [wipe_at, wipe_at, List.length_set]
  by_cases mj : j ∈ vs
  · rw [if_pos mj, if_pos mj]
  · rw [if_neg mj, if_neg mj, List.getElem?_set_ne (show i ≠ j from fun e => mj (by rw [← e]; exact m))]
theorem wipe_wipe (vs : List Nat) (σ : L2.St) : wipe (wipe σ vs) vs = wipe σ vs := by
  apply List.ext_getElem?
  intro j
  rw [wipe_at, wipe_length]
  by_cases mj : j ∈ vs
  · rw [if_pos mj, wipe_at, if_pos mj]
  · rw [if_neg mj]
/-- only these slots were stored at -/
def Keep (ix : List Nat) (σ σ' : L2.St) : Prop := ∀ vs, (∀ i ∈ ix, i ∈ vs) → wipe σ' vs = wipe σ vs
def tG (K : PySem.W.Frag) (tg : Tg) : TG := fun v σ H Q => ∃ env ρ h w s', ER K ρ H env σ ∧ Rel K ρ h H ∧ VR K ρ H w v ∧ asg tg w env h = some s' ∧ ∀ σ', ER K ρ H s' σ' → Keep tg.ix σ σ' → Q σ' H
def tGs (K : PySem.W.Frag) (tgs : List Tg) : TGs := fun vs σ H Q => ∃ env ρ h ws s', ER K ρ H env σ ∧ Rel K ρ h H ∧ VRs K ρ H ws vs ∧ asgs tgs ws env h = some s' ∧ ∀ σ', ER K ρ H s' σ' → Keep (Tg.ixs tgs) σ σ' → Q σ' H
section
variable {X : Cx} {pos : Pos}
theorem PG.mo {e : Expr} {t t' : TG} (p : PG X e t) (f : ∀ v σ H Q, t' v σ H Q → t v σ H Q) : PG X e t' := ⟨fun pins s σ H v u Q I r q => p.run pins s σ H v u Q I r (f v σ H Q q)⟩
theorem PGs.mo {e : List Expr} {t t' : TGs} (p : PGs X e t) (f : ∀ v σ H Q, t' v σ H Q → t v σ H Q) : PGs X e t' := ⟨fun pins s σ H v u Q I r q => p.run pins s σ H v u Q I r (f v σ H Q q)⟩
theorem PG.or {e : Expr} {t t' : TG} (p : PG X e t) (p' : PG X e t') : PG X e (fun v σ H Q => t v σ H Q ∨ t' v σ H Q) := ⟨fun pins s σ H v u Q I r q => q.elim (p.run pins s σ H v u Q I r) (p'.run pins s σ H v u Q I r)⟩
theorem g_nm {i : Nat} {x : Str} (hN : X.N.Nodup) (hi : X.N[i]? = some x) (hx : Loc X.env.scope x) (hf : X.fn x = true ∨ X.env.scope.names.lookup x = some .local) : PG X (.Name x pos) (tG X.K (.nm i)) :=
  PG.mo (pg_name hN hi hx hf) fun v σ H Q ⟨env, ρ, h, w, s', er, l, qv, e, q⟩ => by
    simp only [asg] at e
    cases e
    exact q _ (er.set i qv) fun vs hv => wipe_set vs σ i _ (hv i (by simp [Tg.ix]))
theorem g_nil : PGs X [] (tGs X.K []) :=
  PGs.mo pgs_nil fun vs σ H Q ⟨env, ρ, h, ws, s', er, l, qv, e, q⟩ => by
    cases ws with
    | nil =>
      simp only [asgs] at e
      cases e
      exact ⟨VRs.nil_iff.mp qv, q _ er fun _ _ => rfl⟩
    | cons _ _ => simp only [asgs] at e; cases e
theorem g_cons {a : Expr} {es : List Expr} {t : Tg} {ts : List Tg} (h1 : PG X a (tG X.K t)) (h2 : PGs X es (tGs X.K ts)) (hs : (assignEach (a :: es) X.env).map (·.2) = assign a X.env :: (assignEach es X.env).map (·.2)) : PGs X (a :: es) (tGs X.K (t :: ts)) :=
  PGs.mo (pgs_cons h1 h2 hs) fun vs σ H Q ⟨env, ρ, h, ws, s', er, l, qv, e, q⟩ => by
    cases ws with
    | nil => simp only [asgs] at e; cases e
    | cons w ws =>
      obtain ⟨v, r, rfl, q1, q2⟩ := VRs.cons_iff.mp qv
      simp only [asgs] at e
      cases e1 : asg t w env h with
      | none => rw [e1] at e; cases e
      | some s1 =>
        rw [e1] at e
        exact ⟨v, r, rfl, env, ρ, h, w, s1, er, l, q1, e1, fun σ1 er1 k1 => ⟨s1, ρ, h, ws, s', er1, l, q2, e, fun σ2 er2 k2 => q σ2 er2 fun vs hv => (k2 vs fun i m => hv i (by simp only [Tg.ixs]; exact List.mem_append_right _ m)).trans (k1 vs fun i m => hv i (by simp only [Tg.ixs]; exact List.mem_append_left _ m))⟩⟩
theorem g_tp {es : List Expr} {k n : Nat} {ts : List Tg} (hc : X.calm = true) (h : PGs X es (tGs X.K ts)) (hn : (assignEach es X.env).length = n) (hl : ts.length = n) (hst : (assignEach es X.env).findIdx? (·.1) = none) : PG X (.Tuple es k pos) (tG X.K (.tp ts)) := by
  have len : ∀ (ts : List Tg) (ws : List W) (s s' : Env) (h : Hw), asgs ts ws s h = some s' → ws.length = ts.length := fun ts => by
    induction ts with
    | nil => intro ws s s' h e; cases ws with
      | nil => rfl
      | cons _ _ => simp only [asgs] at e; cases e
    | cons t ts ih => intro ws s s' h e; cases ws with
      | nil => simp only [asgs] at e; cases e
      | cons w ws =>
        simp only [asgs] at e
        cases e1 : asg t w s h with
        | none => rw [e1] at e; cases e
        | some s1 => rw [e1] at e; rw [List.length_cons, List.length_cons, ih ws s1 s' h e]
  refine PG.mo (PG.or (pg_tup (k := k) (pos := pos) hc h hn hst) (pg_unl (k := k) (pos := pos) hc h hn hst)) fun v σ H Q ⟨env, ρ, h, w, s', er, l, qv, e, q⟩ => ?_
  cases w with
  | tup ws =>
    obtain ⟨a, vs, rfl, ta, ra⟩ := qv.tup
    simp only [asg] at e
    exact .inl ⟨a, vs, rfl, ta.sq, by rw [ra.length, len _ _ _ _ _ e, hl], env, ρ, h, ws, s', er, l, ra, e, fun σ' er' k => q σ' er' (by simpa only [Tg.ix] using k)⟩
  | ref n =>
    cases e1 : h.get n with
    | none => simp only [asg, e1] at e; cases e
    | some o =>
      cases o with
      | dct _ => simp only [asg, e1] at e; cases e
      | lst ws =>
        simp only [asg, e1] at e
        obtain ⟨a, vs, rfl, _, ha, ra⟩ := l.lst e1 qv
        exact .inr ⟨a, vs, rfl, SqL.of ha, by rw [ra.length, len _ _ _ _ _ e, hl], env, ρ, h, ws, s', er, l, ra, e, fun σ' er' k => q σ' er' (by simpa only [Tg.ix] using k)⟩
  | _ => simp only [asg] at e; cases e
end

/-! ### statements -/
/-- what is wanted behind a statement, by the machine's end -/
def DP (K : PySem.W.Frag) (D : Ends) : Env × Fl → List Addr → Hw → Hp → Prop := fun p ρ' _ H' => ∀ σ', ER K ρ' H' p.1 σ' → match p.2 with
  | .nx => D.nx σ' H'
  | .rt w => ∀ v, VR K ρ' H' w v → D.rt v H'
  | .bk => D.bk σ' H'
  | .ct => D.ct σ' H'
def tS (K : PySem.W.Frag) (ct : Nat → Option Value) (Wx : XK) (m : Env → Hw → R (Env × Fl)) : TS := fun D σ H => ∃ env ρ h, ER K ρ H env σ ∧ Rel K ρ h H ∧ rd K ct Wx ρ H (m env h) (DP K D)
def flK (m2 : Env → Hw → R (Env × Fl)) (p : Env × Fl) (h1 : Hw) : R (Env × Fl) := match p.2 with
  | .nx => m2 p.1 h1
  | _ => .ok p h1
section
variable {X : Cx} {ct : Nat → Option Value} {Wx : XK} {pos : Pos} {st : Stmt} {rest : List Stmt} {m1 m2 : Env → Hw → R (Env × Fl)} {a b c : Expr} {ma mb mc : Env → Hw → R W} {tc : Env → Hw → R Bool}
/-- the same wish at all slots -/
abbrev wx (Wx : XK) : WX := fun c d _ H => Wx c d H
theorem s_nil : PSs X [] (tS X.K ct Wx fun env h => .ok (env, .nx) h) := PSs.mo pss_nil fun D σ H ⟨env, ρ, h, er, l, q⟩ => rd.fine q l σ er
theorem s_cons (h1 : PS X st (tS X.K ct Wx m1)) (h2 : PSs X rest (tS X.K ct Wx m2)) : PSs X (st :: rest) (tS X.K ct Wx fun env h => (m1 env h).bind fun p h1 => flK m2 p h1) :=
  PSs.mo (pss_cons h1 h2) fun D σ H ⟨env, ρ, h, er, l, q⟩ => ⟨env, ρ, h, er, l, (rd.bind q).imp fun p ρ1 h1 H1 s1 l1 q1 => by
    obtain ⟨env1, f⟩ := p
    intro σ1 er1
    cases f with
    | nx => exact ⟨env1, ρ1, h1, er1, l1, q1⟩
    | rt w => exact rd.fine q1 l1 σ1 er1
    | bk => exact rd.fine q1 l1 σ1 er1
    | ct => exact rd.fine q1 l1 σ1 er1⟩
theorem s_pass : PS X (.Pass pos) (tS X.K ct Wx fun env h => .ok (env, .nx) h) := PS.mo ps_pass fun D σ H ⟨env, ρ, h, er, l, q⟩ => rd.fine q l σ er
theorem s_brk : PS X (.Break pos) (tS X.K ct Wx fun env h => .ok (env, .bk) h) := PS.mo ps_break fun D σ H ⟨env, ρ, h, er, l, q⟩ => rd.fine q l σ er
theorem s_cont : PS X (.Continue pos) (tS X.K ct Wx fun env h => .ok (env, .ct) h) := PS.mo ps_continue fun D σ H ⟨env, ρ, h, er, l, q⟩ => rd.fine q l σ er
theorem s_retN : PS X (.Return none pos) (tS X.K ct Wx fun env h => .ok (env, .rt .non) h) := PS.mo ps_retN fun D σ H ⟨env, ρ, h, er, l, q⟩ => rd.fine q l σ er .non VR.mk_non
theorem s_ret (ha : PE X a (tE X.K ct (wx Wx) ma)) : PS X (.Return (some a) pos) (tS X.K ct Wx fun env h => (ma env h).bind fun w h1 => .ok (env, .rt w) h1) :=
  PS.mo (ps_ret ha) fun D σ H ⟨env, ρ, h, er, l, q⟩ => stepE (Wx := wx Wx) er l q fun w ρ1 h1 H1 s1 l1 er1 q1 v qv => rd.fine q1 l1 σ er1 v qv
theorem s_ex (ha : PE X a (tE X.K ct (wx Wx) ma)) (hs : swapsWith a none pos.line X.env = pure false) : PS X (.Expr a pos) (tS X.K ct Wx fun env h => (ma env h).bind fun _ h1 => .ok (env, .nx) h1) :=
  PS.mo (ps_expr ha hs) fun D σ H ⟨env, ρ, h, er, l, q⟩ => stepE (Wx := wx Wx) er l q fun w ρ1 h1 H1 s1 l1 er1 q1 v qv => rd.fine q1 l1 σ er1
theorem s_set {i : Nat} {x : Str} {px : Pos} (hN : X.N.Nodup) (hi : X.N[i]? = some x) (hx : Loc X.env.scope x) (ha : PE X a (tE X.K ct (wx Wx) ma)) (hs : swapsWith a (some (.Name x px)) pos.line X.env = pure false) (hf : X.fn x = true ∨ X.env.scope.names.lookup x = some .local) :
    PS X (.Assign [.Name x px] a pos) (tS X.K ct Wx fun env h => (ma env h).bind fun w h1 => .ok (env.set i (some w), .nx) h1) :=
  PS.mo (ps_set hN hi hx ha hs hf) fun D σ H ⟨env, ρ, h, er, l, q⟩ => stepE (Wx := wx Wx) er l q fun w ρ1 h1 H1 s1 l1 er1 q1 v qv => rd.fine q1 l1 _ (er1.set i qv)
def asgK (tg : Tg) (env : Env) (w : W) (h : Hw) : R (Env × Fl) := match asg tg w env h with
  | some s' => .ok (s', .nx) h
  | none => .err
theorem s_setT {tg : Expr} {t : Tg} (ha : PE X a (tE X.K ct (wx Wx) ma)) (hg : PG X tg (tG X.K t)) (hs : swapsWithSole [tg] a pos.line X.env = pure false) (hw : swappedStores [tg] a X.env = pure none) (h1 : (assignEach [tg] X.env).map (·.2) = [assign tg X.env]) :
    PS X (.Assign [tg] a pos) (tS X.K ct Wx fun env h => (ma env h).bind fun w h1 => asgK t env w h1) :=
  PS.mo (ps_asg ha hg hs hw h1) fun D σ H ⟨env, ρ, h, er, l, q⟩ => stepE (Wx := wx Wx) er l q fun w ρ1 h1 H1 s1 l1 er1 q1 v qv => by
    cases e : asg t w env h1 with
    | none => simp only [asgK, e] at q1; exact absurd q1 rderr
    | some s' =>
      simp only [asgK, e] at q1
      exact ⟨env, ρ1, h1, w, s', er1, l1, qv, e, fun σ' er' _ => rd.fine q1 l1 σ' er'⟩
theorem s_par {i j : Nat} {x y : Str} {mes : Env → Hw → R (List W)} {px py pt : Pos} {kt k2 : Nat} {pt2 : Pos} (hc : X.calm = true) (hN : X.N.Nodup) (hi : X.N[i]? = some x) (hj : X.N[j]? = some y) (hij : i ≠ j)
    (hx : X.env.scope.names.lookup x = some .local) (hy : X.env.scope.names.lookup y = some .local) (ha : PA X [a, b] (tA X.K ct (wx Wx) mes))
    (hw : swappedStores [.Tuple [.Name x px, .Name y py] kt pt] (.Tuple [a, b] k2 pt2) X.env = pure (some [x, y])) (hs : swapsWithSole [.Tuple [.Name x px, .Name y py] kt pt] (.Tuple [a, b] k2 pt2) pos.line X.env = pure false) :
    PS X (.Assign [.Tuple [.Name x px, .Name y py] kt pt] (.Tuple [a, b] k2 pt2) pos) (tS X.K ct Wx fun env h => ((mes env h).bind fun ws h1 => bif szOk ws.length then .ok (.tup ws) h1 else .err).bind fun w h1 => asgK (.tp [.nm i, .nm j]) env w h1) :=
  PS.mo (ps_par (pos := pos) hc hN hi hj hij hx hy ha hw hs) fun D σ H ⟨env, ρ, h, er, l, q⟩ => by
    refine stepA (Wx := wx Wx) (f := fun ws h1 => (bif szOk ws.length then (.ok (.tup ws) h1 : R W) else .err).bind fun w h1 => asgK (.tp [.nm i, .nm j]) env w h1) (P := DP X.K D) er l ?_ fun ws ρ1 h1 H1 s1 l1 er1 q1 vs qs => ?_
    · have : ((mes env h).bind fun ws h1 => (bif szOk ws.length then (.ok (.tup ws) h1 : R W) else .err)).bind (fun w h1 => asgK (.tp [.nm i, .nm j]) env w h1) = (mes env h).bind fun ws h1 => (bif szOk ws.length then (.ok (.tup ws) h1 : R W) else .err).bind fun w h1 => asgK (.tp [.nm i, .nm j]) env w h1 := by
        cases mes env h <;> rfl
      rw [← this]
      exact q
    · cases c : szOk ws.length with
      | false => rw [c] at q1; exact absurd q1 rderr
      | true =>
        rw [c] at q1
        have q1 : rd X.K ct Wx ρ1 H1 (asgK (.tp [.nm i, .nm j]) env (.tup ws) h1) (DP X.K D) := q1
        match ws, qs, q1 with
        | [w1, w2], qs, q1 =>
          obtain ⟨v, u, rfl, g1, g2⟩ := qs.two
          simp only [asgK, asg, asgs] at q1
          exact ⟨v, u, rfl, rd.fine q1 l1 _ ((er1.set i g1).set j g2)⟩
        | [], _, q1 => simp only [asgK, asg, asgs] at q1; exact absurd q1 rderr
        | [_], _, q1 => simp only [asgK, asg, asgs] at q1; exact absurd q1 rderr
        | _ :: _ :: _ :: _, _, q1 => simp only [asgK, asg, asgs] at q1; exact absurd q1 rderr
def setK (env : Env) (o : Option Hw) : R (Env × Fl) := match o with
  | some h => .ok (env, .nx) h
  | none => .err
theorem s_setI {p1 : Pos} (hu : X.A.units + 65 < cLine) (ha : PE X a (tE X.K ct (wx Wx) ma)) (hb : PE X b (tE X.K ct (wx Wx) mb)) (hc : PE X c (tE X.K ct (wx Wx) mc))
    (has : ∀ v, assign (.Subscript a b p1) X.env v = (do
      let ov ← holding [v] (eval a X.env)
      let iv ← holding [v, ov] (eval b X.env)
      standAt p1
      holding [v, ov, iv] (setItem ov iv v)
      release [v, ov, iv] []))
    (hs : swapsWithSole [.Subscript a b p1] c pos.line X.env = pure false) (hw : swappedStores [.Subscript a b p1] c X.env = pure none) (h1 : (assignEach [.Subscript a b p1] X.env).map (·.2) = [assign (.Subscript a b p1) X.env]) :
    PS X (.Assign [.Subscript a b p1] c pos) (tS X.K ct Wx fun env h => (mc env h).bind fun v h1 => (ma env h1).bind fun x h2 => (mb env h2).bind fun y h3 => setK env (setOp x y v h3)) :=
  PS.mo (ps_asg hc (pg_sub ha hb (setR hu) has) hs hw h1) fun D σ H ⟨env, ρ, h, er, l, q⟩ =>
    stepE (Wx := wx Wx) er l q fun w ρ1 h1 H1 s1 l1 er1 q1 v qv => stepE (Wx := wx Wx) er1 l1 q1 fun x ρ2 h2 H2 s2 l2 er2 q2 u qu => stepE (Wx := wx Wx) er2 l2 q2 fun y ρ3 h3 H3 s3 l3 er3 q3 t qt => by
      cases e : setOp x y w h3 with
      | none => simp only [setK, e] at q3; exact absurd q3 rderr
      | some h4 =>
        simp only [setK, e] at q3
        exact ⟨ρ3, h3, x, y, w, h4, l3, qu.mv l2 s3, qt, (qv.mv l1 s2).mv l2 s3, e, fun H' s' l' => q3 ρ3 H' s' l' σ (er3.mv l3 s')⟩
theorem augOp_ok {K : PySem.W.Frag} {o : Bop} {x y : W} {ρ : List Addr} {H : Hp} {h : Hw} {P : W → List Addr → Hw → Hp → Prop} (q : rd K ct Wx ρ H (augOp o x y h) P) :
    ∃ i j, x = .int i ∧ y = .int j ∧ rd K ct Wx ρ H (binOp o (.int i) (.int j) h) P ∧ ((o = .fdiv ∨ o = .mod) → 0 < j) := by
  cases x with
  | int i =>
    cases y with
    | int j =>
      refine ⟨i, j, rfl, rfl, ?_⟩
      cases o with
      | add => exact ⟨q, fun z => z.elim (fun e => nomatch e) (fun e => nomatch e)⟩
      | sub => exact ⟨q, fun z => z.elim (fun e => nomatch e) (fun e => nomatch e)⟩
      | mul => exact ⟨q, fun z => z.elim (fun e => nomatch e) (fun e => nomatch e)⟩
      | fdiv => obtain ⟨c, q⟩ := rdif q; exact ⟨q, fun _ => of_decide_eq_true c⟩
      | mod => obtain ⟨c, q⟩ := rdif q; exact ⟨q, fun _ => of_decide_eq_true c⟩
    | _ => cases o <;> exact absurd q rderr
  | _ => cases o <;> exact absurd q rderr
theorem iopR (o : Bop) : PIp X (bopOf o) (TL.m2 X.K ct Wx (augOp o)) := by
  intro pins s σ H x y v u Q I rx ry q
  obtain ⟨ρ, h, wx, wy, l, qx, qy, q⟩ := q
  obtain ⟨i, j, rfl, rfl, q, pos⟩ := augOp_ok q
  rw [qx.nodep_int] at rx
  rw [qy.nodep_int] at ry
  cases o with
  | add => exact iop_add pins s σ H _ _ v u Q I rx ry ⟨i, j, rfl, rfl, rd.fine q l _ VR.mk_int⟩
  | sub => exact iop_sub pins s σ H _ _ v u Q I rx ry ⟨i, j, rfl, rfl, rd.fine q l _ VR.mk_int⟩
  | mul =>
    obtain ⟨c, q⟩ := rdif q
    refine iop_mul pins s σ H _ _ v u Q I rx ry ⟨i, j, rfl, rfl, ?_, rd.fine q l _ VR.mk_int⟩
    rcases (Bool.or_eq_true_iff.mp c) with c | c
    · exact .inl (smallOk c)
    · exact .inr (smallOk c)
  | fdiv =>
    have hj := pos (.inl rfl)
    obtain ⟨c, q⟩ := rdnif q
    obtain ⟨c1, c2⟩ := Bool.or_eq_false_iff.mp c
    have c2 := Nat.lt_of_not_le fun z => Bool.false_ne_true (c2.symm.trans (Nat.ble_eq_true_of_le z))
    refine iop_fdiv pins s σ H _ _ v u Q I rx ry ⟨i, j, rfl, rfl, ⟨hj, by omega⟩, ?_⟩
    have := rd.fine q l _ VR.mk_int
    rw [Int.fdiv_eq_ediv_of_nonneg _ (Int.le_of_lt hj)] at this
    exact this
  | mod =>
    have hj := pos (.inr rfl)
    obtain ⟨c, q⟩ := rdnif q
    refine iop_mod pins s σ H _ _ v u Q I rx ry ⟨i, j, rfl, rfl, hj, ?_⟩
    have := rd.fine q l _ VR.mk_int
    rw [Int.fmod_eq_emod_of_nonneg _ (Int.le_of_lt hj)] at this
    exact this
def augK (o : Bop) (i : Nat) (m : Env → Hw → R W) (env : Env) (h : Hw) : R (Env × Fl) := match env[i]? with
  | some (some x) => (m env h).bind fun y h1 => (augOp o x y h1).bind fun z h2 => .ok (env.set i (some z), .nx) h2
  | _ => .err
theorem s_aug {i : Nat} {x : Str} {px : Pos} (o : Bop) (hN : X.N.Nodup) (hi : X.N[i]? = some x) (hx : Loc X.env.scope x) (ha : PE X a (tE X.K ct (wx Wx) ma)) (hf : X.fn x = true ∨ X.env.scope.names.lookup x = some .local) :
    PS X (.AugAssign (.Name x px) (bopOf o) a pos) (tS X.K ct Wx (augK o i ma)) :=
  PS.mo (ps_aug hN hi hx ha (iopR (ct := ct) (Wx := Wx) o) hf) fun D σ H ⟨env, ρ, h, er, l, q⟩ => by
    cases e : env[i]? with
    | none => simp only [augK, e] at q; exact absurd q rderr
    | some ow =>
      cases ow with
      | none => simp only [augK, e] at q; exact absurd q rderr
      | some w =>
        simp only [augK, e] at q
        obtain ⟨v, ev, qv⟩ := er.get i w e
        refine ⟨v, ev, stepE (Wx := wx Wx) er l q fun y ρ1 h1 H1 s1 l1 er1 q1 u qu => ⟨ρ1, h1, w, y, l1, qv.mv l s1, qu, (rd.bind q1).imp fun z ρ2 h2 H2 s2 l2 q2 t qt => ?_⟩⟩
        exact rd.fine q2 l2 _ ((er1.mv l1 s2).set i qt)
theorem s_augI {p1 : Pos} (o : Bop) (hu : X.A.units + 65 < cLine) (ha : PE X a (tE X.K ct (wx Wx) ma)) (hb : PE X b (tE X.K ct (wx Wx) mb)) (hc : PE X c (tE X.K ct (wx Wx) mc))
    (has : ∀ ov iv new, augStore b ov iv new = (do holding [new, ov, iv] (setItem ov iv new); release [new, ov, iv] []; pure .next)) :
    PS X (.AugAssign (.Subscript a b p1) (bopOf o) c pos) (tS X.K ct Wx fun env h => (ma env h).bind fun x h1 => (mb env h1).bind fun y h2 => (idxOp x y h2).bind fun z h3 => (mc env h3).bind fun v h4 => (augOp o z v h4).bind fun r h5 => setK env (setOp x y r h5)) :=
  PS.mo (ps_augS (pos := pos) ha hb (getR (ct := ct) (Wx := Wx) hu) hc (iopR (ct := ct) (Wx := Wx) o) (setR hu) has) fun D σ H ⟨env, ρ, h, er, l, q⟩ =>
    stepE (Wx := wx Wx) er l q fun x ρ1 h1 H1 s1 l1 er1 q1 v qv => stepE (Wx := wx Wx) er1 l1 q1 fun y ρ2 h2 H2 s2 l2 er2 q2 u qu =>
      ⟨ρ2, h2, x, y, l2, qv.mv l1 s2, qu, (rd.bind q2).imp fun z ρ3 h3 H3 s3 l3 q3 t qt => stepE (Wx := wx Wx) (er2.mv l2 s3) l3 q3 fun e ρ4 h4 H4 s4 l4 er4 q4 f qf =>
        ⟨ρ4, h4, z, e, l4, qt.mv l3 s4, qf, (rd.bind q4).imp fun r ρ5 h5 H5 s5 l5 q5 g qg => by
          cases e : setOp x y r h5 with
          | none => simp only [setK, e] at q5; exact absurd q5 rderr
          | some h6 =>
            simp only [setK, e] at q5
            exact ⟨ρ5, h5, x, y, r, h6, l5, ((((qv.mv l1 s2).mv l2 s3).mv l3 s4).mv l4 s5), (((qu.mv l2 s3).mv l3 s4).mv l4 s5), qg, e, fun H' s' l' => q5 ρ5 H' s' l' σ ((er4.mv l4 s5).mv l5 s')⟩⟩⟩
theorem s_if {t u : List Stmt} (hc : PT X c (tT X.K ct (wx Wx) tc)) (ha : PSs X t (tS X.K ct Wx m1)) (hb : PSs X u (tS X.K ct Wx m2)) :
    PS X (.If c t u pos) (tS X.K ct Wx fun env h => (tc env h).bind fun k h1 => bif k then m1 env h1 else m2 env h1) :=
  PS.mo (ps_if hc ha hb) fun D σ H ⟨env, ρ, h, er, l, q⟩ => stepT (Wx := wx Wx) er l q fun k ρ1 h1 H1 s1 l1 er1 q1 => by
    cases k with
    | true => exact ⟨env, ρ1, h1, er1, l1, q1⟩
    | false => exact ⟨env, ρ1, h1, er1, l1, q1⟩
theorem s_whl {body : List Stmt} (wf : Nat) (hp : PassesOwn (model X.prog X.w) X.A X.env X.xe) (hc : PT X c (tT X.K ct (wx Wx) tc)) (hb : PSs X body (tS X.K ct Wx m1)) : PS X (.While c body [] pos) (tS X.K ct Wx (whlS tc m1 wf)) :=
  PS.mo (ps_while hp hc hb) fun D σ H ⟨env, ρ, h, er, l, q⟩ => by
    refine ⟨fun n σ H => ∃ env ρ h, ER X.K ρ H env σ ∧ Rel X.K ρ h H ∧ rd X.K ct Wx ρ H (whlS tc m1 n env h) (DP X.K D), ⟨wf, env, ρ, h, er, l, q⟩, ?_⟩
    rintro n σ H ⟨env, ρ, h, er, l, q⟩
    cases n with
    | zero => exact absurd q rderr
    | succ n =>
      refine stepT (Wx := wx Wx) (f := fun b h1 => bif b then (m1 env h1).bind fun p h2 => (match p.2 with
        | .nx => whlS tc m1 n p.1 h2
        | .ct => whlS tc m1 n p.1 h2
        | .bk => .ok (p.1, .nx) h2
        | .rt w => .ok (p.1, .rt w) h2) else .ok (env, .nx) h1) er l q fun k ρ1 h1 H1 s1 l1 er1 q1 => ?_
      cases k with
      | false => exact rd.fine q1 l1 σ er1
      | true =>
        refine ⟨fun σ' H' => ∃ env ρ h, ER X.K ρ H' env σ' ∧ Rel X.K ρ h H' ∧ rd X.K ct Wx ρ H' (whlS tc m1 n env h) (DP X.K D), fun σ' H' z => ⟨n, Nat.lt_succ_self n, z⟩, env, ρ1, h1, er1, l1, (rd.bind q1).imp fun p ρ2 h2 H2 s2 l2 q2 => ?_⟩
        obtain ⟨env2, f⟩ := p
        intro σ2 er2
        cases f with
        | nx => exact ⟨env2, ρ2, h2, er2, l2, q2⟩
        | ct => exact ⟨env2, ρ2, h2, er2, l2, q2⟩
        | bk => exact rd.fine q2 l2 σ2 er2
        | rt w => exact rd.fine q2 l2 σ2 er2
def loopK (k : ItK) (f : W → Env → Hw → R (Env × Fl)) (env : Env) (ws : List W) (h1 : Hw) : R (Env × Fl) := match iterOf k ws h1 with
  | some p => loopS p.2 f p.1 env h1
  | none => .err
def asgS (t : Tg) (m : Env → Hw → R (Env × Fl)) (x : W) (env : Env) (h : Hw) : R (Env × Fl) := match asg t x env h with
  | some s3 => m s3 h
  | none => .err
theorem loop_g {gs : List (Nat × List W)} {f : W → Env → Hw → R (Env × Fl)} {K : PySem.W.Frag} {ρ : List Addr} {H : Hp} {P : Env × Fl → List Addr → Hw → Hp → Prop} : ∀ {xs : List W} {env : Env} {h : Hw}, rd K ct Wx ρ H (loopS gs f xs env h) P → okG gs h = true
  | [], _, _, q => (rdif q).1
  | _ :: _, _, _, q => (rdif q).1
theorem s_for {tg iter : Expr} {body : List Stmt} {k : ItK} {mes : Env → Hw → R (List W)} {t : Tg} (hp : PassesOwn (model X.prog X.w) X.A X.env X.xe) (hc : X.calm = true) (hi : PI X tg iter (tI X.K ct (wx Wx) k mes)) (hg : PG X tg (tG X.K t)) (hb : PSs X body (tS X.K ct Wx m1))
    (hs : ∀ x, foldedSetIterable iter X.env x = pure x) : PS X (.For tg iter body [] pos) (tS X.K ct Wx fun env h => (mes env h).bind fun ws h1 => loopK k (asgS t m1) env ws h1) := by
  refine PS.mo (ps_for (pos := pos) hp hc hi hg hb hs) fun D σ H ⟨env, ρ, h, er, l, q⟩ => ⟨env, ρ, h, er, l, (rd.bind q).imp fun ws ρ1 h1 H1 s1 l1 q1 => ?_⟩
  cases e : iterOf k ws h1 with
  | none => simp only [loopK, e] at q1; exact absurd q1 rderr
  | some p =>
    simp only [loopK, e] at q1
    refine ⟨p, rfl, fun J wk => ?_⟩
    have er1 := er.mv l s1
    -- the walk
    have walk : Walk J p.1.length (fun H => ∃ ρ h, Stp ρ1 ρ H1 H ∧ Rel X.K ρ h H ∧ okG p.2 h = true) (fun i H x H' => J.yld i H x H') :=
      ⟨fun i H hi ⟨ρ, h, s, l, g⟩ => wk.go ρ h H i s l g hi, fun H ⟨ρ, h, s, l, g⟩ => wk.st ρ h H s l g, fun i H x H' hi _ y => y⟩
    refine for_it walk (fun i σ H => ∃ env ρ h, ER X.K ρ H env σ ∧ Stp ρ1 ρ H1 H ∧ Rel X.K ρ h H ∧ rd X.K ct Wx ρ H (loopS p.2 (asgS t m1) (p.1.drop i) env h) (DP X.K D)) ⟨env, ρ1, h1, er1, Stp.refl, l1, q1⟩ (fun i σ H hi z => ?_) (fun i x σ H H' hi z y => ?_) (fun σ H z => ?_)
    · obtain ⟨env, ρ, h, er, s, l, q⟩ := z
      exact ⟨ρ, h, s, l, loop_g q⟩
    · obtain ⟨env, ρ, h, er, s, l, q⟩ := z
      have g := loop_g q
      obtain ⟨w, ew, s2, l2, qv⟩ := wk.yl ρ h H i x H' s l g hi y
      have ed : p.1.drop i = w :: p.1.drop (i + 1) := by
        rw [List.drop_eq_getElem_cons hi]
        rw [List.getElem?_eq_getElem hi] at ew
        rw [Option.some.inj ew]
      rw [ed] at q
      obtain ⟨_, q⟩ := rdif q
      have q := q.mv s2
      cases ea : asg t w env h with
      | none =>
        have : asgS t m1 w env h = .err := by simp only [asgS, ea]
        rw [this] at q
        exact absurd q rderr
      | some s3 =>
        have : asgS t m1 w env h = m1 s3 h := by simp only [asgS, ea]
        rw [this] at q
        refine ⟨env, ρ, h, w, s3, er.mv l s2, l2, qv, ea, fun σ3 er3 _ => ⟨s3, ρ, h, er3, l2, (rd.bind q).imp fun pr ρ4 h4 H4 s4 l4 q4 => ?_⟩⟩
        obtain ⟨env4, f⟩ := pr
        intro σ4 er4
        cases f with
        | nx => exact ⟨env4, ρ4, h4, er4, (s.trans s2).trans s4, l4, q4⟩
        | ct => exact ⟨env4, ρ4, h4, er4, (s.trans s2).trans s4, l4, q4⟩
        | bk => exact rd.fine q4 l4 σ4 er4
        | rt w => exact rd.fine q4 l4 σ4 er4
    · obtain ⟨env, ρ, h, er, s, l, q⟩ := z
      rw [List.drop_length] at q
      obtain ⟨_, q⟩ := rdif q
      exact rd.fine q l σ er
end
end TL
/-! Comprehensions; dict displays. -/
namespace TL
open PySem PySem.Spec PyProof.Rows L2
section
variable {K : PySem.W.Frag} {ct : Nat → Option Value} {Wx : XK} {ρ ρ' ρ1 : List Addr} {h : Hw} {H H' H1 : Hp}
mutual
theorem VR.mw (pre : ρ <+: ρ') (fz : ∀ a o u, H a = some (.frz o u) → H' a = some (.frz o u)) : ∀ {w : W} {v : V}, VR K ρ H w v → VR K ρ' H' w v
  | .non, _, e => by unfold VR at e ⊢; exact e
  | .bl _, _, e => by unfold VR at e ⊢; exact e
  | .int _, _, e => by unfold VR at e ⊢; exact e
  | .str _, _, e => by unfold VR at e ⊢; exact e
  | .tup ws, _, e => by
    unfold VR at e ⊢
    obtain ⟨a, vs, e1, e2, e3⟩ := e
    exact ⟨a, vs, e1, e2.elim (fun ⟨o, q, d⟩ => .inl ⟨o, fz _ _ _ q, d⟩) .inr, VRs.mw pre fz e3⟩
  | .frl ws, _, e => by
    unfold VR at e ⊢
    obtain ⟨a, vs, e1, e2, e3⟩ := e
    exact ⟨a, vs, e1, e2.elim (fun ⟨o, q⟩ => .inl ⟨o, fz _ _ _ q⟩) .inr, VRs.mw pre fz e3⟩
  | .ref n, _, e => by
    unfold VR at e ⊢
    obtain ⟨a, e1, e2⟩ := e
    exact ⟨a, pre_get pre e1, e2⟩
theorem VRs.mw (pre : ρ <+: ρ') (fz : ∀ a o u, H a = some (.frz o u) → H' a = some (.frz o u)) : ∀ {ws : List W} {vs : List V}, VRs K ρ H ws vs → VRs K ρ' H' ws vs
  | [], _, e => by unfold VRs at e ⊢; exact e
  | _ :: _, _, e => by
    unfold VRs at e ⊢
    obtain ⟨v, q, e1, e2, e3⟩ := e
    exact ⟨v, q, e1, VR.mw pre fz e2, VRs.mw pre fz e3⟩
end
theorem KRs.mw (pre : ρ <+: ρ') (fz : ∀ a o u, H a = some (.frz o u) → H' a = some (.frz o u)) : ∀ {ws : List (L2.Key × W)} {vs : List (L2.Key × V)}, KRs K ρ H ws vs → KRs K ρ' H' ws vs
  | [], _, e => by unfold KRs at e ⊢; exact e
  | (_, _) :: _, _, e => by
    unfold KRs at e ⊢
    obtain ⟨v, q, e1, e2, e3⟩ := e
    exact ⟨v, q, e1, e2.mw pre fz, KRs.mw pre fz e3⟩
/-- a list that the machine does not know is written -/
theorem over {D : Addr} {acc : List V} {o : HO} (hD : H D = some (.lst acc)) : ∀ a ob u, H a = some (.frz ob u) → upd H D o a = some (.frz ob u) := fun a ob u e => by
  have na : a ≠ D := by rintro rfl; rw [hD] at e; cases e
  rw [upd_ne na]; exact e
theorem Rel.over (l : Rel K ρ h H) {D : Addr} {acc : List V} (o : HO) (hD : H D = some (.lst acc)) (n : D ∉ ρ) : Rel K ρ h (upd H D o) := by
  refine ⟨l.len, l.nd, fun m a e => ?_, l.out⟩
  obtain ⟨ob, e1, q⟩ := l.ob m a e
  have na : a ≠ D := fun z => n (z ▸ List.mem_of_getElem? e)
  refine ⟨ob, e1, ?_⟩
  cases ob with
  | lst xs => obtain ⟨vs, q1, q2⟩ := q; exact ⟨vs, by rw [upd_ne na]; exact q1, q2.mw (List.prefix_refl _) (TL.over hD)⟩
  | dct kvs => obtain ⟨vs, q1, q2⟩ := q; exact ⟨vs, by rw [upd_ne na]; exact q1, q2.mw (List.prefix_refl _) (TL.over hD)⟩
theorem Stp.over (s : Stp ρ1 ρ H1 H) {D : Addr} {acc : List V} (o : HO) (hD : H D = some (.lst acc)) (n1 : H1 D = none) : Stp ρ1 ρ H1 (upd H D o) := by
  refine ⟨s.pre, fun a ob e m => ?_, s.nw, fun a ob u e => TL.over hD a ob u (s.fz a ob u e)⟩
  have na : a ≠ D := by rintro rfl; rw [n1] at e; cases e
  rw [upd_ne na]; exact s.fr a ob e m
/-- the machine learns of a list -/
theorem Rel.adopt (l : Rel K ρ h H) {D : Addr} {acc : List V} {ys : List W} (hD : H D = some (.lst acc)) (n : D ∉ ρ) (q : VRs K ρ H ys acc) : Rel K (ρ ++ [D]) (h.new (.lst ys)) H := by
  have pre : ρ <+: ρ ++ [D] := List.prefix_append _ _
  have kp : ∀ a ob u, H a = some (.frz ob u) → H a = some (.frz ob u) := fun _ _ _ e => e
  refine ⟨by rw [List.length_append, l.len]; rfl, ?_, fun m a e => ?_, fun m hm => ?_⟩
  · rw [List.nodup_append]
    exact ⟨l.nd, by simp, fun a m b m' z => by rw [List.mem_singleton.mp m'] at z; exact n (z ▸ m)⟩
  · by_cases hn : m < ρ.length
    · rw [List.getElem?_append_left hn] at e
      obtain ⟨ob, e1, q1⟩ := l.ob m a e
      refine ⟨ob, by rw [Hw.new_ne h _ (by rw [← l.len]; omega)]; exact e1, ?_⟩
      cases ob with
      | lst xs => obtain ⟨vs, q1, q2⟩ := q1; exact ⟨vs, q1, q2.mw pre kp⟩
      | dct kvs => obtain ⟨vs, q1, q2⟩ := q1; exact ⟨vs, q1, q2.mw pre kp⟩
    · have hl : m = ρ.length := by
        have := (List.getElem?_eq_some_iff.mp e).1
        rw [List.length_append] at this
        simp at this
        omega
      subst hl
      rw [List.getElem?_append_right (Nat.le_refl _)] at e
      simp at e
      subst e
      exact ⟨.lst ys, by rw [l.len]; exact Hw.new_same h _, (show OR K (ρ ++ [D]) H D (.lst ys) from ⟨acc, hD, q.mw pre kp⟩)⟩
  · have hn' : h.n + 1 ≤ m := hm
    rw [Hw.new_ne h _ (by omega)]
    exact l.out m (by omega)
theorem rd_eq {α : Type} {r : R α} {a : α} (e : r = .ok a h) : rd K ct Wx ρ H r (fun a' _ h' _ => a' = a ∧ h' = h) := by
  subst e
  exact fun _ _ _ _ => ⟨rfl, rfl⟩
end
def optC {α : Type} (o : Option α) (r : List α) : List α := match o with
  | some w => w :: r
  | none => r
def turnC (tg : Tg) (m : Env → Hw → R Bool) (me : Env → Hw → R W) (s0 : Env) (x : W) (h2 : Hw) : R (Option W) := match asg tg x s0 h2 with
  | some s2 => (m s2 h2).bind fun c h3 => bif c then (me s2 h3).bind fun w h4 => .ok (some w) h4 else .ok none h3
  | none => .err
def compK (k : ItK) (f : W → Hw → R (Option W)) (ws : List W) (h1 : Hw) : R W := match iterOf k ws h1 with
  | some p => bif szOk p.1.length then (loopC p.2 f p.1 h1).bind fun ys h5 => .ok (.ref h5.n) (h5.new (.lst ys)) else .err
  | none => .err
theorem bind_ok {α β : Type} {r : R α} {f : α → Hw → R β} {b : β} {h : Hw} (e : r.bind f = .ok b h) : ∃ a h1, r = .ok a h1 ∧ f a h1 = .ok b h := by
  cases r with
  | ok a h1 => exact ⟨a, h1, rfl, e⟩
  | exc c d h1 => cases e
  | err => cases e
theorem nox_ok {α : Type} {r : R α} {a : α} {h : Hw} (e : r.nox = .ok a h) : r = .ok a h := by
  cases r with
  | ok a h1 => exact e
  | exc c d h1 => cases e
  | err => cases e
theorem loopC_cons {gs : List (Nat × List W)} {f : W → Hw → R (Option W)} {x : W} {xs : List W} {h : Hw} {ys : List W} {h5 : Hw} (e : loopC gs f (x :: xs) h = .ok ys h5) :
    okG gs h = true ∧ ∃ o h1 r, f x h = .ok o h1 ∧ loopC gs f xs h1 = .ok r h5 ∧ ys = optC o r := by
  unfold loopC at e
  cases g : okG gs h with
  | false => rw [g] at e; cases e
  | true =>
    rw [g, cond_true] at e
    obtain ⟨o, h1, e1, e2⟩ := bind_ok e
    obtain ⟨r, h2, e3, e4⟩ := bind_ok e2
    cases o with
    | none => cases e4; exact ⟨rfl, none, h1, r, nox_ok e1, e3, rfl⟩
    | some w => cases e4; exact ⟨rfl, some w, h1, r, nox_ok e1, e3, rfl⟩
theorem loopC_nil {gs : List (Nat × List W)} {f : W → Hw → R (Option W)} {h : Hw} {ys : List W} {h5 : Hw} (e : loopC gs f [] h = .ok ys h5) : okG gs h = true ∧ ys = [] ∧ h = h5 := by
  unfold loopC at e
  cases g : okG gs h with
  | false => rw [g] at e; cases e
  | true => rw [g, cond_true] at e; cases e; exact ⟨rfl, rfl, rfl⟩
theorem loopC_g {gs : List (Nat × List W)} {f : W → Hw → R (Option W)} {xs : List W} {h : Hw} {ys : List W} {h5 : Hw} (e : loopC gs f xs h = .ok ys h5) : okG gs h = true := by
  cases xs with
  | nil => exact (loopC_nil e).1
  | cons x xs => exact (loopC_cons e).1
section
variable {X : Cx} {ct : Nat → Option Value} {Wx : WX} {pos : Pos}
/-- no exception in a block -/
abbrev wF : WX := fun _ _ _ _ => False
theorem lc_read {K : PySem.W.Frag} {k : ItK} {mes : Env → Hw → R (List W)} {t : Tg} {mi : Env → Hw → R Bool} {me : Env → Hw → R W} {own : List Nat} (hix : ∀ i ∈ t.ix, i ∈ own) {σ : L2.St} {H : Hp} {Q : VK} {env : Env} {ρ : List Addr} {h : Hw} (er : ER K ρ H env σ) (l : Rel K ρ h H)
    (q : rd K ct (fun c d => Wx c d σ) ρ H ((mes env h).bind fun ws h1 => compK k (turnC t mi me (wipeW env own)) ws h1) (QW K Q)) : tLc (tI K ct Wx k mes) (tG K t) (tT K ct wF mi) (tE K ct wF me) own σ H Q := by
  refine ⟨env, ρ, h, er, l, (rd.bind q).imp fun ws ρ1 h1 H1 s1 l1 q1 => ?_⟩
  cases e : iterOf k ws h1 with
  | none => simp only [compK, e] at q1; exact absurd q1 rderr
  | some p =>
    simp only [compK, e] at q1
    obtain ⟨csz, q1⟩ := rdif q1
    have csz : p.1.length ≤ 16777216 := Nat.le_of_ble_eq_true csz
    refine ⟨p, rfl, fun J wk D nD => ?_⟩
    have er1 := er.mv l s1
    cases eL : loopC p.2 (turnC t mi me (wipeW env own)) p.1 h1 with
    | err => rw [eL] at q1; exact absurd q1 rderr
    | exc c d h' =>
      exfalso
      have nx : ∀ (gs : List (Nat × List W)) (f : W → Hw → R (Option W)) (xs : List W) (h : Hw) c d h', loopC gs f xs h ≠ .exc c d h' := fun gs f xs => by
        induction xs with
        | nil => intro h c d h' z; unfold loopC at z; cases g : okG gs h <;> rw [g] at z <;> cases z
        | cons x xs ih =>
          intro h c d h' z
          unfold loopC at z
          cases g : okG gs h with
          | false => rw [g] at z; cases z
          | true =>
            rw [g, cond_true] at z
            cases e1 : f x h with
            | err => rw [e1] at z; cases z
            | exc _ _ _ => rw [e1] at z; cases z
            | ok o h2 =>
              rw [e1] at z
              have z : (loopC gs f xs h2).bind (fun ys h3 => .ok (match o with | some w => w :: ys | none => ys) h3) = .exc c d h' := z
              cases e2 : loopC gs f xs h2 with
              | err => rw [e2] at z; cases z
              | ok _ _ => rw [e2] at z; cases z
              | exc c2 d2 h3 => exact ih h2 c2 d2 h3 e2
      exact nx _ _ _ _ _ _ _ eL
    | ok ys h5 =>
      rw [eL] at q1
      have q1 : rd K ct (fun c d => Wx c d σ) ρ1 H1 (.ok (.ref h5.n) (h5.new (.lst ys))) (QW K Q) := q1
      have walk : Walk J p.1.length (fun H => ∃ ρ h, Stp ρ1 ρ H1 H ∧ Rel K ρ h H ∧ okG p.2 h = true) (fun i H x H' => J.yld i H x H') :=
        ⟨fun i H hi ⟨ρ, h, s, l, g⟩ => wk.go ρ h H i s l g hi, fun H ⟨ρ, h, s, l, g⟩ => wk.st ρ h H s l g, fun i H x H' hi _ y => y⟩
      refine lc_it walk (fun i H => ∃ ρ h acc y0 y1, Stp ρ1 ρ H1 H ∧ Rel K ρ h H ∧ H D = some (.lst acc) ∧ D ∉ ρ ∧ VRs K ρ H y0 acc ∧ y0.length ≤ i ∧ loopC p.2 (turnC t mi me (wipeW env own)) (p.1.drop i) h = .ok y1 h5 ∧ y0 ++ y1 = ys)
        ⟨ρ1, h1, [], [], ys, Stp.laid D _ nD, l1.laid D _ nD, upd_same, fun m => l1.trk m nD, VRs.nil_iff.mpr rfl, Nat.le_refl _, eL, rfl⟩ (fun i H hi z => ?_) (fun i x H H' hi z y => ?_) (fun H z => ?_)
      · obtain ⟨ρ, h, acc, y0, y1, s, l, _, _, _, _, eq, _⟩ := z
        exact ⟨ρ, h, s, l, loopC_g eq⟩
      · obtain ⟨ρ, h, acc, y0, y1, s, l, hD, nm, qa, hlen, eq, ey⟩ := z
        have g := loopC_g eq
        obtain ⟨w, ew, s2, l2, qv⟩ := wk.yl ρ h H i x H' s l g hi y
        have ed : p.1.drop i = w :: p.1.drop (i + 1) := by
          rw [List.drop_eq_getElem_cons hi]
          rw [List.getElem?_eq_getElem hi] at ew
          rw [Option.some.inj ew]
        rw [ed] at eq
        obtain ⟨_, o, h6, r, ef, el, eo⟩ := loopC_cons eq
        have hD2 := s2.fr D _ hD nm
        have s3 := s.trans s2
        have qa2 := qa.mv l s2
        cases ea : asg t w (wipeW env own) h with
        | none => simp only [turnC, ea] at ef; cases ef
        | some e2 =>
          simp only [turnC, ea] at ef
          refine ⟨wipeW env own, ρ, h, w, e2, (er1.mv l1 s3).wipe own, l2, qv, ea, fun σ2 er2 kp => ⟨by rw [kp own hix, wipe_wipe], ?_⟩⟩
          refine stepT (Wx := wF) (ct := ct) (P := fun a' _ h' _ => a' = o ∧ h' = h6) er2 l2 (rd_eq ef) fun c ρ3 h3 H3 s4 l3 er3 q3 => ?_
          have nm3 : D ∉ ρ3 := fun m => by have := s4.nw D m nm; rw [hD2] at this; cases this
          have hD3 := s4.fr D _ hD2 nm
          cases c with
          | false =>
            obtain ⟨rfl, rfl⟩ := rd.fine q3 l3
            exact ⟨ρ3, h3, acc, y0, r, s3.trans s4, l3, hD3, nm3, qa2.mv l2 s4, Nat.le_succ_of_le hlen, el, by rw [← ey, eo]; rfl⟩
          | true =>
            refine stepE (Wx := wF) (ct := ct) (P := fun a' _ h' _ => a' = o ∧ h' = h6) er3 l3 q3 fun w4 ρ4 h4 H4 s5 l4 er4 q4 v4 qv4 => ?_
            obtain ⟨rfl, rfl⟩ := rd.fine q4 l4
            have nm4 : D ∉ ρ4 := fun m => by have := s5.nw D m nm3; rw [hD3] at this; cases this
            have hD4 := s5.fr D _ hD3 nm3
            have sall := (s3.trans s4).trans s5
            have qa4 := (qa2.mv l2 s4).mv l3 s5
            refine ⟨acc, hD4, ?_, ρ4, h4, acc ++ [v4], y0 ++ [w4], r, sall.over _ hD4 nD, l4.over _ hD4 nm4, upd_same, nm4, ?_, ?_, el, ?_⟩
            · rw [qa4.length, sizeLine_eq]; omega
            · exact (qa4.app (VRs.cons_iff.mpr ⟨v4, [], rfl, qv4, VRs.nil_iff.mpr rfl⟩)).mw (List.prefix_refl _) (TL.over hD4)
            · rw [List.length_append]; simp; omega
            · rw [← ey, eo, List.append_assoc]; rfl
      · obtain ⟨ρ, h, acc, y0, y1, s, l, hD, nm, qa, hlen, eq, ey⟩ := z
        rw [List.drop_length] at eq
        obtain ⟨_, rfl, rfl⟩ := loopC_nil eq
        rw [List.append_nil] at ey
        subst ey
        refine q1 (ρ ++ [D]) H ⟨s.pre.trans (List.prefix_append _ _), s.fr, fun a m n => ?_, s.fz⟩ (l.adopt hD nm qa) _ (VR.mk_ref ?_)
        · rcases List.mem_append.mp m with m | m
          · exact s.nw a m n
          · rw [List.mem_singleton.mp m]; exact nD
        · rw [← l.len, List.getElem?_append_right (Nat.le_refl _)]; simp
theorem w_lc {elt tg iter : Expr} {ifs : List Expr} {scope : Scope} {own : List (Str × Nat)} {k : ItK} {mes : Env → Hw → R (List W)} {t : Tg} {mi : Env → Hw → R Bool} {me : Env → Hw → R W} (hc : X.calm = true) (hN : X.N.Nodup) (hi : PI X tg iter (tI X.K ct Wx k mes)) (ok : BlkOk X.N X.env.scope scope own) (hix : ∀ i ∈ t.ix, i ∈ own.map (·.2))
    (hg : ∀ (s : Shared) (H : Hp) (C : Addr) (cl : List (Str × Addr)) (fp : List Addr), PG (X.blk s H scope (compEnvC scope cl C X.env) fp) tg (tG X.K t)) (ht : ∀ (s : Shared) (H : Hp) (C : Addr) (cl : List (Str × Addr)) (fp : List Addr), PTs (X.blk s H scope (compEnvC scope cl C X.env) fp) ifs (tT X.K ct wF mi))
    (he : ∀ (s : Shared) (H : Hp) (C : Addr) (cl : List (Str × Addr)) (fp : List Addr), PE (X.blk s H scope (compEnvC scope cl C X.env) fp) elt (tE X.K ct wF me)) (hs : ∀ x, foldedSetIterable iter X.env x = pure x) :
    PE X (.ListComp elt [⟨tg, iter, ifs, 0⟩] scope pos) (tE X.K ct Wx fun env h => (mes env h).bind fun ws h1 => compK k (turnC t mi me (wipeW env (own.map (·.2)))) ws h1) := by
  refine ⟨fun pins s σ H Q I ⟨env, ρ, h, er, l, q⟩ => (pe_lc (pos := pos) hc hN hi ok hg ht he hs).run pins s σ H Q I ?_⟩
  exact lc_read hix er l q
theorem s_setLc {i : Nat} {y : Str} {py spos : Pos} {Wx : XK} {elt tg iter : Expr} {ifs : List Expr} {scope : Scope} {own : List (Str × Nat)} {k : ItK} {mes : Env → Hw → R (List W)} {t : Tg} {mi : Env → Hw → R Bool} {me : Env → Hw → R W} (hc : X.calm = true) (hN : X.N.Nodup)
    (hy : X.N[i]? = some y) (hyl : X.env.scope.names.lookup y = some .local) (hsw : swapsWith (.ListComp elt [⟨tg, iter, ifs, 0⟩] scope pos) (some (.Name y py)) spos.line X.env = pure true) (hi : PI X tg iter (tI X.K ct (wx Wx) k mes)) (ok : BlkOk X.N X.env.scope scope own) (hix : ∀ i ∈ t.ix, i ∈ own.map (·.2))
    (hg : ∀ (s : Shared) (H : Hp) (C : Addr) (cl : List (Str × Addr)) (fp : List Addr), PG (X.blk s H scope (compEnvC scope cl C X.env) fp) tg (tG X.K t)) (ht : ∀ (s : Shared) (H : Hp) (C : Addr) (cl : List (Str × Addr)) (fp : List Addr), PTs (X.blk s H scope (compEnvC scope cl C X.env) fp) ifs (tT X.K ct wF mi))
    (he : ∀ (s : Shared) (H : Hp) (C : Addr) (cl : List (Str × Addr)) (fp : List Addr), PE (X.blk s H scope (compEnvC scope cl C X.env) fp) elt (tE X.K ct wF me)) (hs : ∀ x, foldedSetIterable iter X.env x = pure x) :
    PS X (.Assign [.Name y py] (.ListComp elt [⟨tg, iter, ifs, 0⟩] scope pos) spos) (tS X.K ct Wx fun env h => ((mes env h).bind fun ws h1 => compK k (turnC t mi me (wipeW env (own.map (·.2)))) ws h1).bind fun w h1 => .ok (env.set i (some w), .nx) h1) :=
  PS.mo (ps_setLc hc hN hy hyl hsw hi ok hg ht he hs) fun D σ H ⟨env, ρ, h, er, l, q⟩ =>
    lc_read (Wx := wx Wx) (Q := fun x H1 => gName i x σ H1 D.nx) hix er l ((rd.bind q).imp fun w ρ1 h1 H1 s1 l1 q1 v qv => rd.fine q1 l1 _ ((er.mv l s1).set i qv))
end
end TL
/-! Calls and defs: what is made in a heap of its own; the promise of a def; dict displays. -/
namespace TL
open PySem PySem.Spec PyProof.Rows L2
section
variable {K : PySem.W.Frag} {ct : Nat → Option Value} {Wx : XK} {ρ ρ' : List Addr} {h g : Hw} {H H' : Hp}
/-! ### values without references -/
mutual
theorem VR.nr : ∀ {w : W} {v : V}, w.noRef = true → VR K ρ H w v → VR K ρ' H w v
  | .non, _, _, q => by unfold VR at q ⊢; exact q
  | .bl _, _, _, q => by unfold VR at q ⊢; exact q
  | .int _, _, _, q => by unfold VR at q ⊢; exact q
  | .str _, _, _, q => by unfold VR at q ⊢; exact q
  | .tup xs, _, e, q => by
    unfold VR at q ⊢
    obtain ⟨a, vs, e1, e2, e3⟩ := q
    exact ⟨a, vs, e1, e2, VRs.nr (by simpa only [W.noRef] using e) e3⟩
  | .frl xs, _, e, q => by
    unfold VR at q ⊢
    obtain ⟨a, vs, e1, e2, e3⟩ := q
    exact ⟨a, vs, e1, e2, VRs.nr (by simpa only [W.noRef] using e) e3⟩
  | .ref n, _, e, _ => by simp [W.noRef] at e
theorem VRs.nr : ∀ {ws : List W} {vs : List V}, W.noRefs ws = true → VRs K ρ H ws vs → VRs K ρ' H ws vs
  | [], _, _, q => by unfold VRs at q ⊢; exact q
  | w :: ws, _, e, q => by
    unfold VRs at q ⊢
    obtain ⟨v, r, e1, e2, e3⟩ := q
    simp only [W.noRefs, Bool.and_eq_true] at e
    exact ⟨v, r, e1, VR.nr e.1 e2, VRs.nr e.2 e3⟩
end
mutual
theorem VR.ups {k : Nat} (hk : ρ.length = k) : ∀ {w : W} {v : V}, VR K ρ' H w v → VR K (ρ ++ ρ') H (w.up k) v
  | .non, _, q => by unfold W.up; unfold VR at q ⊢; exact q
  | .bl _, _, q => by unfold W.up; unfold VR at q ⊢; exact q
  | .int _, _, q => by unfold W.up; unfold VR at q ⊢; exact q
  | .str _, _, q => by unfold W.up; unfold VR at q ⊢; exact q
  | .tup xs, _, q => by
    unfold W.up
    unfold VR at q ⊢
    obtain ⟨a, vs, e1, e2, e3⟩ := q
    exact ⟨a, vs, e1, e2, VRs.ups hk e3⟩
  | .frl xs, _, q => by
    unfold W.up
    unfold VR at q ⊢
    obtain ⟨a, vs, e1, e2, e3⟩ := q
    exact ⟨a, vs, e1, e2, VRs.ups hk e3⟩
  | .ref n, _, q => by
    unfold W.up
    unfold VR at q ⊢
    obtain ⟨a, e1, e2⟩ := q
    exact ⟨a, by rw [List.getElem?_append_right (by omega), hk, Nat.add_sub_cancel]; exact e1, e2⟩
theorem VRs.ups {k : Nat} (hk : ρ.length = k) : ∀ {ws : List W} {vs : List V}, VRs K ρ' H ws vs → VRs K (ρ ++ ρ') H (W.ups k ws) vs
  | [], _, q => by unfold W.ups; unfold VRs at q ⊢; exact q
  | w :: ws, _, q => by
    unfold W.ups
    unfold VRs at q ⊢
    obtain ⟨v, r, e1, e2, e3⟩ := q
    exact ⟨v, r, e1, VR.ups hk e2, VRs.ups hk e3⟩
end
theorem KRs.ups {k : Nat} (hk : ρ.length = k) : ∀ {ws : List (L2.Key × W)} {vs : List (L2.Key × V)}, KRs K ρ' H ws vs → KRs K (ρ ++ ρ') H (ws.map fun p => (p.1, p.2.up k)) vs
  | [], _, q => by unfold KRs at q; subst q; unfold KRs; rfl
  | (j, w) :: ws, _, q => by
    unfold KRs at q
    obtain ⟨v, r, rfl, e2, e3⟩ := q
    rw [List.map_cons]
    unfold KRs
    exact ⟨v, r, rfl, VR.ups hk e2, KRs.ups hk e3⟩
theorem Rel.nil : Rel K [] Hw.nil H := ⟨rfl, List.nodup_nil, fun n a e => by simp at e, fun n _ => rfl⟩
theorem app_n (hg : ∀ m, m < g.n → ∃ o, g.get m = some o) : ∀ i, i ≤ g.n → (Hw.app h g i).n = h.n + i
  | 0, _ => rfl
  | i + 1, hi => by
    obtain ⟨o, e⟩ := hg i (by omega)
    unfold Hw.app
    rw [e]
    show (Hw.app h g i).n + 1 = _
    rw [app_n hg i (by omega)]
    omega
theorem app_get (hg : ∀ m, m < g.n → ∃ o, g.get m = some o) : ∀ i, i ≤ g.n → ∀ j, (Hw.app h g i).get j = if j < h.n then h.get j else if j < h.n + i then (g.get (j - h.n)).map (HW.up h.n) else h.get j
  | 0, _, j => by
    unfold Hw.app
    split
    · rfl
    · rw [if_neg (by omega)]
  | i + 1, hi, j => by
    obtain ⟨o, e⟩ := hg i (by omega)
    have hn := app_n (h := h) hg i (by omega)
    unfold Hw.app
    rw [e]
    show ((Hw.app h g i).new (o.up h.n)).get j = _
    by_cases ej : j = h.n + i
    · subst ej
      have := Hw.new_same (Hw.app h g i) (o.up h.n)
      rw [hn] at this
      rw [this, if_neg (by omega), if_pos (by omega), show h.n + i - h.n = i by omega, e]
      rfl
    · rw [Hw.new_ne _ _ (by rw [hn]; omega), app_get hg i (by omega) j]
      by_cases h1 : j < h.n
      · rw [if_pos h1, if_pos h1]
      · rw [if_neg h1, if_neg h1]
        by_cases h2 : j < h.n + i
        · rw [if_pos h2, if_pos (by omega)]
        · rw [if_neg h2, if_neg (by omega)]
theorem Rel.app (l : Rel K ρ h H') (l' : Rel K ρ' g H') (dj : ∀ a ∈ ρ', a ∉ ρ) : Rel K (ρ ++ ρ') (h.app g g.n) H' := by
  have hg : ∀ m, m < g.n → ∃ o, g.get m = some o := fun m hm => by
    have hm2 : m < ρ'.length := by rw [l'.len]; exact hm
    obtain ⟨o, e, _⟩ := l'.ob m _ (List.getElem?_eq_getElem hm2)
    exact ⟨o, e⟩
  refine ⟨by rw [List.length_append, l.len, l'.len, app_n hg g.n (Nat.le_refl _)], ?_, fun n a e => ?_, fun n hn => ?_⟩
  · rw [List.nodup_append]
    exact ⟨l.nd, l'.nd, fun a m b m' z => dj b m' (z ▸ m)⟩
  · by_cases h1 : n < ρ.length
    · rw [List.getElem?_append_left h1] at e
      obtain ⟨o, e1, q⟩ := l.ob n a e
      refine ⟨o, by rw [app_get hg g.n (Nat.le_refl _), if_pos (by rw [← l.len]; exact h1)]; exact e1, ?_⟩
      cases o with
      | lst xs => obtain ⟨vs, q1, q2⟩ := q; exact ⟨vs, q1, q2.mw (List.prefix_append _ _) fun _ _ _ e => e⟩
      | dct kvs => obtain ⟨vs, q1, q2⟩ := q; exact ⟨vs, q1, q2.mw (List.prefix_append _ _) fun _ _ _ e => e⟩
    · have hl := (List.getElem?_eq_some_iff.mp e).1
      rw [List.length_append] at hl
      rw [List.getElem?_append_right (by omega)] at e
      obtain ⟨o, e1, q⟩ := l'.ob _ a e
      have l1 := l.len
      have l2 := l'.len
      refine ⟨o.up h.n, by rw [app_get hg g.n (Nat.le_refl _), if_neg (by omega), if_pos (by omega), ← l1, e1]; rfl, ?_⟩
      cases o with
      | lst xs => obtain ⟨vs, q1, q2⟩ := q; exact ⟨vs, q1, q2.ups l1⟩
      | dct kvs => obtain ⟨vs, q1, q2⟩ := q; exact ⟨vs, q1, q2.ups l1⟩
  · rw [app_n hg g.n (Nat.le_refl _)] at hn
    rw [app_get hg g.n (Nat.le_refl _), if_neg (by omega), if_neg (by omega)]
    exact l.out n (by omega)
/-- what holds behind a step of a heap of its own -/
theorem graft_rd {Q : VK} {r : R W} (l : Rel K ρ h H) (q : rd K ct Wx ρ H (graft h r) (QW K Q)) : rd K ct Wx [] H r (QW K Q) := by
  have base : ∀ {ρ' : List Addr} {H' : Hp}, Stp [] ρ' H H' → Stp ρ ρ H H' ∧ Rel K ρ h H' := fun {ρ' H'} s => by
    have kp : ∀ a o, H a = some o → H' a = some o := fun a o e => s.fr a o e (by simp)
    have s2 : Stp ρ ρ H H' := ⟨List.prefix_refl _, fun a o e _ => kp a o e, fun a m n => absurd m n, fun a o u e => kp _ _ e⟩
    exact ⟨s2, l.same s2 kp⟩
  cases r with
  | err => exact absurd q rderr
  | exc c d g =>
    intro ρ' H' cls dd s l' x
    obtain ⟨s2, l2⟩ := base s
    unfold graft at q
    obtain ⟨_, q⟩ := rdif q
    exact q ρ H' cls dd s2 l2 x
  | ok w g =>
    intro ρ' H' s l' v qv
    obtain ⟨s2, l2⟩ := base s
    have q : rd K ct Wx ρ H (bif w.noRef then .ok w h else .ok (w.up h.n) (h.app g g.n)) (QW K Q) := q
    cases c : w.noRef with
    | true =>
      rw [c] at q
      exact q ρ H' s2 l2 v (qv.nr c)
    | false =>
      rw [c] at q
      have dj : ∀ a ∈ ρ', a ∉ ρ := fun a m m2 => l.trk m2 (s.nw a m (by simp))
      refine q (ρ ++ ρ') H' ⟨List.prefix_append _ _, s2.fr, fun a m n => ?_, s2.fz⟩ (l2.app l' dj) v (qv.ups l.len)
      rcases List.mem_append.mp m with m | m
      · exact absurd m n
      · exact s.nw a m (by simp)
end

/-! ### the promise of a def -/
structure FnG (P : Program) (w : World) (K : PySem.W.Frag) (mg : Str → Option Value) (base : Heap) (CX : CXT) (k : Nat) (f : Addr) (fd : FuncData) (ps : List Str) (sp : Sp) : Prop where
  len : ∀ vs H Q E, sp vs H Q E → vs.length = ps.length
  run : ∀ (A : Around) (outer : List PySem.Env) (s : Shared) (H : Hp) (ars : Args) (us : List Value) (vs : List V) (Q : VK) (E : XK), Room k A → A.guards = some [] → Env0 P w K mg base A outer s H → BindsTo s fd ars (ps.zip us) → Vals vs us → sp vs H Q E →
    codeAny (model P w) A (.call (.ref f) ars) (CR CX outer P w H s Q E) s
/-- the machine's promise -/
def spW (K : PySem.W.Frag) (ct : Nat → Option Value) (tr : XK → XK) (C : Nat → List W → Hw → R W) (f : Nat) : Sp := fun vs H Q E => ∃ ρ h ws, Rel K ρ h H ∧ VRs K ρ H ws vs ∧ rd K ct (tr E) ρ H (C f ws h) (QW K Q)
section
variable {X : Cx} {CX : CXT} {k : Nat} {f : Addr} {fd : FuncData} {ps : List Str} {sp : Sp} {x : Str} {p pos : Pos} {e : Expr} {es : List Expr}
theorem run_fnG {E : XK} {pins : List (Addr × Obj)} {σ : L2.St} {H : Hp} {s : Shared} {Q : VK} {us : List Value} {vs : List V} (F : FnG X.prog X.w X.K X.mg X.base CX k f fd ps sp) (hr : Room k X.A) (hg : X.A.guards = some []) (hb : Binds X.K fd ps []) (hx : PassesAt CX X σ E)
    (I : Inv X pins σ H s) (r : Vals vs us) (q : sp vs H Q E) : wpAny (model X.prog X.w) X.A (call (.ref f) us) (EP X pins σ Q) X.xe s := by
  have hl : us.length = ps.length := r.length.symm.trans (F.len _ _ _ _ q)
  have bd := hb s us I.kIn (by rw [List.append_nil]; exact hl)
  rw [List.append_nil] at bd
  refine wpAny_call (codeAny_mono (F.run X.A X.stack s H ⟨us, []⟩ us vs Q E hr hg I.env0 bd r q) fun res s' hres => ?_)
  match res, hres with
  | .error er, hres => exact hx pins H s er s' I hres
  | .ok (.ret u), hres => exact I.after hres
  | .ok .next, hres => exact False.elim hres
  | .ok .brk, hres => exact False.elim hres
  | .ok .cont, hres => exact False.elim hres
variable {ct : Nat → Option Value} {Wx : WX} {C : Nat → List W → Hw → R W} {i : Nat} {tr : XK → XK}
theorem w_call {mes : Env → Hw → R (List W)} (F : FnG X.prog X.w X.K X.mg X.base CX k f fd ps (spW X.K ct tr C i)) (htr : ∀ σ, tr (fun c d H => Wx c d σ H) = fun c d H => Wx c d σ H) (hr : Room k X.A) (hgd : X.A.guards = some []) (hg : Gl X x) (hm : X.mg x = some (.ref f)) (hk : PySem.W.keepIn X.K (.ref f) = true) (hb : Binds X.K fd ps [])
    (hx : ∀ σ, PassesAt CX X σ fun c d H => Wx c d σ H) (ha : PA X (e :: es) (tA X.K ct Wx mes)) (hdb : (x == ("__debug__" : Str)) = false) (he : starEach (e :: es) X.env = (false, eval e X.env) :: starEach es X.env) (hpl : (backTo pos (starEach es X.env)).any (·.1) = false) :
    PE X (.Call (.Name x p) (e :: es) [] pos) (tE X.K ct Wx fun env h => (mes env h).bind fun ws h1 => C i ws h1) := by
  refine ⟨fun pins s σ H Q I ⟨env, ρ, h, er, l, q⟩ => ?_⟩
  refine wpAny_Call_Name_kw (ld_glob I hg hm ?_ hdb)
  have rdg : (tA X.K ct Wx mes) σ H fun vs H1 => spW X.K ct tr C i vs H1 Q (fun c d H => Wx c d σ H) := stepA (Wx := Wx) er l q fun ws ρ1 h1 H1 s1 l1 er1 q1 vs qs => ⟨ρ1, h1, ws, l1, qs, by rw [htr σ]; exact q1⟩
  exact PySem.W.callWith_K (h₀ := X.base) I.ok.mod.kin hk (thn (ha.run pos pins s σ H _ I rdg) fun us s1 ⟨vs, H1, I1, r, q⟩ => ⟨I1.kIn, run_fnG F hr hgd hb (hx σ) I1 r q⟩) he hpl
theorem w_call0 (F : FnG X.prog X.w X.K X.mg X.base CX k f fd ps (spW X.K ct tr C i)) (htr : ∀ σ, tr (fun c d H => Wx c d σ H) = fun c d H => Wx c d σ H) (hr : Room k X.A) (hgd : X.A.guards = some []) (hg : Gl X x) (hm : X.mg x = some (.ref f)) (hk : PySem.W.keepIn X.K (.ref f) = true) (hb : Binds X.K fd ps [])
    (hx : ∀ σ, PassesAt CX X σ fun c d H => Wx c d σ H) (hdb : (x == ("__debug__" : Str)) = false) : PE X (.Call (.Name x p) [] [] pos) (tE X.K ct Wx fun env h => C i [] h) := by
  refine ⟨fun pins s σ H Q I ⟨env, ρ, h, er, l, q⟩ => ?_⟩
  refine wpAny_Call_Name_kw (ld_glob I hg hm ?_ hdb)
  exact PySem.W.callWith_K0 I.kIn hk (run_fnG (us := []) (vs := []) F hr hgd hb (hx σ) I .nil ⟨ρ, h, [], l, VRs.nil_iff.mpr rfl, by rw [htr σ]; exact q⟩)
end
section
variable {CX : CXT} {P : Program} {w : World} {K : PySem.W.Frag} {mg : Str → Option Value} {base : Heap} {k : Nat} {f : Addr} {name qual : Str} {params : Arguments} {body : List Stmt} {scope : Scope} {dV kV doc pm cdv ctr oc : Value} {an od : Option Addr}
  {osl : Array (Option Value)} {N ps : List Str} {sp : Sp}
/-- a def by its body (the guards are known) -/
theorem fnG_of (lk : K.lookup f = some ⟨oc, od, .func (PySem.W.fnOf name qual params body scope dV kV doc pm an cdv ctr), osl⟩) (hcd : PySem.W.codeIn K cdv qual = true) (S : FnScope N ps scope) (len : ∀ vs H Q E, sp vs H Q E → vs.length = ps.length)
    (hbd : ∀ (A : Around) (outer : List PySem.Env) (s : Shared) (H : Hp) (vs : List V) (Q : VK) (E : XK), Room k (A.deeper (envOfC qual scope s.heap.objs.size f cdv)) → A.guards = some [] → sp vs H Q E →
      ∃ t, PSs (cxOf CX P w K mg base N qual scope f cdv A outer s H E) body t ∧ t { nx := fun _ H' => Q .non H', rt := Q } (L2.start N vs) H) :
    FnG P w K mg base CX (k + 1) f (PySem.W.fnOf name qual params body scope dV kV doc pm an cdv ctr) ps sp := by
  refine ⟨len, fun A outer s H ars us vs Q E hr hgd en bd rv q => ?_⟩
  have le := len _ _ _ _ q
  have kin : K.In s.heap := en.mod.kin.keeps fun b o z => (en.bs b o z).1
  have nolim : s.heap.NoLimit := en.mod.nolimit.keeps fun b o z => (en.bs b o z).1
  have kinds : ∀ y ∈ ps.zip us, scope.names.lookup y.1 = some .local ∨ (scope.names.lookup y.1 = some .cell ∧ ((cellsFrom (s.heap.objs.size + 1) scope.names []).lookup y.1).isSome = true) := fun ⟨n, v⟩ m => by
    rcases S.par n (List.of_mem_zip m).1 with z | z
    · exact .inl z
    · exact .inr ⟨z, PySem.W.cellsFrom_some _ _ _ (.inl z)⟩
  refine codeAny_call_function hr.depth (kin _ _ lk) rfl S.co S.gen rfl (PySem.W.codeRec_of kin hcd) (bd _ _ _ _ ?_)
  refine wpAny_newFunctionEnv_cells S.kind kinds fun env ee s1 st => ?_
  subst ee
  refine ⟨nolim.keeps st.toInCall.keep, codeAny_func ?_⟩
  obtain ⟨t, pt, qt⟩ := hbd A outer s H vs Q E (hr.deeper _) hgd q
  have J : Inv (cxOf CX P w K mg base N qual scope f cdv A outer s H E) [] (L2.start N vs) H s1 := inv_start S hr.hd en le rv st
  refine wpAny_mono (pt.run [] s1 (L2.start N vs) H _ J qt) (fun fl s' hs => ?_) fun ex s' hs => hs
  have close : ∀ {σ' : L2.St} {H' : Hp} {v : V} {u : Value}, Inv (cxOf CX P w K mg base N qual scope f cdv A outer s H E) [] σ' H' s' → RelV v u → Q v H' → CE outer P w H s Q u s' := fun {σ' H' v u} J' ru qv => ⟨v, H', J'.os, J'.bare, J'.base, J'.hok, ru, qv⟩
  match fl, hs with
  | .ret u, hs => obtain ⟨v, σ', H', J', ru, qv⟩ := hs; exact close J' ru qv
  | .next, hs => obtain ⟨σ', H', J', qv⟩ := hs; exact close (v := V.non) (u := Value.none) J' rfl qv
  | .brk, hs => obtain ⟨_, _, _, qv⟩ := hs; exact False.elim qv
  | .cont, hs => obtain ⟨_, _, _, qv⟩ := hs; exact False.elim qv
theorem er_start {ρ : List Addr} {H : Hp} {ws : List W} {vs : List V} {n : Nat} (q : VRs K ρ H ws vs) (hn : n = N.length - vs.length) : ER K ρ H (ws.map some ++ List.replicate n none) (L2.start N vs) := by
  subst hn
  have hl := q.length
  refine ⟨by unfold L2.start; simp [hl], fun j u e => ?_⟩
  unfold L2.start
  by_cases hj : j < ws.length
  · rw [List.getElem?_append_left (by simpa using hj), List.getElem?_map] at e
    rw [List.getElem?_append_left (by simpa [hl] using hj), List.getElem?_map]
    rw [List.getElem?_eq_getElem hj] at e
    obtain ⟨v, e2, qv⟩ := q.get (List.getElem?_eq_getElem hj)
    rw [e2]
    have e := Option.some.inj (Option.some.inj e)
    subst e
    exact ⟨v, rfl, qv⟩
  · rw [List.getElem?_append_right (by simpa using hj), List.getElem?_replicate] at e
    split at e <;> cases e
/-- a def whose body the machine runs -/
theorem defG {ct : Nat → Option Value} {tr : XK → XK} {tb : List Fn} {wf i : Nat} {fn : Fn} (hi : tb[i]? = some fn) (hns : fn.ns = N.length) (hnp : fn.np = ps.length)
    (lk : K.lookup f = some ⟨oc, od, .func (PySem.W.fnOf name qual params body scope dV kV doc pm an cdv ctr), osl⟩) (hcd : PySem.W.codeIn K cdv qual = true) (S : FnScope N ps scope)
    (hbd : ∀ (A : Around) (outer : List PySem.Env) (s : Shared) (H : Hp) (E : XK), Room k (A.deeper (envOfC qual scope s.heap.objs.size f cdv)) → A.guards = some [] →
      PSs (cxOf CX P w K mg base N qual scope f cdv A outer s H E) body (tS K ct (tr E) (exL (callF tb wf k) wf fn.body))) :
    FnG P w K mg base CX (k + 1) f (PySem.W.fnOf name qual params body scope dV kV doc pm an cdv ctr) ps (spW K ct tr (callF tb wf (k + 1)) i) := by
  have inv : ∀ {vs : List V} {H : Hp} {Q : VK} {E : XK}, spW K ct tr (callF tb wf (k + 1)) i vs H Q E → ∃ ρ h ws, Rel K ρ h H ∧ VRs K ρ H ws vs ∧ ws.length = fn.np ∧ rd K ct (tr E) ρ H (runF (callF tb wf k) wf fn ws h) (QW K Q) := fun {vs H Q E} ⟨ρ, h, ws, l, qs, q⟩ => by
    unfold callF at q
    rw [hi] at q
    have q : rd K ct (tr E) ρ H (bif Nat.beq ws.length fn.np then (bif W.noRefs ws then graft h (runF (callF tb wf k) wf fn ws Hw.nil) else runF (callF tb wf k) wf fn ws h) else .err) (QW K Q) := q
    obtain ⟨c, q⟩ := rdif q
    have c := Nat.eq_of_beq_eq_true c
    cases c2 : W.noRefs ws with
    | true =>
      rw [c2] at q
      exact ⟨[], Hw.nil, ws, Rel.nil, qs.nr c2, c, graft_rd l q⟩
    | false =>
      rw [c2] at q
      exact ⟨ρ, h, ws, l, qs, c, q⟩
  refine fnG_of lk hcd S (fun vs H Q E q => ?_) fun A outer s H vs Q E hr hgd q => ⟨_, hbd A outer s H E hr hgd, ?_⟩
  · obtain ⟨ρ, h, ws, l, qs, c, _⟩ := inv q
    rw [qs.length, c, hnp]
  · obtain ⟨ρ, h, ws, l, qs, c, q⟩ := inv q
    refine ⟨_, ρ, h, er_start qs (by rw [qs.length, c]; exact congrArg (· - fn.np) hns), l, (rd.bind q).imp fun p ρ1 h1 H1 s1 l1 q1 σ' er' => ?_⟩
    obtain ⟨env1, fl⟩ := p
    cases fl with
    | nx => exact rd.fine q1 l1 _ VR.mk_non
    | rt w => exact rd.fine q1 l1
    | bk => exact absurd q1 rderr
    | ct => exact absurd q1 rderr
end

/-! ### dict displays -/
section
variable {X : Cx} {ct : Nat → Option Value} {Wx : WX} {pos : Pos}
/-- the pairs of a display -/
def PD (X : Cx) (ct : Nat → Option Value) (Wx : WX) (pos : Pos) (ks : List (Option Expr)) (vs : List Expr) (m : Env → Hw → R (List (L2.Key × W))) : Prop :=
  ∃ trs, PPs X pos ks vs trs ∧ ∀ (env : Env) (ρ : List Addr) (h : Hw) (σ : L2.St) (H : Hp) (Q : List (V × V) → Hp → Prop), ER X.K ρ H env σ → Rel X.K ρ h H →
    rd X.K ct (fun c d => Wx c d σ) ρ H (m env h) (fun kvs ρ' _ H' => ∀ us : List (L2.Key × V), KRs X.K ρ' H' kvs us → Q (us.map fun kv => (kV kv.1, kv.2)) H') → tPairs trs σ H Q
theorem d_nil : PD X ct Wx pos [] [] fun _ h => .ok [] h := ⟨[], pps_nil, fun env ρ h σ H Q er l q => rd.fine q l [] (by unfold KRs; rfl)⟩
def dK1 (mv : Hw → R W) (mr : Hw → R (List (L2.Key × W))) (x : Option L2.Key) (h1 : Hw) : R (List (L2.Key × W)) := match x with
  | some x => (mv h1).bind fun y h2 => (mr h2).bind fun r h3 => .ok ((x, y) :: r) h3
  | none => .err
theorem d_cons {k v : Expr} {ks : List (Option Expr)} {vs : List Expr} {mk mv : Env → Hw → R W} {mr : Env → Hw → R (List (L2.Key × W))} (hk : PE X k (tE X.K ct Wx mk)) (hv : PE X v (tE X.K ct Wx mv)) (hr : PD X ct Wx pos ks vs mr) :
    PD X ct Wx pos (some k :: ks) (v :: vs) fun env h => (mk env h).bind fun x h1 => dK1 (mv env) (mr env) (keyOf x) h1 := by
  obtain ⟨trs, pp, rdn⟩ := hr
  refine ⟨_, pps_cons hk hv pp, fun env ρ h σ H Q er l q => stepE er l q fun x ρ1 h1 H1 s1 l1 er1 q1 u qu => ?_⟩
  cases e : keyOf x with
  | none => rw [e] at q1; exact absurd q1 rderr
  | some kk =>
    rw [e] at q1
    have eu := keyOf_ok qu e
    refine stepE er1 l1 q1 fun y ρ2 h2 H2 s2 l2 er2 q2 t qt => rdn env ρ2 h2 σ H2 _ er2 l2 ((rd.bind q2).imp fun r ρ3 h3 H3 s3 l3 q3 us qs => ?_)
    have := rd.fine q3 l3 ((kk, t) :: us) (by unfold KRs; exact ⟨t, us, rfl, qt.mv l2 s3, qs⟩)
    rw [eu]
    exact this
def dK2 (n : Nat) (kvs : List (L2.Key × W)) (h1 : Hw) : R W := match h1.get n with
  | some (.dct []) => bif Nat.ble kvs.length 15 then .ok (.ref n) (h1.set n (.dct (kvs.foldl (fun d p => kPut d p.1 p.2) []))) else .err
  | _ => .err
theorem merge_ok {K : PySem.W.Frag} {ρ : List Addr} {H : Hp} : ∀ {kvs : List (L2.Key × W)} {us : List (L2.Key × V)} {d : List (L2.Key × W)} {e : List (L2.Key × V)}, KRs K ρ H kvs us → KRs K ρ H d e → KRs K ρ H (kvs.foldl (fun d p => kPut d p.1 p.2) d) (mergeK e us)
  | [], _, _, _, q, qd => by unfold KRs at q; subst q; exact qd
  | (j, w) :: r, _, _, _, q, qd => by
    unfold KRs at q
    obtain ⟨v, t, rfl, q1, q2⟩ := q
    have := merge_ok (kvs := r) (us := t) q2 (kPut_ok j qd q1)
    exact this
theorem w_dct {ks : List (Option Expr)} {vs : List Expr} {m : Env → Hw → R (List (L2.Key × W))} (hd : PD X ct Wx pos ks vs m) (hall : ks.all (·.isSome) = true) (hl : ks.length = vs.length) (h0 : ks ≠ []) (h15 : ks.length ≤ 15) :
    PE X (.Dict ks vs pos) (tE X.K ct Wx fun env h => (m env (h.new (.dct []))).bind fun kvs h1 => dK2 h.n kvs h1) := by
  obtain ⟨trs, pp, rdn⟩ := hd
  refine PE.mo (pe_disp pp hall hl h0 h15) fun σ H Q ⟨env, ρ, h, er, l, q⟩ p hp => ?_
  have s := Stp.new l p (HO.dK []) hp
  have l0 := l.new p (HO.dK []) (.dct []) hp ⟨[], upd_same, by unfold KRs; rfl⟩
  have en : (ρ ++ [p])[h.n]? = some p := by rw [← l.len, List.getElem?_append_right (Nat.le_refl _)]; simp
  refine rdn env (ρ ++ [p]) _ σ _ _ (er.mv l s) l0 ((rd.bind (q.mv s)).imp fun kvs ρ1 h1 H1 s1 l1 q1 us qs => ?_)
  cases e : h1.get h.n with
  | none => simp only [dK2, e] at q1; exact absurd q1 rderr
  | some o =>
    cases o with
    | lst _ => simp only [dK2, e] at q1; exact absurd q1 rderr
    | dct d =>
      cases d with
      | cons _ _ => simp only [dK2, e] at q1; exact absurd q1 rderr
      | nil =>
        simp only [dK2, e] at q1
        obtain ⟨c, q1⟩ := rdif q1
        have e1 := pre_get s1.pre en
        obtain ⟨a, d2, ea, _, ha, ra⟩ := l1.dct e (VR.mk_ref (K := X.K) (H := H1) e1)
        cases ea
        unfold KRs at ra
        subst ra
        have nz : ∀ o u, H1 p ≠ some (.frz o u) := fun o u z => by rw [ha] at z; cases z
        have st := Stp.wr (HO.dK (mergeK [] us)) e1 nz
        have hlen : us.length = kvs.length := by have := congrArg List.length qs.keys; simpa using this
        refine ⟨ha, us, rfl, by rw [hlen]; exact Nat.le_of_ble_eq_true c, q1 ρ1 _ st (l1.wr _ _ e1 nz ⟨_, upd_same, (merge_ok qs (by unfold KRs; rfl)).mv l1 st⟩) _ (VR.mk_ref e1)⟩
theorem w_dct0 {m : Env → Hw → R (List (L2.Key × W))} (hm : ∀ env h, m env h = .ok [] h) : PE X (.Dict [] [] pos) (tE X.K ct Wx fun env h => (m env (h.new (.dct []))).bind fun kvs h1 => dK2 h.n kvs h1) := by
  refine PE.mo pe_dnewK fun σ H Q ⟨env, ρ, h, er, l, q⟩ p hp => ?_
  have q : rd X.K ct (fun c d => Wx c d σ) ρ H ((m env (h.new (.dct []))).bind fun kvs h1 => dK2 h.n kvs h1) (QW X.K Q) := q
  rw [hm] at q
  have q : rd X.K ct (fun c d => Wx c d σ) ρ H (dK2 h.n [] (h.new (.dct []))) (QW X.K Q) := q
  have s := Stp.new l p (HO.dK []) hp
  have l0 := l.new p (HO.dK []) (.dct []) hp ⟨[], upd_same, by unfold KRs; rfl⟩
  have en : (ρ ++ [p])[h.n]? = some p := by rw [← l.len, List.getElem?_append_right (Nat.le_refl _)]; simp
  unfold dK2 at q
  rw [Hw.new_same] at q
  have q : rd X.K ct (fun c d => Wx c d σ) ρ H (.ok (.ref h.n) ((h.new (.dct [])).set h.n (.dct []))) (QW X.K Q) := q
  have nz : ∀ o u, upd H p (HO.dK []) p ≠ some (.frz o u) := fun o u z => by rw [upd_same] at z; cases z
  have st := Stp.wr (HO.dK []) en nz
  have l2 := l0.wr (HO.dK []) (.dct []) en nz ⟨[], upd_same, by unfold KRs; rfl⟩
  rw [upd_upd] at st l2
  exact q (ρ ++ [p]) _ s l2 _ (VR.mk_ref en)
end
end TL
/-! The machine's code beside the text: what is looked at. -/
namespace TL
open PySem PySem.Spec PyProof.Rows L2
/-! ### shapes of the text -/
def isStar : Expr → Bool
  | .Starred _ _ => true
  | _ => false
def plainL (es : List Expr) : Bool := es.all fun e => !isStar e
def isSet : Expr → Bool
  | .Set _ _ _ => true
  | _ => false
def isSlice : Expr → Bool
  | .Slice _ _ _ _ => true
  | _ => false
def isComp : Expr → Bool
  | .ListComp _ _ _ _ => true
  | .SetComp _ _ _ _ => true
  | .DictComp _ _ _ _ _ => true
  | _ => false
def baseOk : Expr → Bool
  | .Call _ [] [] _ => false
  | _ => true
section
variable {env : PySem.Env}
theorem star1 {e : Expr} {es : List Expr} (h : isStar e = false) : starEach (e :: es) env = (false, eval e env) :: starEach es env := by
  cases e <;> first | rfl | cases h
theorem star_any {pos : Pos} : ∀ {es : List Expr}, plainL es = true → (backTo pos (starEach es env)).any (·.1) = false
  | [], _ => rfl
  | e :: es, h => by
    unfold plainL at h
    rw [List.all_cons, Bool.and_eq_true] at h
    rw [star1 (by simpa using h.1)]
    show (false || (backTo pos (starEach es env)).any (·.1)) = false
    rw [Bool.false_or]
    exact star_any h.2
theorem star_all {pos : Pos} : ∀ {es : List Expr}, plainL es = true → (backTo pos (starEach es env)).all (fun x => !x.1) = true
  | [], _ => rfl
  | e :: es, h => by
    unfold plainL at h
    rw [List.all_cons, Bool.and_eq_true] at h
    rw [star1 (by simpa using h.1)]
    show (!false && (backTo pos (starEach es env)).all (fun x => !x.1)) = true
    rw [star_all h.2]
    rfl
theorem asg1 {e : Expr} {es : List Expr} (h : isStar e = false) : assignEach (e :: es) env = (false, assign e env) :: assignEach es env := by
  cases e <;> first | rfl | cases h
theorem asg_len : ∀ {es : List Expr}, plainL es = true → (assignEach es env).length = es.length
  | [], _ => rfl
  | e :: es, h => by
    unfold plainL at h
    rw [List.all_cons, Bool.and_eq_true] at h
    rw [asg1 (by simpa using h.1), List.length_cons, List.length_cons, asg_len h.2]
theorem asg_find : ∀ {es : List Expr}, plainL es = true → (assignEach es env).findIdx? (·.1) = none
  | [], _ => rfl
  | e :: es, h => by
    unfold plainL at h
    rw [List.all_cons, Bool.and_eq_true] at h
    rw [asg1 (by simpa using h.1), List.findIdx?_cons]
    simp [asg_find h.2]
theorem noset_marks {op : CmpOp} {e : Expr} (h : isSet e = false) : behindInMarks op e = false := by
  cases e <;> first | rfl | cases h
theorem noset_fold {e : Expr} (h : isSet e = false) (x : Value) : foldedSetIterable e env x = pure x := by
  cases e <;> first | rfl | cases h
theorem noslice_ix {e : Expr} (h : isSlice e = false) : PlainIx e := by
  intro o i
  cases e <;> first | rfl | cases h
theorem noslice_aug {e : Expr} (h : isSlice e = false) (ov iv new : Value) : augStore e ov iv new = (do holding [new, ov, iv] (setItem ov iv new); release [new, ov, iv] []; pure .next) := by
  cases e <;> first | rfl | cases h
theorem noslice_asg {o e : Expr} {p : Pos} (h : isSlice e = false) (v : Value) : assign (.Subscript o e p) env v = (do
      let ov ← holding [v] (eval o env)
      let iv ← holding [v, ov] (eval e env)
      standAt p
      holding [v, ov, iv] (setItem ov iv v)
      release [v, ov, iv] []) := by
  cases e <;> first | rfl | cases h
theorem nocomp_swap {e : Expr} {t : Option Expr} {l : Nat} (h : isComp e = false) : swapsWith e t l env = pure false := by
  cases e <;> first | rfl | cases h
theorem nocomp_sole {e : Expr} {t : Expr} {l : Nat} (h : isComp e = false) : swapsWithSole [t] e l env = pure false := nocomp_swap h
theorem base_ok {o : Expr} {n : Str} (h : baseOk o = true) : attributeBase o n env (eval o env) = eval o env := by
  unfold attributeBase
  split
  · cases h
  · rfl
end
/-- two names at once -/
def swS (bk : ScopeKind) (kof : Str → Option NameKind) (ts vs : List Expr) : Option (Option (List Str)) :=
  if (!(ts.length == 2 || ts.length == 3) || vs.length != ts.length || bk != .function) = true then some none
  else if (vs.any fun | .Starred .. => true | _ => false) = true then some none
  else if ((ts.filterMap fun
      | .Name id pos => if (kof id == some .local && pos.line == (ts.head?.map (·.pos.line)).getD 0) = true then some id else none
      | _ => none).length != ts.length || (ts.filterMap fun
      | .Name id pos => if (kof id == some .local && pos.line == (ts.head?.map (·.pos.line)).getD 0) = true then some id else none
      | _ => none).eraseDups.length != (ts.filterMap fun
      | .Name id pos => if (kof id == some .local && pos.line == (ts.head?.map (·.pos.line)).getD 0) = true then some id else none
      | _ => none).length) = true then some none
  else if vs.all (foldedForSure 8) = true then some none
  else if vs.all (constantsAlone 8) = true then none
  else some (some (ts.filterMap fun
      | .Name id pos => if (kof id == some .local && pos.line == (ts.head?.map (·.pos.line)).getD 0) = true then some id else none
      | _ => none))
theorem swS_ok {env : PySem.Env} {ts vs : List Expr} {k k2 : Nat} {p p2 : Pos} {r : Option (List Str)} (h : swS env.blockKind env.kindOf ts vs = some r) : swappedStores [.Tuple ts k p] (.Tuple vs k2 p2) env = pure r := by
  unfold swS at h
  unfold swappedStores
  by_cases c : (!(ts.length == 2 || ts.length == 3) || vs.length != ts.length || env.blockKind != .function) = true
  · rw [if_pos c] at h
    cases h
    refine (if_pos ?_).trans ?_
    · exact c
    · rfl
  · rw [if_neg c] at h
    refine (if_neg ?_).trans ?_
    · exact c
    · by_cases c2 : (vs.any fun | .Starred .. => true | _ => false) = true
      · rw [if_pos c2] at h
        cases h
        refine (if_pos ?_).trans ?_
        · exact c2
        · rfl
      · rw [if_neg c2] at h
        refine (if_neg ?_).trans ?_
        · exact c2
        · generalize hn : (ts.filterMap fun
            | .Name id pos => if (env.kindOf id == some .local && pos.line == (ts.head?.map (·.pos.line)).getD 0) = true then some id else none
            | _ => none) = names at h
          by_cases c3 : (names.length != ts.length || names.eraseDups.length != names.length) = true
          · rw [if_pos c3] at h
            cases h
            refine (if_pos ?_).trans ?_
            · rw [← hn] at c3; exact c3
            · rfl
          · rw [if_neg c3] at h
            refine (if_neg ?_).trans ?_
            · rw [← hn] at c3; exact c3
            · by_cases c4 : vs.all (foldedForSure 8) = true
              · rw [if_pos c4] at h
                cases h
                refine (if_pos ?_).trans ?_
                · exact c4
                · rfl
              · rw [if_neg c4] at h
                refine (if_neg ?_).trans ?_
                · exact c4
                · by_cases c5 : vs.all (constantsAlone 8) = true
                  · rw [if_pos c5] at h; cases h
                  · rw [if_neg c5] at h
                    cases h
                    refine (if_neg ?_).trans ?_
                    · exact c5
                    · rw [← hn]; rfl
end TL
/-! The machine's code beside the text: expressions. -/
namespace TL
open PySem PySem.Spec PyProof.Rows L2
/-! ### what is compared -/
def bnames : List Str := ["len", "list", "tuple", "sum", "sorted", "min", "max", "int", "abs", "isinstance", "repr", "range", "enumerate", "zip", "bool", "str", "dict"]
def vis (sc : Scope) (x : Str) : Bool := match sc.names.lookup x with
  | some .local => true
  | some .cell => true
  | some .free => true
  | _ => false
def loc (sc : Scope) (x : Str) : Bool := match sc.names.lookup x with
  | some .local => true
  | some .cell => true
  | _ => false
def gl (sc : Scope) (x : Str) : Bool := decide (sc.names.lookup x = some .globalImplicit) && !(x == ("__debug__" : Str))
def isOp : Bop → Operator → Bool
  | .add, .Add => true
  | .sub, .Sub => true
  | .mul, .Mult => true
  | .fdiv, .FloorDiv => true
  | .mod, .Mod => true
  | _, _ => false
def isCop : Cop → CmpOp → Bool
  | .eq, .Eq => true
  | .ne, .NotEq => true
  | .lt, .Lt => true
  | .le, .LtE => true
  | .gt, .Gt => true
  | .ge, .GtE => true
  | .isin, .In => true
  | .notin, .NotIn => true
  | .iss, .Is => true
  | .isnt, .IsNot => true
  | _, _ => false
theorem isOp_ok {o : Bop} {p : Operator} (h : isOp o p = true) : p = bopOf o := by cases o <;> cases p <;> first | rfl | cases h
theorem isCop_ok {o : Cop} {p : CmpOp} (h : isCop o p = true) : p = copOf o := by cases o <;> cases p <;> first | rfl | cases h
mutual
/-- may stand as a test -/
def tok : Ex → Bool
  | .ife _ _ _ => false
  | .not a => tok a
  | .and es => toks es
  | .or es => toks es
  | _ => true
def toks : List Ex → Bool
  | [] => true
  | e :: es => tok e && toks es
end
mutual
def mG (N : List Str) (st : Str → Bool) : Tg → Expr → Bool
  | .nm i, e => match e with
    | .Name x _ => decide (N[i]? = some x) && st x
    | _ => false
  | .tp ts, e => match e with
    | .Tuple es _ _ => mGs N st ts es && plainL es
    | _ => false
def mGs (N : List Str) (st : Str → Bool) : List Tg → List Expr → Bool
  | [], es => es.isEmpty
  | t :: ts, es => match es with
    | e :: es => mG N st t e && mGs N st ts es
    | [] => false
end
/-- the written arguments of what is walked -/
def iterArgs (sc : Scope) : ItK → Expr → Expr → Option (List Expr)
  | .seq, _, it => if isSet it || isStar it then none else some [it]
  | .rng1, _, it => match it with
    | .Call (.Name x _) [a] [] _ => if decide (x = "range") && gl sc x && plainL [a] then some [a] else none
    | _ => none
  | .rng2, _, it => match it with
    | .Call (.Name x _) [a, b] [] _ => if decide (x = "range") && gl sc x && plainL [a, b] then some [a, b] else none
    | _ => none
  | .enm, t, it => match t with
    | .Tuple _ _ _ => (match it with
      | .Call (.Name x _) [a] [] _ => if decide (x = "enumerate") && gl sc x && plainL [a] then some [a] else none
      | _ => none)
    | _ => none
  | .zip, t, it => match t with
    | .Tuple _ _ _ => (match it with
      | .Call (.Name x _) [a, b] [] _ => if decide (x = "zip") && gl sc x && plainL [a, b] then some [a, b] else none
      | _ => none)
    | _ => none
def ownP (N : List Str) (own : List Nat) : List (Str × Nat) := own.filterMap fun i => (N[i]?).map fun x => (x, i)
def stB (scope : Scope) (x : Str) : Bool := match scope.names.lookup x with
  | some .local => true
  | some .cell => true
  | _ => false
mutual
def mE (N T : List Str) : Ex → Scope → Expr → Bool
  | .var i, sc, e => match e with
    | .Name x _ => decide (N[i]? = some x) && vis sc x && !(x == ("__debug__" : Str)) && !(x == ("__classdict__" : Str))
    | _ => false
  | .non, _, e => match e with
    | .Constant .none _ _ => true
    | _ => false
  | .bl b, _, e => match e with
    | .Constant (.bool c) _ _ => b == c
    | _ => false
  | .int i, _, e => match e with
    | .Constant (.int j) _ _ => decide (i = j)
    | _ => false
  | .str s, _, e => match e with
    | .Constant (.str t) _ _ => decide (s = t)
    | _ => false
  | .bin o a b, sc, e => match e with
    | .BinOp l p r _ => isOp o p && mE N T a sc l && mE N T b sc r
    | _ => false
  | .neg a, sc, e => match e with
    | .UnaryOp .USub x _ => mE N T a sc x
    | _ => false
  | .cmp o a b, sc, e => match e with
    | .Compare l [p] [r] _ => isCop o p && mE N T a sc l && mE N T b sc r && !isSet r
    | _ => false
  | .chn o q a b c, sc, e => match e with
    | .Compare l [p, p2] [r, t] _ => isCop o p && isCop q p2 && mE N T a sc l && mE N T b sc r && mE N T c sc t && !isSet t
    | _ => false
  | .and es, sc, e => match e with
    | .BoolOp .And vs _ => mLs N T es sc vs && plainL vs && !vs.isEmpty
    | _ => false
  | .or es, sc, e => match e with
    | .BoolOp .Or vs _ => mLs N T es sc vs && plainL vs && !vs.isEmpty
    | _ => false
  | .not a, sc, e => match e with
    | .UnaryOp .Not x _ => mE N T a sc x
    | _ => false
  | .ife c a b, sc, e => match e with
    | .IfExp t x y _ => tok c && mE N T c sc t && mE N T a sc x && mE N T b sc y
    | _ => false
  | .tup es, sc, e => match e with
    | .Tuple vs _ _ => mLs N T es sc vs
    | _ => false
  | .star _, _, _ => false
  | .lst es, sc, e => match e with
    | .List vs _ => mLs N T es sc vs
    | _ => false
  | .dct es, sc, e => match e with
    | .Dict ks vs _ => mD N T es sc ks vs && ks.all (·.isSome) && Nat.beq ks.length vs.length && Nat.ble ks.length 15
    | _ => false
  | .idx a i, sc, e => match e with
    | .Subscript x y _ => mE N T a sc x && mE N T i sc y && !isSlice y
    | _ => false
  | .slc a lo hi, sc, e => match e with
    | .Subscript x (.Slice l h none _) _ => mE N T a sc x && mO N T lo sc l && mO N T hi sc h
    | _ => false
  | .call f es, sc, e => match e with
    | .Call (.Name x _) vs [] _ => decide (T[f]? = some x) && gl sc x && mLs N T es sc vs && plainL vs
    | _ => false
  | .bi b es, sc, e => match b with
    | .isinst t => (match e with
      | .Call (.Name x _) [a, .Name y _] [] _ => decide (x = "isinstance") && gl sc x && decide (t < 6) && decide (y = Str.ofString (tyName t)) && gl sc y && decide (y ∈ bnames) && decide (y ≠ "__name__") && !isStar a && mLs N T es sc [a]
      | _ => false)
    | .rev => (match e with
      | .Subscript a (.Slice none none (some (.UnaryOp .USub (.Constant (.int j) _ _) _)) _) _ => decide (j = 1) && !isStar a && mLs N T es sc [a]
      | _ => false)
    | .lrng1 => (match e with
      | .Call (.Name x _) [.Call (.Name y _) [a] [] _] [] _ => decide (x = "list") && gl sc x && decide (y = "range") && gl sc y && !isStar a && mLs N T es sc [a]
      | _ => false)
    | .lrng2 => (match e with
      | .Call (.Name x _) [.Call (.Name y _) [a, a2] [] _] [] _ => decide (x = "list") && gl sc x && decide (y = "range") && gl sc y && !isStar a && !isStar a2 && mLs N T es sc [a, a2]
      | _ => false)
    | b => (match e with
      | .Call (.Name x _) vs [] _ => plainBi b && decide (x = biName b) && gl sc x && mLs N T es sc vs && plainL vs && !vs.isEmpty
      | _ => false)
  | .me m o es, sc, e => match e with
    | .Call (.Attribute x nm apos) vs [] cpos => decide (nm = meName m) && mE N T o sc x && baseOk x && mLs N T es sc vs && plainL vs && Nat.ble vs.length 27 && (apos.endLine == cpos.line)
    | _ => false
  | .comp elt tg k its ifs own, sc, e => match e with
    | .ListComp x [⟨t, it, fs, 0⟩] scope _ => (match iterArgs sc k t it with
      | some args => mLs N T its sc args
      | none => false) && !isSet it && blkC N sc scope (ownP N own) && decide ((ownP N own).map (·.2) = own) && (tg.ix.all fun i => decide (i ∈ own)) && mG N (stB scope) tg t && mE N T elt (relS scope sc) x && toks ifs && plainL fs && Nat.ble fs.length 1 && mLs N T ifs (relS scope sc) fs
    | _ => false
def mLs (N T : List Str) : List Ex → Scope → List Expr → Bool
  | [], _, vs => vs.isEmpty
  | e :: es, sc, vs => match vs with
    | v :: vs => (match e with
      | .star a => (match v with
        | .Starred x _ => mE N T a sc x
        | _ => false)
      | e => mE N T e sc v) && mLs N T es sc vs
    | [] => false
def mD (N T : List Str) : List Ex → Scope → List (Option Expr) → List Expr → Bool
  | [], _, ks, vs => ks.isEmpty && vs.isEmpty
  | [_], _, _, _ => false
  | k :: v :: r, sc, ks, vs => match ks, vs with
    | some x :: ks, y :: vs => mE N T k sc x && mE N T v sc y && mD N T r sc ks vs
    | _, _ => false
def mO (N T : List Str) : Option Ex → Scope → Option Expr → Bool
  | none, _, o => o.isNone
  | some e, sc, o => match o with
    | some x => mE N T e sc x
    | none => false
end
/-! ### the context -/
structure Good (X : Cx) (CX : CXT) (ct : Nat → Option Value) (tr : XK → XK) (Wx : WX) (C : Nat → List W → Hw → R W) (T : List Str) : Prop where
  nd : X.N.Nodup
  hc : X.calm = true
  hu : X.A.units + 65 < cLine
  hg : X.A.guards = some []
  bi : ∀ x ∈ bnames, X.mg x = none
  pa : ∀ σ, PassesAt CX X σ fun c d H => Wx c d σ H
  fns : ∀ i nm, T[i]? = some nm → ∃ k f fd ps, FnG X.prog X.w X.K X.mg X.base CX k f fd ps (spW X.K ct tr C i) ∧ Room k X.A ∧ X.mg nm = some (.ref f) ∧ PySem.W.keepIn X.K (.ref f) = true ∧ Binds X.K fd ps []
  ht : ∀ σ, tr (fun c d H => Wx c d σ H) = fun c d H => Wx c d σ H
  t0 : tr (fun _ _ _ => False) = fun _ _ _ => False
  nx : ∀ outer H s e s', CX outer H s (fun _ _ _ => False) e s' → False
section
variable {X : Cx} {CX : CXT} {ct : Nat → Option Value} {tr : XK → XK} {Wx : WX} {C : Nat → List W → Hw → R W} {T : List Str}
theorem Good.blk (G : Good X CX ct tr Wx C T) (s : Shared) (H : Hp) (scope : Scope) (cenv : PySem.Env) (fp : List Addr) : Good (X.blk s H scope cenv fp) CX ct tr (fun _ _ _ _ => False) C T :=
  ⟨G.nd, G.hc, G.hu, G.hg, G.bi, fun σ pins H s e s' I c => G.nx _ _ _ _ _ c, G.fns, fun _ => G.t0, G.t0, G.nx⟩
theorem vis_ok {sc : Scope} {x : Str} (h : vis sc x = true) : Vis sc x := by
  unfold vis at h
  split at h
  · exact .inl ‹_›
  · exact .inr (.inl ‹_›)
  · exact .inr (.inr ‹_›)
  · cases h
theorem loc_ok {sc : Scope} {x : Str} (h : loc sc x = true) : Loc sc x := by
  unfold loc at h
  split at h
  · exact .inl ‹_›
  · exact .inr ‹_›
  · cases h
theorem gl_ok {x : Str} (h : gl X.env.scope x = true) : Gl X x ∧ (x == ("__debug__" : Str)) = false := by
  unfold gl at h
  rw [Bool.and_eq_true] at h
  exact ⟨(show X.env.scope.names.lookup x = some .globalImplicit from of_decide_eq_true h.1), by simpa using h.2⟩
end
end TL
/-! What is compared keeps its promise: expressions. -/
namespace TL
open PySem PySem.Spec PyProof.Rows L2
section
variable {X : Cx} {CX : CXT} {ct : Nat → Option Value} {tr : XK → XK} {Wx : WX} {C : Nat → List W → Hw → R W} {T : List Str}
abbrev PX (X : Cx) (ct : Nat → Option Value) (Wx : WX) (C : Nat → List W → Hw → R W) (e : Ex) (a : Expr) : Prop := PE X a (tE X.K ct Wx (evE C e)) ∧ (tok e = true → PT X a (tT X.K ct Wx (evT C e)))
theorem both {e : Ex} {a : Expr} (p : PE X a (tE X.K ct Wx (evE C e))) (he : ∀ whole, isTrue a X.env whole = (do let v ← whole; standAt a.pos; holding [v] (truthy v))) : PX X ct Wx C e a := ⟨p, fun _ => w_truth p he⟩
/-! the machine's tests -/
theorem evT_not (a : Ex) (env : Env) (h : Hw) : evT C (.not a) env h = (evT C a env h).bind fun b h1 => .ok (!b) h1 := by
  unfold evT
  simp only [evE]
  cases evE C a env h with
  | err => rfl
  | exc _ _ _ => rfl
  | ok x h1 =>
    simp only [R.bind]
    cases tru h1 x <;> rfl
theorem evT_cmp (o : Cop) (a b : Ex) (env : Env) (h : Hw) : evT C (.cmp o a b) env h = (evE C a env h).bind fun x h1 => (evE C b env h1).bind fun y h2 => okT (cmpOp o x y h2) h2 := by
  unfold evT
  simp only [evE]
  cases evE C a env h with
  | err => rfl
  | exc _ _ _ => rfl
  | ok x h1 =>
    simp only [R.bind]
    cases evE C b env h1 with
    | err => rfl
    | exc _ _ _ => rfl
    | ok y h2 =>
      simp only []
      cases cmpOp o x y h2 <;> rfl
theorem evT_chn (o p : Cop) (a b c : Ex) (env : Env) (h : Hw) : evT C (.chn o p a b c) env h = (evE C a env h).bind fun x h1 => (evE C b env h1).bind fun y h2 => chnT p y (evE C c env) (cmpOp o x y h2) h2 := by
  unfold evT
  simp only [evE]
  cases evE C a env h with
  | err => rfl
  | exc _ _ _ => rfl
  | ok x h1 =>
    simp only [R.bind]
    cases evE C b env h1 with
    | err => rfl
    | exc _ _ _ => rfl
    | ok y h2 =>
      simp only []
      cases cmpOp o x y h2 with
      | none => rfl
      | some k =>
        cases k with
        | false => rfl
        | true =>
          simp only [chnT]
          cases evE C c env h2 with
          | err => rfl
          | exc _ _ _ => rfl
          | ok z h3 =>
            simp only [R.bind]
            cases cmpOp p y z h3 <;> rfl
theorem evT_and1 (e : Ex) (env : Env) (h : Hw) : evT C (.and [e]) env h = evT C e env h := by unfold evT; simp only [evE, evAnd]
theorem evT_or1 (e : Ex) (env : Env) (h : Hw) : evT C (.or [e]) env h = evT C e env h := by unfold evT; simp only [evE, evOr]
theorem evT_and (e e2 : Ex) (es : List Ex) (env : Env) (h : Hw) : evT C (.and (e :: e2 :: es)) env h = (evT C e env h).bind fun k h1 => bif k then evT C (.and (e2 :: es)) env h1 else .ok false h1 := by
  unfold evT
  simp only [evE, evAnd]
  cases evE C e env h with
  | err => rfl
  | exc _ _ _ => rfl
  | ok x h1 =>
    simp only [R.bind]
    cases ex : tru h1 x with
    | none => rfl
    | some k =>
      cases k with
      | true => rfl
      | false => simp only [ex]; rfl
theorem evT_or (e e2 : Ex) (es : List Ex) (env : Env) (h : Hw) : evT C (.or (e :: e2 :: es)) env h = (evT C e env h).bind fun k h1 => bif k then .ok true h1 else evT C (.or (e2 :: es)) env h1 := by
  unfold evT
  simp only [evE, evOr]
  cases evE C e env h with
  | err => rfl
  | exc _ _ _ => rfl
  | ok x h1 =>
    simp only [R.bind]
    cases ex : tru h1 x with
    | none => rfl
    | some k =>
      cases k with
      | false => rfl
      | true => simp only [ex]; rfl
theorem PE.cg {a : Expr} {K : PySem.W.Frag} {m m' : Env → Hw → R W} (p : PE X a (tE K ct Wx m)) (e : ∀ env h, m' env h = m env h) : PE X a (tE K ct Wx m') := by
  have : m' = m := by funext env h; exact e env h
  rw [this]; exact p
theorem PT.cg {a : Expr} {K : PySem.W.Frag} {m m' : Env → Hw → R Bool} (p : PT X a (tT K ct Wx m)) (e : ∀ env h, m' env h = m env h) : PT X a (tT K ct Wx m') := by
  have : m' = m := by funext env h; exact e env h
  rw [this]; exact p
theorem PW.cg {a : Expr} {K : PySem.W.Frag} {m m' : Env → Hw → R Bool} (p : PW X a (tT K ct Wx m)) (e : ∀ env h, m' env h = m env h) : PW X a (tT K ct Wx m') := by
  have : m' = m := by funext env h; exact e env h
  rw [this]; exact p
theorem PA.cg {a : List Expr} {K : PySem.W.Frag} {m m' : Env → Hw → R (List W)} (p : PA X a (tA K ct Wx m)) (e : ∀ env h, m' env h = m env h) : PA X a (tA K ct Wx m') := by
  have : m' = m := by funext env h; exact e env h
  rw [this]; exact p
theorem PO.cg {a : Option Expr} {K : PySem.W.Frag} {m m' : Env → Hw → R (Option Int)} (p : PO X a (tOW K ct Wx m)) (e : ∀ env h, m' env h = m env h) : PO X a (tOW K ct Wx m') := by
  have : m' = m := by funext env h; exact e env h
  rw [this]; exact p
theorem tI.cg {tg it : Expr} {k : ItK} {K : PySem.W.Frag} {m m' : Env → Hw → R (List W)} (p : PI X tg it (tI K ct Wx k m)) (e : ∀ env h, m' env h = m env h) : PI X tg it (tI K ct Wx k m') := by
  have : m' = m := by funext env h; exact e env h
  rw [this]; exact p
theorem mE_star {N T : List Str} {e : Ex} {sc : Scope} {a : Expr} (h : mE N T e sc a = true) : isStar a = false := by
  cases a with
  | Starred _ _ =>
    exfalso
    cases e with
    | bi b es => cases b <;> exact absurd h (by simp [mE])
    | _ => exact absurd h (by simp [mE])
  | _ => rfl
theorem mE_nostar {N T : List Str} {e : Ex} {sc : Scope} {a : Expr} (h : mE N T e sc a = true) : ∀ b, e ≠ .star b := by
  rintro b rfl
  exact absurd h (by simp [mE])
def headM (N T : List Str) (e : Ex) (sc : Scope) (v : Expr) : Bool := match e with
  | .star a => (match v with
    | .Starred x _ => mE N T a sc x
    | _ => false)
  | e => mE N T e sc v
theorem mLs_cons {N T : List Str} {e : Ex} {es : List Ex} {sc : Scope} {v : Expr} {vs : List Expr} : mLs N T (e :: es) sc (v :: vs) = (headM N T e sc v && mLs N T es sc vs) := by cases e <;> rfl
theorem mLs_cnil {N T : List Str} {e : Ex} {es : List Ex} {sc : Scope} : mLs N T (e :: es) sc [] = false := by cases e <;> rfl
theorem mLs_nil {N T : List Str} {sc : Scope} {vs : List Expr} : mLs N T [] sc vs = vs.isEmpty := rfl
theorem headM_ok {N T : List Str} {e : Ex} {sc : Scope} {v : Expr} (h : headM N T e sc v = true) : (∃ a x p, e = .star a ∧ v = .Starred x p ∧ mE N T a sc x = true) ∨ (mE N T e sc v = true ∧ ∀ b, e ≠ .star b) := by
  cases e with
  | star a =>
    cases v with
    | Starred x p => exact .inl ⟨a, x, p, rfl, rfl, h⟩
    | _ => exact absurd h (by simp [headM])
  | _ => exact .inr ⟨h, mE_nostar (N := N) (T := T) (sc := sc) (a := v) h⟩
theorem headM_plain {N T : List Str} {e : Ex} {sc : Scope} {v : Expr} (hv : isStar v = false) (h : headM N T e sc v = true) : mE N T e sc v = true := by
  rcases headM_ok h with ⟨a, x, p, rfl, rfl, _⟩ | ⟨h, _⟩
  · cases hv
  · exact h
theorem evL_cons {e : Ex} (hn : ∀ b, e ≠ .star b) (es : List Ex) (env : Env) (h : Hw) : evL C (e :: es) env h = (evE C e env h).bind fun x h1 => (evL C es env h1).bind fun xs h2 => .ok (x :: xs) h2 := by
  cases e <;> first | exact absurd rfl (hn _) | rfl
/-- a target -/
theorem g_ok {st : Str → Bool} (nd : X.N.Nodup) (hc : X.calm = true) (hst : ∀ x, st x = true → Loc X.env.scope x ∧ (X.fn x = true ∨ X.env.scope.names.lookup x = some .local)) : ∀ (t : Tg) (a : Expr), mG X.N st t a = true → PG X a (tG X.K t) := by
  intro t
  refine Tg.rec (motive_1 := fun t => ∀ a, mG X.N st t a = true → PG X a (tG X.K t)) (motive_2 := fun ts => ∀ es, mGs X.N st ts es = true → plainL es = true → PGs X es (tGs X.K ts) ∧ ts.length = es.length) ?_ ?_ ?_ ?_ t
  · intro i a h
    simp only [mG] at h
    split at h
    · rw [Bool.and_eq_true] at h
      obtain ⟨h1, h2⟩ := hst _ h.2
      exact g_nm nd (of_decide_eq_true h.1) h1 h2
    · cases h
  · intro ts ih a h
    simp only [mG] at h
    split at h
    · rw [Bool.and_eq_true] at h
      obtain ⟨p1, p2⟩ := ih _ h.1 h.2
      exact g_tp hc p1 (asg_len h.2) p2 (asg_find h.2)
    · cases h
  · intro es h _
    simp only [mGs] at h
    cases es with
    | nil => exact ⟨g_nil, rfl⟩
    | cons _ _ => cases h
  · intro t ts ih1 ih2 es h hp
    cases es with
    | nil => simp only [mGs] at h; cases h
    | cons a es =>
      simp only [mGs, Bool.and_eq_true] at h
      unfold plainL at hp
      rw [List.all_cons, Bool.and_eq_true] at hp
      obtain ⟨p1, p2⟩ := ih2 es h.2 hp.2
      refine ⟨g_cons (ih1 a h.1) p1 (by rw [asg1 (by simpa using hp.1)]; rfl), by rw [List.length_cons, List.length_cons, p2]⟩
theorem rangeN : ("range" : Str) ∈ bnames := by decide +kernel
theorem enumN : ("enumerate" : Str) ∈ bnames := by decide +kernel
theorem zipN : ("zip" : Str) ∈ bnames := by decide +kernel
theorem listN : ("list" : Str) ∈ bnames := by decide +kernel
theorem isiN : ("isinstance" : Str) ∈ bnames := by decide +kernel
theorem biN (b : Bi) (h : plainBi b = true) : biName b ∈ bnames := by cases b <;> first | decide +kernel | cases h
/-- what is walked -/
theorem it_ok (G : Good X CX ct tr Wx C T) {k : ItK} {tg it : Expr} {args : List Expr} {its : List Ex} (h : iterArgs X.env.scope k tg it = some args) (hm : mLs X.N T its X.env.scope args = true)
    (ha : PA X args (tA X.K ct Wx (evL C its))) (h1 : ∀ e a, its = [e] → args = [a] → mE X.N T e X.env.scope a = true → PE X a (tE X.K ct Wx (evE C e))) : PI X tg it (tI X.K ct Wx k (evL C its)) := by
  have pl2 : ∀ {a b : Expr}, plainL [a, b] = true → starEach [a, b] X.env = (false, eval a X.env) :: starEach [b] X.env ∧ starEach [b] X.env = [(false, eval b X.env)] := fun {a b} h => by
    unfold plainL at h
    simp only [List.all_cons, List.all_nil, Bool.and_true, Bool.and_eq_true] at h
    exact ⟨star1 (by simpa using h.1), star1 (by simpa using h.2)⟩
  have pl1 : ∀ {a : Expr}, plainL [a] = true → starEach [a] X.env = [(false, eval a X.env)] := fun {a} h => by
    unfold plainL at h
    simp only [List.all_cons, List.all_nil, Bool.and_true] at h
    exact star1 (by simpa using h)
  cases k with
  | seq =>
    simp only [iterArgs] at h
    split at h
    · cases h
    · rename_i c
      cases h
      have c : isStar it = false := by
        cases e : isStar it with
        | false => rfl
        | true => rw [e, Bool.or_true] at c; exact absurd rfl c
      match its, hm, ha, h1 with
      | [], hm, _, _ => rw [mLs_nil] at hm; cases hm
      | [e], hm, ha, h1 =>
        rw [mLs_cons, Bool.and_eq_true] at hm
        have hm1 := headM_plain c hm.1
        exact tI.cg (pi_seqW (h1 e it rfl rfl hm1)) fun env h => by
          rw [evL_cons (mE_nostar hm1)]
          rfl
      | _ :: _ :: _, hm, _, _ => rw [mLs_cons, mLs_cnil, Bool.and_false] at hm; cases hm
  | rng1 =>
    simp only [iterArgs] at h
    split at h
    · split at h
      · rename_i c
        cases h
        simp only [Bool.and_eq_true] at c
        obtain ⟨⟨c1, c2⟩, c3⟩ := c
        obtain ⟨g1, g2⟩ := gl_ok c2
        have c1 := of_decide_eq_true c1
        subst c1
        exact pi_rngW1 g1 (G.bi _ rangeN) ha (pl1 c3)
      · cases h
    · cases h
  | rng2 =>
    simp only [iterArgs] at h
    split at h
    · split at h
      · rename_i c
        cases h
        simp only [Bool.and_eq_true] at c
        obtain ⟨⟨c1, c2⟩, c3⟩ := c
        obtain ⟨g1, g2⟩ := gl_ok c2
        have c1 := of_decide_eq_true c1
        subst c1
        obtain ⟨q1, q2⟩ := pl2 c3
        exact pi_rngW2 g1 (G.bi _ rangeN) ha (by rw [q1, q2]) q2
      · cases h
    · cases h
  | enm =>
    simp only [iterArgs] at h
    split at h
    · split at h
      · split at h
        · rename_i c
          cases h
          simp only [Bool.and_eq_true] at c
          obtain ⟨⟨c1, c2⟩, c3⟩ := c
          obtain ⟨g1, g2⟩ := gl_ok c2
          have c1 := of_decide_eq_true c1
          subst c1
          exact pi_enmW g1 (G.bi _ enumN) ha (pl1 c3)
        · cases h
      · cases h
    · cases h
  | zip =>
    simp only [iterArgs] at h
    split at h
    · split at h
      · split at h
        · rename_i c
          cases h
          simp only [Bool.and_eq_true] at c
          obtain ⟨⟨c1, c2⟩, c3⟩ := c
          obtain ⟨g1, g2⟩ := gl_ok c2
          have c1 := of_decide_eq_true c1
          subst c1
          obtain ⟨q1, q2⟩ := pl2 c3
          exact pi_zipW g1 (G.bi _ zipN) ha q1 (by rw [q2]; rfl)
        · cases h
      · cases h
    · cases h
end
end TL
/-! What is compared keeps its promise: expressions, by their making. -/
namespace TL
open PySem PySem.Spec PyProof.Rows L2
theorem pl_cons {v : Expr} {vs : List Expr} (h : plainL (v :: vs) = true) : isStar v = false ∧ plainL vs = true := by
  unfold plainL at h
  rw [List.all_cons, Bool.and_eq_true] at h
  exact ⟨by simpa using h.1, h.2⟩
def biM (N T : List Str) (b : Bi) (es : List Ex) (sc : Scope) (x : Expr) : Bool := match x with
  | .Call (.Name x _) vs [] _ => plainBi b && decide (x = biName b) && gl sc x && mLs N T es sc vs && plainL vs && !vs.isEmpty
  | _ => false
theorem biM_eq {N T : List Str} {b : Bi} {es : List Ex} {sc : Scope} {x : Expr} (hb : plainBi b = true) : mE N T (.bi b es) sc x = biM N T b es sc x := by cases b <;> first | rfl | cases hb
def isiM (N T : List Str) (t : Nat) (es : List Ex) (sc : Scope) (e : Expr) : Bool := match e with
  | .Call (.Name x _) [a, .Name y _] [] _ => decide (x = "isinstance") && gl sc x && decide (t < 6) && decide (y = Str.ofString (tyName t)) && gl sc y && decide (y ∈ bnames) && decide (y ≠ "__name__") && !isStar a && mLs N T es sc [a]
  | _ => false
def revM (N T : List Str) (es : List Ex) (sc : Scope) (e : Expr) : Bool := match e with
  | .Subscript a (.Slice none none (some (.UnaryOp .USub (.Constant (.int j) _ _) _)) _) _ => decide (j = 1) && !isStar a && mLs N T es sc [a]
  | _ => false
def lr1M (N T : List Str) (es : List Ex) (sc : Scope) (e : Expr) : Bool := match e with
  | .Call (.Name x _) [.Call (.Name y _) [a] [] _] [] _ => decide (x = "list") && gl sc x && decide (y = "range") && gl sc y && !isStar a && mLs N T es sc [a]
  | _ => false
def lr2M (N T : List Str) (es : List Ex) (sc : Scope) (e : Expr) : Bool := match e with
  | .Call (.Name x _) [.Call (.Name y _) [a, a2] [] _] [] _ => decide (x = "list") && gl sc x && decide (y = "range") && gl sc y && !isStar a && !isStar a2 && mLs N T es sc [a, a2]
  | _ => false
theorem isiM_eq {N T : List Str} {t : Nat} {es : List Ex} {sc : Scope} {x : Expr} : mE N T (.bi (.isinst t) es) sc x = isiM N T t es sc x := rfl
theorem revM_eq {N T : List Str} {es : List Ex} {sc : Scope} {x : Expr} : mE N T (.bi .rev es) sc x = revM N T es sc x := rfl
theorem lr1M_eq {N T : List Str} {es : List Ex} {sc : Scope} {x : Expr} : mE N T (.bi .lrng1 es) sc x = lr1M N T es sc x := rfl
theorem lr2M_eq {N T : List Str} {es : List Ex} {sc : Scope} {x : Expr} : mE N T (.bi .lrng2 es) sc x = lr2M N T es sc x := rfl
theorem one_of {N T : List Str} {es : List Ex} {sc : Scope} {a : Expr} (h : mLs N T es sc [a] = true) (ha : isStar a = false) : ∃ e, es = [e] ∧ mE N T e sc a = true := by
  cases es with
  | nil => rw [mLs_nil] at h; cases h
  | cons e r =>
    rw [mLs_cons, Bool.and_eq_true] at h
    cases r with
    | nil => exact ⟨e, rfl, headM_plain ha h.1⟩
    | cons _ _ => rw [mLs_cnil] at h; exact absurd h.2 (by simp)
theorem two_of {N T : List Str} {es : List Ex} {sc : Scope} {a b : Expr} (h : mLs N T es sc [a, b] = true) (ha : isStar a = false) (hb : isStar b = false) : ∃ e f, es = [e, f] ∧ mE N T e sc a = true ∧ mE N T f sc b = true := by
  cases es with
  | nil => rw [mLs_nil] at h; cases h
  | cons e r =>
    rw [mLs_cons, Bool.and_eq_true] at h
    obtain ⟨f, rfl, hf⟩ := one_of h.2 hb
    exact ⟨e, f, rfl, headM_plain ha h.1, hf⟩
theorem PTs.mo {X : Cx} {ifs : List Expr} {t t' : TT} (p : PTs X ifs t) (f : ∀ σ H Q, t' σ H Q → t σ H Q) : PTs X ifs t' := ⟨fun pins s σ H Q I q => p.run pins s σ H Q I (f σ H Q q)⟩
theorem evIfs1 {C : Nat → List W → Hw → R W} (e : Ex) (env : Env) (h : Hw) : evIfs C [e] env h = evT C e env h := by
  simp only [evIfs, evT]
  cases evE C e env h with
  | err => rfl
  | exc _ _ _ => rfl
  | ok x h1 =>
    simp only [R.bind]
    cases tru h1 x with
    | none => rfl
    | some k => cases k <;> rfl
theorem own_ok {N : List Str} {own : List Nat} (h : (ownP N own).map (·.2) = own) {t : Tg} (hix : (t.ix.all fun i => decide (i ∈ own)) = true) : ∀ i ∈ t.ix, i ∈ (ownP N own).map (·.2) := fun i m => by
  rw [h]
  exact of_decide_eq_true (List.all_eq_true.mp hix i m)
theorem stB_ok {X : Cx} {s : Shared} {H : Hp} {scope : Scope} {cl : List (Str × Addr)} {C : Addr} {fp : List Addr} (x : Str) (h : stB scope x = true) :
    Loc (X.blk s H scope (compEnvC scope cl C X.env) fp).env.scope x ∧ ((X.blk s H scope (compEnvC scope cl C X.env) fp).fn x = true ∨ (X.blk s H scope (compEnvC scope cl C X.env) fp).env.scope.names.lookup x = some .local) := by
  unfold stB at h
  have kp : ∀ k, k ≠ .free → scope.names.lookup x = some k → (relS scope X.env.scope).names.lookup x = some k := fun k hk e => lookup_relS_keep hk e
  split at h
  · rename_i e
    have := kp _ (by decide) e
    exact ⟨.inl this, .inr this⟩
  · rename_i e
    have := kp _ (by decide) e
    exact ⟨.inr this, .inl (by show (scope.names.lookup x == some .cell) = true; rw [e]; rfl)⟩
  · cases h
section
variable {CX : CXT} {ct : Nat → Option Value} {tr : XK → XK} {C : Nat → List W → Hw → R W} {T : List Str}
mutual
theorem sE : ∀ (e : Ex) {X : Cx} {Wx : WX} (G : Good X CX ct tr Wx C T) (a : Expr), mE X.N T e X.env.scope a = true → PX X ct Wx C e a
  | .var i, X, Wx, G, a, h => by
    simp only [mE] at h
    split at h
    · simp only [Bool.and_eq_true, Bool.not_eq_true'] at h
      exact both (w_var C (of_decide_eq_true h.1.1.1) (vis_ok h.1.1.2) h.1.2 h.2) fun _ => rfl
    · cases h
  | .non, X, Wx, G, a, h => by
    simp only [mE] at h
    split at h
    · exact both (w_c pe_non (fun _ _ => rfl) fun _ _ => VR.mk_non) fun _ => rfl
    · cases h
  | .bl b, X, Wx, G, a, h => by
    simp only [mE] at h
    split at h
    · have h := eq_of_beq h
      subst h
      exact both (w_c pe_bl (fun _ _ => rfl) fun _ _ => VR.mk_bl) fun _ => rfl
    · cases h
  | .int i, X, Wx, G, a, h => by
    simp only [mE] at h
    split at h
    · have h := of_decide_eq_true h
      subst h
      exact both (w_c pe_int (fun _ _ => rfl) fun _ _ => VR.mk_int) fun _ => rfl
    · cases h
  | .str i, X, Wx, G, a, h => by
    simp only [mE] at h
    split at h
    · have h := of_decide_eq_true h
      subst h
      exact both (w_c pe_str (fun _ _ => rfl) fun _ _ => VR.mk_str) fun _ => rfl
    · cases h
  | .bin o a b, X, Wx, G, x, h => by
    simp only [mE] at h
    split at h
    · simp only [Bool.and_eq_true] at h
      have e := isOp_ok h.1.1
      subst e
      exact both (w_bin o (sE a G _ h.1.2).1 (sE b G _ h.2).1) fun _ => rfl
    · cases h
  | .neg a, X, Wx, G, x, h => by
    simp only [mE] at h
    split at h
    · exact both (w_neg (sE a G _ h).1) fun _ => rfl
    · cases h
  | .cmp o a b, X, Wx, G, x, h => by
    simp only [mE] at h
    split at h
    · simp only [Bool.and_eq_true, Bool.not_eq_true'] at h
      have e := isCop_ok h.1.1.1
      subst e
      have ea := (sE a G _ h.1.1.2).1
      have eb := (sE b G _ h.1.2).1
      exact ⟨w_cmp G.hu o ea eb (noset_marks h.2), fun _ => PT.cg (w_cmpT G.hu o ea eb (noset_marks h.2)) fun env h => evT_cmp o a b env h⟩
    · cases h
  | .chn o q a b c, X, Wx, G, x, h => by
    simp only [mE] at h
    split at h
    · simp only [Bool.and_eq_true, Bool.not_eq_true'] at h
      have e1 := isCop_ok h.1.1.1.1.1
      have e2 := isCop_ok h.1.1.1.1.2
      subst e1 e2
      have ea := (sE a G _ h.1.1.1.2).1
      have eb := (sE b G _ h.1.1.2).1
      have ec := (sE c G _ h.1.2).1
      have mk := noset_marks (op := copOf q) h.2
      exact ⟨w_chn G.hu o q ea eb ec mk, fun _ => PT.cg (w_chnT G.hu o q ea eb ec mk) fun env h => evT_chn o q a b c env h⟩
    · cases h
  | .and es, X, Wx, G, x, h => by
    simp only [mE] at h
    split at h
    · simp only [Bool.and_eq_true, Bool.not_eq_true'] at h
      obtain ⟨p1, p2⟩ := sB es G _ _ h.1.1 h.1.2 h.2
      exact ⟨p1.1, fun t => (p2 (by simpa only [tok] using t)).1.pt⟩
    · cases h
  | .or es, X, Wx, G, x, h => by
    simp only [mE] at h
    split at h
    · simp only [Bool.and_eq_true, Bool.not_eq_true'] at h
      obtain ⟨p1, p2⟩ := sB es G _ _ h.1.1 h.1.2 h.2
      exact ⟨p1.2, fun t => (p2 (by simpa only [tok] using t)).2.pt⟩
    · cases h
  | .not a, X, Wx, G, x, h => by
    simp only [mE] at h
    split at h
    · obtain ⟨p1, p2⟩ := sE a G _ h
      exact ⟨w_not p1, fun t => PT.cg (w_notT (p2 (by simpa only [tok] using t))) fun env h => evT_not a env h⟩
    · cases h
  | .ife c a b, X, Wx, G, x, h => by
    simp only [mE] at h
    split at h
    · simp only [Bool.and_eq_true] at h
      refine ⟨PE.cg (w_ife ((sE c G _ h.1.1.2).2 h.1.1.1) (sE a G _ h.1.2).1 (sE b G _ h.2).1) fun env hw => ?_, fun t => by simp only [tok] at t; cases t⟩
      simp only [evE, evT]
      cases evE C c env hw with
      | err => rfl
      | exc _ _ _ => rfl
      | ok y h1 =>
        simp only [R.bind]
        cases tru h1 y with
        | none => rfl
        | some k => cases k <;> rfl
    · cases h
  | .tup es, X, Wx, G, x, h => by
    simp only [mE] at h
    split at h
    · exact both (w_tup (sL es G _ h)) fun _ => rfl
    · cases h
  | .star _, X, Wx, G, x, h => by
    simp only [mE] at h
    cases h
  | .lst es, X, Wx, G, x, h => by
    simp only [mE] at h
    split at h
    · exact both (w_lst (sL es G _ h)) fun _ => rfl
    · cases h
  | .dct es, X, Wx, G, x, h => by
    simp only [mE] at h
    split at h
    · simp only [Bool.and_eq_true, Bool.not_eq_true'] at h
      obtain ⟨⟨⟨h1, h2⟩, h3⟩, h5⟩ := h
      rename_i ks vs pos
      cases ks with
      | cons k0 ks => exact both (w_dct (sD es G _ _ _ h1) h2 (Nat.eq_of_beq_eq_true h3) (fun z => by cases z) (Nat.le_of_ble_eq_true h5)) fun _ => rfl
      | nil =>
        cases es with
        | nil =>
          cases vs with
          | nil => exact both (w_dct0 (m := evD C []) fun _ _ => rfl) fun _ => rfl
          | cons _ _ => exact absurd h3 (by simp)
        | cons e r => cases r <;> (simp only [mD] at h1; first | cases h1 | (split at h1 <;> cases h1))
    · cases h
  | .idx a i, X, Wx, G, x, h => by
    simp only [mE] at h
    split at h
    · simp only [Bool.and_eq_true, Bool.not_eq_true'] at h
      exact both (w_idx G.hu (sE a G _ h.1.1).1 (sE i G _ h.1.2).1 (noslice_ix h.2)) fun _ => rfl
    · cases h
  | .slc a lo hi, X, Wx, G, x, h => by
    simp only [mE] at h
    split at h
    · simp only [Bool.and_eq_true] at h
      exact both (w_slc (sE a G _ h.1.1).1 (sO lo G _ h.1.2) (sO hi G _ h.2)) fun _ => rfl
    · cases h
  | .call f es, X, Wx, G, x, h => by
    simp only [mE] at h
    split at h
    · rename_i nm p vs pos
      simp only [Bool.and_eq_true] at h
      obtain ⟨⟨⟨h1, h2⟩, h3⟩, h4⟩ := h
      obtain ⟨k, fa, fd, ps, F, hr, hm, hk, hb⟩ := G.fns f _ (of_decide_eq_true h1)
      obtain ⟨g1, g2⟩ := gl_ok h2
      have ha := sL es G vs h3
      cases vs with
      | nil =>
        cases es with
        | nil => exact both (PE.cg (w_call0 F G.ht hr G.hg g1 hm hk hb G.pa g2) fun env h => by simp only [evE, evL]; rfl) fun _ => rfl
        | cons _ _ => rw [mLs_cnil] at h3; cases h3
      | cons v vs =>
        obtain ⟨c1, c2⟩ := pl_cons h4
        exact both (w_call F G.ht hr G.hg g1 hm hk hb G.pa ha g2 (star1 c1) (star_any c2)) fun _ => rfl
    · cases h
  | .bi b es, X, Wx, G, x, h => by
    cases hb : plainBi b with
    | true =>
      rw [biM_eq hb] at h
      unfold biM at h
      split at h
      · rename_i nm p vs pos
        simp only [Bool.and_eq_true, Bool.not_eq_true'] at h
        obtain ⟨⟨⟨⟨⟨_, h1⟩, h2⟩, h3⟩, h4⟩, h5⟩ := h
        have h1 := of_decide_eq_true h1
        subst h1
        obtain ⟨g1, g2⟩ := gl_ok h2
        have ha := sL es G vs h3
        cases vs with
        | nil => cases h5
        | cons v vs =>
          obtain ⟨c1, c2⟩ := pl_cons h4
          exact both (w_bi G.hc G.hu G.hg b hb rfl g1 (G.bi _ (biN b hb)) ha (star1 c1) (star_any c2)) fun _ => rfl
      · cases h
    | false =>
      cases b with
      | isinst t =>
        rw [isiM_eq] at h
        unfold isiM at h
        split at h
        · simp only [Bool.and_eq_true] at h
          obtain ⟨⟨⟨⟨⟨⟨⟨⟨h1, h2⟩, h3⟩, h4⟩, h5⟩, h6⟩, h7⟩, h9⟩, h8⟩ := h
          have h9 := (by simpa using h9 : isStar _ = false)
          obtain ⟨e1, ee, h8⟩ := one_of h8 h9
          · have h1 := of_decide_eq_true h1
            subst h1
            obtain ⟨g1, g2⟩ := gl_ok h2
            obtain ⟨g3, g4⟩ := gl_ok h5
            have p1 := (sE1 es G e1 _ ee h8).1
            refine both (PE.cg (w_isi (of_decide_eq_true h3) g1 (G.bi _ isiN) (of_decide_eq_true h4) g3 (G.bi _ (of_decide_eq_true h6)) (of_decide_eq_true h7) g4 p1 (star1 h9) rfl rfl) fun env hw => ?_) fun _ => rfl
            simp only [evE]
            rw [ee, evL_cons (mE_nostar h8)]
            cases evE C e1 env hw <;> rfl
        · cases h
      | rev =>
        rw [revM_eq] at h
        unfold revM at h
        split at h
        · simp only [Bool.and_eq_true, Bool.not_eq_true'] at h
          obtain ⟨⟨h1, h3⟩, h2⟩ := h
          have h1 := of_decide_eq_true h1
          subst h1
          obtain ⟨e1, ee, h2⟩ := one_of h2 h3
          · have p1 := (sE1 es G e1 _ ee h2).1
            refine both (PE.cg (w_rev p1) fun env hw => ?_) fun _ => rfl
            simp only [evE]
            rw [ee, evL_cons (mE_nostar h2)]
            cases evE C e1 env hw <;> rfl
        · cases h
      | lrng1 =>
        rw [lr1M_eq] at h
        unfold lr1M at h
        split at h
        · simp only [Bool.and_eq_true, Bool.not_eq_true'] at h
          obtain ⟨⟨⟨⟨⟨h1, h2⟩, h3⟩, h4⟩, h5⟩, h6⟩ := h
          have h1 := of_decide_eq_true h1
          have h3 := of_decide_eq_true h3
          subst h1 h3
          obtain ⟨g1, g2⟩ := gl_ok h2
          obtain ⟨g3, g4⟩ := gl_ok h4
          obtain ⟨e1, ee, h6⟩ := one_of h6 h5
          · have p1 := (sE1 es G e1 _ ee h6).1
            refine both (PE.cg (w_lrng1 G.hc g1 (G.bi _ listN) g3 (G.bi _ rangeN) p1 (star1 h5) rfl) fun env hw => ?_) fun _ => rfl
            simp only [evE]
            rw [ee, evL_cons (mE_nostar h6)]
            cases evE C e1 env hw <;> rfl
        · cases h
      | lrng2 =>
        rw [lr2M_eq] at h
        unfold lr2M at h
        split at h
        · simp only [Bool.and_eq_true, Bool.not_eq_true'] at h
          obtain ⟨⟨⟨⟨⟨⟨h1, h2⟩, h3⟩, h4⟩, h5⟩, h5b⟩, h6⟩ := h
          have h1 := of_decide_eq_true h1
          have h3 := of_decide_eq_true h3
          subst h1 h3
          obtain ⟨g1, g2⟩ := gl_ok h2
          obtain ⟨g3, g4⟩ := gl_ok h4
          obtain ⟨e1, e2, ee, h6⟩ := two_of h6 h5 h5b
          · obtain ⟨p1, p2⟩ := sE2 es G e1 e2 _ _ ee h6.1 h6.2
            have p1 := p1.1
            have p2 := p2.1
            refine both (PE.cg (w_lrng2 G.hc g1 (G.bi _ listN) g3 (G.bi _ rangeN) p1 p2 (star1 h5) (star1 h5b) (by rw [star1 h5b]; rfl) rfl) fun env hw => ?_) fun _ => rfl
            simp only [evE]
            rw [ee, evL_cons (mE_nostar h6.1)]
            cases evE C e1 env hw with
            | err => rfl
            | exc _ _ _ => rfl
            | ok y h1 =>
              simp only [R.bind]
              rw [evL_cons (mE_nostar h6.2)]
              cases evE C e2 env h1 <;> rfl
        · cases h
      | _ => cases hb
  | .me m o es, X, Wx, G, x, h => by
    simp only [mE] at h
    split at h
    · rename_i o' nm apos vs cpos
      simp only [Bool.and_eq_true] at h
      obtain ⟨⟨⟨⟨⟨⟨h1, h2⟩, h3⟩, h4⟩, h5⟩, h6⟩, h7⟩ := h
      have h1 := of_decide_eq_true h1
      subst h1
      have po := (sE o G _ h2).1
      have ha := sL es G vs h4
      cases vs with
      | nil =>
        cases es with
        | nil =>
          refine both (PE.cg (w_me0 G.hu m po (base_ok h3) h7) fun env hw => ?_) fun _ => rfl
          simp only [evE, evL]
          rfl
        | cons _ _ => rw [mLs_cnil] at h4; cases h4
      | cons v vs =>
        obtain ⟨c1, c2⟩ := pl_cons h5
        have h6 := Nat.le_of_ble_eq_true h6
        exact both (w_me G.hu m po ha (base_ok h3) (star_all h5) (by simp only [List.length_cons] at h6; omega) h7 (star1 c1) (star_any c2)) fun _ => rfl
    · cases h
  | .comp elt tg k its ifs own, X, Wx, G, x, h => by
    simp only [mE] at h
    split at h
    · rename_i x1 t1 it1 fs1 scope1 pos1
      simp only [Bool.and_eq_true, Bool.not_eq_true'] at h
      obtain ⟨⟨⟨⟨⟨⟨⟨⟨⟨⟨h1, h2⟩, h3⟩, h4⟩, h5⟩, h6⟩, h7⟩, h8⟩, h9⟩, h10⟩, h11⟩ := h
      split at h1
      · rename_i args ei
        have ha := sL its G args h1
        have hi := it_ok G ei h1 ha fun e a e1 e2 he => (sE1 its G e a e1 he).1
        have h4 := of_decide_eq_true h4
        have go := w_lc (Wx := Wx) (pos := pos1) (own := ownP X.N own) G.hc G.nd hi (blkOk_by h3) (own_ok h4 h5) (fun s H Ca cl fp => g_ok (X := X.blk s H scope1 (compEnvC scope1 cl Ca X.env) fp) G.nd G.hc stB_ok tg t1 h6)
          (fun s H Ca cl fp => sI ifs (G.blk s H scope1 (compEnvC scope1 cl Ca X.env) fp) fs1 h8 h9 (Nat.le_of_ble_eq_true h10) h11)
          (fun s H Ca cl fp => (sE elt (G.blk s H scope1 (compEnvC scope1 cl Ca X.env) fp) x1 h7).1) (noset_fold h2)
        refine both (PE.cg go fun env hw => ?_) fun _ => rfl
        simp only [evE]
        rw [h4]
        congr 1
        funext ws hw1
        unfold compK
        cases iterOf k ws hw1 with
        | none => rfl
        | some p => rfl
      · cases h1
    · cases h
termination_by e => sizeOf e
theorem sE1 : ∀ (its : List Ex) {X : Cx} {Wx : WX} (G : Good X CX ct tr Wx C T) (e : Ex) (a : Expr), its = [e] → mE X.N T e X.env.scope a = true → PX X ct Wx C e a
  | [], _, _, _, e, _, q, _ => by cases q
  | e0 :: r, X, Wx, G, e, a, q, h => by
    have q1 : e0 = e := (List.cons.inj q).1
    rw [← q1] at h ⊢
    exact sE e0 G a h
termination_by its => sizeOf its
theorem sE2 : ∀ (its : List Ex) {X : Cx} {Wx : WX} (G : Good X CX ct tr Wx C T) (e f : Ex) (a b : Expr), its = [e, f] → mE X.N T e X.env.scope a = true → mE X.N T f X.env.scope b = true → PX X ct Wx C e a ∧ PX X ct Wx C f b
  | [], _, _, _, e, f, _, _, q, _, _ => by cases q
  | e0 :: r, X, Wx, G, e, f, a, b, q, h, h2 => by
    have q1 : e0 = e := (List.cons.inj q).1
    have q2 : r = [f] := (List.cons.inj q).2
    rw [← q1] at h ⊢
    exact ⟨sE e0 G a h, sE1 r G f b q2 h2⟩
termination_by its => sizeOf its
theorem sL : ∀ (es : List Ex) {X : Cx} {Wx : WX} (G : Good X CX ct tr Wx C T) (vs : List Expr), mLs X.N T es X.env.scope vs = true → PA X vs (tA X.K ct Wx (evL C es))
  | [], X, Wx, G, vs, h => by
    rw [mLs_nil] at h
    cases vs with
    | nil => exact w_nil
    | cons _ _ => cases h
  | e :: es, X, Wx, G, vs, h => by
    cases vs with
    | nil => rw [mLs_cnil] at h; cases h
    | cons v vs =>
      rw [mLs_cons, Bool.and_eq_true] at h
      have hr := sL es G vs h.2
      rcases headM_ok h.1 with ⟨a, x, p, e1, e2, hm⟩ | ⟨hm, hn⟩
      · subst e1 e2
        have p1 := (sE a G x hm).1
        exact w_star p1 hr
      · exact PA.cg (w_cons (sE e G v hm).1 hr (star1 (mE_star hm))) fun env hw => evL_cons hn es env hw
termination_by es => sizeOf es
theorem sB : ∀ (es : List Ex) {X : Cx} {Wx : WX} (G : Good X CX ct tr Wx C T) (vs : List Expr) (pos : Pos), mLs X.N T es X.env.scope vs = true → plainL vs = true → vs.isEmpty = false →
    (PE X (.BoolOp .And vs pos) (tE X.K ct Wx (evE C (.and es))) ∧ PE X (.BoolOp .Or vs pos) (tE X.K ct Wx (evE C (.or es)))) ∧
      (toks es = true → PW X (.BoolOp .And vs pos) (tT X.K ct Wx (evT C (.and es))) ∧ PW X (.BoolOp .Or vs pos) (tT X.K ct Wx (evT C (.or es))))
  | [], X, Wx, G, vs, pos, h, _, hne => by
    rw [mLs_nil] at h
    rw [hne] at h
    cases h
  | e :: es, X, Wx, G, vs, pos, h, hp, hne => by
    cases vs with
    | nil => cases hne
    | cons v vs =>
      rw [mLs_cons, Bool.and_eq_true] at h
      obtain ⟨c1, c2⟩ := pl_cons hp
      have he := headM_plain c1 h.1
      obtain ⟨p1, p2⟩ := sE e G v he
      cases vs with
      | nil =>
        cases es with
        | cons _ _ => rw [mLs_cnil] at h; exact absurd h.2 (by simp)
        | nil =>
          refine ⟨⟨PE.cg (pe_one p1) fun env hw => ?_, PE.cg (pe_one p1) fun env hw => ?_⟩, fun t => ⟨PW.cg (pw_and1 (p2 ?_)) fun env hw => evT_and1 e env hw, PW.cg (pw_or1 (p2 ?_)) fun env hw => evT_or1 e env hw⟩⟩
          · simp only [evE, evAnd]
          · simp only [evE, evOr]
          · simp only [toks, Bool.and_true] at t; exact t
          · simp only [toks, Bool.and_true] at t; exact t
      | cons v2 vs =>
        cases es with
        | nil => rw [mLs_nil] at h; exact absurd h.2 (by simp)
        | cons e2 es =>
          obtain ⟨⟨q1, q2⟩, q3⟩ := sB (e2 :: es) G (v2 :: vs) pos h.2 c2 rfl
          refine ⟨⟨PE.cg (w_and p1 q1) fun env hw => ?_, PE.cg (w_or p1 q2) fun env hw => ?_⟩, fun t => ?_⟩
          · simp only [evE, evAnd]; rfl
          · simp only [evE, evOr]; rfl
          · have t2 : tok e = true ∧ toks (e2 :: es) = true := by
              simp only [toks, Bool.and_eq_true] at t ⊢
              exact t
            obtain ⟨r1, r2⟩ := q3 t2.2
            exact ⟨PW.cg (w_andT (p2 t2.1) r1) fun env hw => evT_and e e2 es env hw, PW.cg (w_orT (p2 t2.1) r2) fun env hw => evT_or e e2 es env hw⟩
termination_by es => sizeOf es
theorem sI : ∀ (ifs : List Ex) {X : Cx} {Wx : WX} (G : Good X CX ct tr Wx C T) (fs : List Expr), toks ifs = true → plainL fs = true → fs.length ≤ 1 → mLs X.N T ifs X.env.scope fs = true → PTs X fs (tT X.K ct Wx (evIfs C ifs))
  | [], X, Wx, G, fs, _, _, _, h => by
    rw [mLs_nil] at h
    cases fs with
    | nil => exact PTs.mo pts_nil fun σ H Q ⟨env, ρ, h, er, l, q⟩ => rd.fine q l
    | cons _ _ => cases h
  | e :: es, X, Wx, G, fs, t, hp, hl, h => by
    cases fs with
    | nil => rw [mLs_cnil] at h; cases h
    | cons v vs =>
      cases vs with
      | cons _ _ => simp only [List.length_cons] at hl; omega
      | nil =>
        rw [mLs_cons, Bool.and_eq_true] at h
        obtain ⟨c1, c2⟩ := pl_cons hp
        cases es with
        | cons _ _ => rw [mLs_cnil] at h; exact absurd h.2 (by simp)
        | nil =>
          have p := (sE e G v (headM_plain c1 h.1)).2 (by simp only [toks, Bool.and_true] at t; exact t)
          exact pts_one (PT.cg p fun env hw => evIfs1 e env hw)
termination_by ifs => sizeOf ifs
theorem sD : ∀ (es : List Ex) {X : Cx} {Wx : WX} (G : Good X CX ct tr Wx C T) (ks : List (Option Expr)) (vs : List Expr) (pos : Pos), mD X.N T es X.env.scope ks vs = true → PD X ct Wx pos ks vs (evD C es)
  | [], X, Wx, G, ks, vs, pos, h => by
    simp only [mD, Bool.and_eq_true] at h
    cases ks with
    | nil =>
      cases vs with
      | nil => exact d_nil
      | cons _ _ => exact absurd h.2 (by simp)
    | cons _ _ => exact absurd h.1 (by simp)
  | [_], X, Wx, G, ks, vs, pos, h => by
    simp only [mD] at h
    cases h
  | k :: v :: r, X, Wx, G, ks, vs, pos, h => by
    simp only [mD] at h
    split at h
    · simp only [Bool.and_eq_true] at h
      exact d_cons (sE k G _ h.1.1).1 (sE v G _ h.1.2).1 (sD r G _ _ _ h.2)
    · cases h
termination_by es => sizeOf es
theorem sO : ∀ (o : Option Ex) {X : Cx} {Wx : WX} (G : Good X CX ct tr Wx C T) (a : Option Expr), mO X.N T o X.env.scope a = true → PO X a (tOW X.K ct Wx (evO C o))
  | none, X, Wx, G, a, h => by
    simp only [mO] at h
    cases a with
    | none => exact w_none
    | some _ => cases h
  | some e, X, Wx, G, a, h => by
    simp only [mO] at h
    cases a with
    | none => cases h
    | some x => exact w_some (sE e G x h).1
termination_by o => sizeOf o
end
end
end TL
/-! What is compared keeps its promise: statements. -/
namespace TL
open PySem PySem.Spec PyProof.Rows L2
def isTup : Expr → Bool
  | .Tuple _ _ _ => true
  | _ => false
theorem notup_sw {env : PySem.Env} {ts : List Expr} {k : Nat} {p : Pos} {v : Expr} (h : isTup v = false) : swappedStores [.Tuple ts k p] v env = pure none := by
  cases v <;> first | rfl | cases h
def bkS (sc : Scope) : ScopeKind := if sc.kind.isAnnotationScope then .function else sc.kind
def parM (N : List Str) (sc : Scope) (tgs : List Tg) (ts vs : List Expr) : Bool := match tgs, ts with
  | [.nm i, .nm j], [.Name x _, .Name y _] => decide (N[i]? = some x) && decide (N[j]? = some y) && !(Nat.beq i j) && decide (sc.names.lookup x = some .local) && decide (sc.names.lookup y = some .local) && Nat.beq vs.length 2 && plainL vs && decide (swS (bkS sc) (fun x => sc.names.lookup x) ts vs = some (some [x, y]))
  | _, _ => false
mutual
def mS (N T : List Str) (rsM : Nat → Stmt → Bool) : St → Scope → Stmt → Bool
  | .set i e, sc, s => match s with
    | .Assign [.Name x px] v _ => decide (N[i]? = some x) && loc sc x && mE N T e sc v && (match v with
      | .ListComp _ _ scope cp => (match e with
        | .comp _ _ _ _ _ _ => (decide (sc.kind = .function) && decide (sc.names.lookup x = some .local) && (px.line == cp.line) && !(scope.names.any fun (n, k) => n == x && (k == .local || k == .cell))) || decide (sc.names.lookup x = some .cell)
        | _ => false)
      | v => !isComp v)
    | _ => false
  | .setT tg e, sc, s => match s with
    | .Assign [.Tuple ts k p] v _ => (match v with
      | .Tuple vs _ _ => (match e with
        | .tup es => mLs N T es sc vs && ((decide (swS (bkS sc) (fun x => sc.names.lookup x) ts vs = some none) && mG N (loc sc) tg (.Tuple ts k p)) || (match tg with
          | .tp tgs => parM N sc tgs ts vs
          | _ => false))
        | _ => false)
      | v => mE N T e sc v && mG N (loc sc) tg (.Tuple ts k p))
    | _ => false
  | .setI a i e, sc, s => match s with
    | .Assign [.Subscript x y _] v _ => mE N T a sc x && mE N T i sc y && mE N T e sc v && !isSlice y && !isComp v
    | _ => false
  | .aug o i e, sc, s => match s with
    | .AugAssign (.Name x _) p v _ => decide (N[i]? = some x) && loc sc x && isOp o p && mE N T e sc v
    | _ => false
  | .augI o a i e, sc, s => match s with
    | .AugAssign (.Subscript x y _) p v _ => isOp o p && mE N T a sc x && mE N T i sc y && mE N T e sc v && !isSlice y
    | _ => false
  | .ex e, sc, s => match s with
    | .Expr v _ => mE N T e sc v && !isComp v
    | _ => false
  | .ite c a b, sc, s => match s with
    | .If t x y _ => tok c && mE N T c sc t && mB N T rsM a sc x && mB N T rsM b sc y
    | _ => false
  | .loop tg k its body, sc, s => match s with
    | .For t it b [] _ => (match iterArgs sc k t it with
      | some args => mLs N T its sc args
      | none => false) && !isSet it && mG N (loc sc) tg t && mB N T rsM body sc b
    | _ => false
  | .whl c body, sc, s => match s with
    | .While t b [] _ => tok c && mE N T c sc t && mB N T rsM body sc b
    | _ => false
  | .ret e, sc, s => match s with
    | .Return (some v) _ => mE N T e sc v
    | _ => false
  | .retN, sc, s => match s with
    | .Return none _ => true
    | _ => false
  | .rse c es, sc, s => es.isEmpty && rsM c s
  | .cont, sc, s => match s with
    | .Continue _ => true
    | _ => false
  | .brk, sc, s => match s with
    | .Break _ => true
    | _ => false
  | .pass, sc, s => match s with
    | .Pass _ => true
    | _ => false
def mB (N T : List Str) (rsM : Nat → Stmt → Bool) : List St → Scope → List Stmt → Bool
  | [], _, ss => ss.isEmpty
  | t :: ts, sc, ss => match ss with
    | s :: ss => mS N T rsM t sc s && mB N T rsM ts sc ss
    | [] => false
end
structure GoodS (X : Cx) (CX : CXT) (ct : Nat → Option Value) (tr : XK → XK) (Wx : XK) (C : Nat → List W → Hw → R W) (T : List Str) (rsM : Nat → Stmt → Bool) : Prop extends Good X CX ct tr (wx Wx) C T where
  fnT : ∀ x, X.fn x = true
  po : PassesOwn (model X.prog X.w) X.A X.env X.xe
  rs : ∀ c s, rsM c s = true → PS X s (tS X.K ct Wx fun _ h => .exc c [] h)
section
variable {CX : CXT} {ct : Nat → Option Value} {tr : XK → XK} {C : Nat → List W → Hw → R W} {T : List Str} {rsM : Nat → Stmt → Bool} {X : Cx} {Wx : XK}
theorem PS.cg {a : Stmt} {m m' : Env → Hw → R (Env × Fl)} (p : PS X a (tS X.K ct Wx m)) (e : ∀ env h, m' env h = m env h) : PS X a (tS X.K ct Wx m') := by
  have : m' = m := by funext env h; exact e env h
  rw [this]; exact p
theorem PSs.cg {a : List Stmt} {m m' : Env → Hw → R (Env × Fl)} (p : PSs X a (tS X.K ct Wx m)) (e : ∀ env h, m' env h = m env h) : PSs X a (tS X.K ct Wx m') := by
  have : m' = m := by funext env h; exact e env h
  rw [this]; exact p
theorem sw_cell {e : Expr} {y : Str} {py : Pos} {l : Nat} (h : X.env.scope.names.lookup y = some .cell) : swapsWith e (some (.Name y py)) l X.env = pure false := by
  have hk : X.env.kindOf y = some .cell := h
  unfold swapsWith
  have z : ∀ (a c d : Bool), (a && (some NameKind.cell == some NameKind.local) && c && d) = false := fun a c d => by cases a <;> rfl
  cases e <;> first
    | rfl
    | (simp only [hk, z]; done)
    | (simp only [hk, z]; rfl)
theorem sw_tup {e : Expr} {ts : List Expr} {k : Nat} {p : Pos} {l : Nat} {env : PySem.Env} : swapsWithSole [.Tuple ts k p] e l env = pure false := by
  cases e <;> rfl
theorem lc_loc {x : Str} (G : GoodS X CX ct tr Wx C T rsM) (h : loc X.env.scope x = true) : Loc X.env.scope x ∧ (X.fn x = true ∨ X.env.scope.names.lookup x = some .local) := ⟨loc_ok h, .inl (G.fnT x)⟩
/-- name = [..] -/
theorem set_lc (G : GoodS X CX ct tr Wx C T rsM) {i : Nat} {y : Str} {py spos cp : Pos} {scope : Scope} {gens : List Comprehension} {x : Expr} {elt : Ex} {tg : Tg} {k : ItK} {its ifs : List Ex} {own : List Nat} (hi : X.N[i]? = some y) (hy : X.env.scope.names.lookup y = some .local) (hk : X.env.scope.kind = .function)
    (hl : (py.line == cp.line) = true) (hn : (scope.names.any fun (n, k) => n == y && (k == .local || k == .cell)) = false) (h : mE X.N T (.comp elt tg k its ifs own) X.env.scope (.ListComp x gens scope cp) = true) :
    PS X (.Assign [.Name y py] (.ListComp x gens scope cp) spos) (tS X.K ct Wx fun env h => (evE C (.comp elt tg k its ifs own) env h).bind fun w h1 => .ok (env.set i (some w), .nx) h1) := by
  simp only [mE] at h
  split at h
  · rename_i x1 t1 it1 fs1 scope1 pos1 hq
    cases hq
    simp only [Bool.and_eq_true, Bool.not_eq_true'] at h
    obtain ⟨⟨⟨⟨⟨⟨⟨⟨⟨⟨h1, h2⟩, h3⟩, h4⟩, h5⟩, h6⟩, h7⟩, h8⟩, h9⟩, h10⟩, h11⟩ := h
    split at h1
    · rename_i args ei
      have ha := sL its G.toGood args h1
      have hi2 := it_ok G.toGood ei h1 ha fun e a e1 e2 he => (sE1 its G.toGood e a e1 he).1
      have h4 := of_decide_eq_true h4
      have go := s_setLc (pos := cp) (spos := spos) (own := ownP X.N own) G.hc G.nd hi hy (sw_true hk hy hl hn) hi2 (blkOk_by h3) (own_ok h4 h5) (fun s H Ca cl fp => g_ok (X := X.blk s H scope (compEnvC scope cl Ca X.env) fp) G.nd G.hc stB_ok tg t1 h6)
        (fun s H Ca cl fp => sI ifs (G.toGood.blk s H scope (compEnvC scope cl Ca X.env) fp) fs1 h8 h9 (Nat.le_of_ble_eq_true h10) h11)
        (fun s H Ca cl fp => (sE elt (G.toGood.blk s H scope (compEnvC scope cl Ca X.env) fp) x h7).1) (noset_fold h2)
      refine PS.cg go fun env hw => ?_
      congr 1
      simp only [evE]
      rw [h4]
      congr 1
      funext ws hw1
      unfold compK
      cases iterOf k ws hw1 with
      | none => rfl
      | some p => rfl
    · cases h1
  · cases h
theorem par_ok (G : GoodS X CX ct tr Wx C T rsM) {tgs : List Tg} {ts vs : List Expr} {es : List Ex} {k k2 : Nat} {p p2 pos : Pos} (h : parM X.N X.env.scope tgs ts vs = true) (hm : mLs X.N T es X.env.scope vs = true) :
    PS X (.Assign [.Tuple ts k p] (.Tuple vs k2 p2) pos) (tS X.K ct Wx fun env h => (evE C (.tup es) env h).bind fun w h1 => asgK (.tp tgs) env w h1) := by
  unfold parM at h
  split at h
  · rename_i i j x px y py
    simp only [Bool.and_eq_true, Bool.not_eq_true'] at h
    obtain ⟨⟨⟨⟨⟨⟨⟨h1, h2⟩, h3⟩, h4⟩, h5⟩, h6⟩, h7⟩, h8⟩ := h
    have hl := Nat.eq_of_beq_eq_true h6
    match vs, hl, h7, h8, hm with
    | [a, b], hl, h7, h8, hm =>
      have ij : i ≠ j := fun e => by
        subst e
        rw [Nat.beq_refl] at h3
        cases h3
      exact s_par G.hc G.nd (of_decide_eq_true h1) (of_decide_eq_true h2) ij (of_decide_eq_true h4) (of_decide_eq_true h5) (sL es G.toGood _ hm) (swS_ok (show swS X.env.blockKind X.env.kindOf _ _ = _ from of_decide_eq_true h8)) rfl
  · cases h
mutual
theorem sS (wf : Nat) (G : GoodS X CX ct tr Wx C T rsM) : ∀ (t : St) (s : Stmt), mS X.N T rsM t X.env.scope s = true → PS X s (tS X.K ct Wx (exS C wf t))
  | .set i e, s, h => by
    simp only [mS] at h
    split at h
    · rename_i x px v pos
      simp only [Bool.and_eq_true] at h
      obtain ⟨⟨⟨h1, h2⟩, h3⟩, h4⟩ := h
      have hi := of_decide_eq_true h1
      obtain ⟨l1, l2⟩ := lc_loc G h2
      split at h4
      · split at h4
        · rw [Bool.or_eq_true] at h4
          rcases h4 with h4 | h4
          · simp only [Bool.and_eq_true, Bool.not_eq_true'] at h4
            obtain ⟨⟨⟨k1, k2⟩, k3⟩, k4⟩ := h4
            exact PS.cg (set_lc G hi (of_decide_eq_true k2) (of_decide_eq_true k1) k3 k4 h3) fun env hw => by simp only [exS]
          · exact PS.cg (s_set G.nd hi l1 (sE _ G.toGood _ h3).1 (sw_cell (of_decide_eq_true h4)) l2) fun env hw => by simp only [exS]
        · cases h4
      · have h4 := (by simpa using h4 : isComp v = false)
        exact PS.cg (s_set G.nd hi l1 (sE e G.toGood v h3).1 (nocomp_swap h4) l2) fun env hw => by simp only [exS]
    · cases h
  | .setT tg e, s, h => by
    simp only [mS] at h
    split at h
    · rename_i ts k p v pos
      split at h
      · rename_i vs k2 p2
        split at h
        · rename_i es
          rw [Bool.and_eq_true, Bool.or_eq_true] at h
          obtain ⟨h1, h2⟩ := h
          rcases h2 with h2 | h2
          · rw [Bool.and_eq_true] at h2
            have hg := g_ok G.nd G.hc (fun x hx => lc_loc G hx) tg _ h2.2
            have pe : PE X (.Tuple vs k2 p2) (tE X.K ct (wx Wx) (evE C (.tup es))) := PE.cg (w_tup (sL es G.toGood vs h1)) fun env hw => by simp only [evE]
            exact PS.cg (s_setT pe hg rfl (swS_ok (show swS X.env.blockKind X.env.kindOf _ _ = _ from of_decide_eq_true h2.1)) rfl) fun env hw => by simp only [exS]; rfl
          · split at h2
            · exact PS.cg (par_ok G h2 h1) fun env hw => by simp only [exS]; rfl
            · cases h2
        · cases h
      · rename_i hne
        simp only [Bool.and_eq_true] at h
        have nt : isTup v = false := by
          cases v with
          | Tuple a b c => exact absurd rfl (hne a b c)
          | _ => rfl
        have hg := g_ok G.nd G.hc (fun x hx => lc_loc G hx) tg _ h.2
        exact PS.cg (s_setT (sE e G.toGood v h.1).1 hg sw_tup (notup_sw nt) rfl) fun env hw => by simp only [exS]; rfl
    · cases h
  | .setI a i e, s, h => by
    simp only [mS] at h
    split at h
    · simp only [Bool.and_eq_true, Bool.not_eq_true'] at h
      obtain ⟨⟨⟨⟨h1, h2⟩, h3⟩, h4⟩, h5⟩ := h
      exact PS.cg (s_setI G.hu (sE a G.toGood _ h1).1 (sE i G.toGood _ h2).1 (sE e G.toGood _ h3).1 (noslice_asg h4) (nocomp_sole h5) rfl rfl) fun env hw => by simp only [exS]; rfl
    · cases h
  | .aug o i e, s, h => by
    simp only [mS] at h
    split at h
    · simp only [Bool.and_eq_true] at h
      obtain ⟨⟨⟨h1, h2⟩, h3⟩, h4⟩ := h
      have e1 := isOp_ok h3
      subst e1
      obtain ⟨l1, l2⟩ := lc_loc G h2
      exact PS.cg (s_aug o G.nd (of_decide_eq_true h1) l1 (sE e G.toGood _ h4).1 l2) fun env hw => by simp only [exS]; rfl
    · cases h
  | .augI o a i e, s, h => by
    simp only [mS] at h
    split at h
    · simp only [Bool.and_eq_true, Bool.not_eq_true'] at h
      obtain ⟨⟨⟨⟨h1, h2⟩, h3⟩, h4⟩, h5⟩ := h
      have e1 := isOp_ok h1
      subst e1
      exact PS.cg (s_augI o G.hu (sE a G.toGood _ h2).1 (sE i G.toGood _ h3).1 (sE e G.toGood _ h4).1 (noslice_aug h5)) fun env hw => by simp only [exS]; rfl
    · cases h
  | .ex e, s, h => by
    simp only [mS] at h
    split at h
    · simp only [Bool.and_eq_true, Bool.not_eq_true'] at h
      exact PS.cg (s_ex (sE e G.toGood _ h.1).1 (nocomp_swap h.2)) fun env hw => by simp only [exS]
    · cases h
  | .ite c a b, s, h => by
    simp only [mS] at h
    split at h
    · simp only [Bool.and_eq_true] at h
      exact PS.cg (s_if ((sE c G.toGood _ h.1.1.2).2 h.1.1.1) (sSs wf G a _ h.1.2) (sSs wf G b _ h.2)) fun env hw => by simp only [exS]
    · cases h
  | .loop tg k its body, s, h => by
    simp only [mS] at h
    split at h
    · simp only [Bool.and_eq_true, Bool.not_eq_true'] at h
      obtain ⟨⟨⟨h1, h2⟩, h3⟩, h4⟩ := h
      split at h1
      · rename_i args ei
        have ha := sL its G.toGood args h1
        have hi2 := it_ok G.toGood ei h1 ha fun e a e1 e2 he => (sE1 its G.toGood e a e1 he).1
        have hg := g_ok G.nd G.hc (fun x hx => lc_loc G hx) tg _ h3
        refine PS.cg (s_for G.po G.hc hi2 hg (sSs wf G body _ h4) (noset_fold h2)) fun env hw => ?_
        simp only [exS]
        congr 1
        funext ws hw1
        unfold loopK
        cases iterOf k ws hw1 with
        | none => rfl
        | some p => rfl
      · cases h1
    · cases h
  | .whl c body, s, h => by
    simp only [mS] at h
    split at h
    · simp only [Bool.and_eq_true] at h
      exact PS.cg (s_whl wf G.po ((sE c G.toGood _ h.1.2).2 h.1.1) (sSs wf G body _ h.2)) fun env hw => by simp only [exS]
    · cases h
  | .ret e, s, h => by
    simp only [mS] at h
    split at h
    · exact PS.cg (s_ret (sE e G.toGood _ h).1) fun env hw => by simp only [exS]
    · cases h
  | .retN, s, h => by
    simp only [mS] at h
    split at h
    · exact PS.cg s_retN fun env hw => by simp only [exS]
    · cases h
  | .rse c es, s, h => by
    simp only [mS, Bool.and_eq_true] at h
    cases es with
    | nil => exact PS.cg (G.rs c s h.2) fun env hw => by simp only [exS, evL]; rfl
    | cons _ _ => exact absurd h.1 (by simp)
  | .cont, s, h => by
    simp only [mS] at h
    split at h
    · exact PS.cg s_cont fun env hw => by simp only [exS]
    · cases h
  | .brk, s, h => by
    simp only [mS] at h
    split at h
    · exact PS.cg s_brk fun env hw => by simp only [exS]
    · cases h
  | .pass, s, h => by
    simp only [mS] at h
    split at h
    · exact PS.cg s_pass fun env hw => by simp only [exS]
    · cases h
termination_by t => sizeOf t
theorem sSs (wf : Nat) (G : GoodS X CX ct tr Wx C T rsM) : ∀ (ts : List St) (ss : List Stmt), mB X.N T rsM ts X.env.scope ss = true → PSs X ss (tS X.K ct Wx (exL C wf ts))
  | [], ss, h => by
    simp only [mB] at h
    cases ss with
    | nil => exact PSs.cg s_nil fun env hw => by simp only [exL]
    | cons _ _ => cases h
  | t :: ts, ss, h => by
    cases ss with
    | nil => simp only [mB] at h; cases h
    | cons s ss =>
      simp only [mB, Bool.and_eq_true] at h
      refine PSs.cg (s_cons (sS wf G t s h.1) (sSs wf G ts ss h.2)) fun env hw => ?_
      simp only [exL]
      first
        | done
        | rfl
termination_by ts => sizeOf ts
end
end
end TL
/-! All defs of a text, level by level; the law's own call. -/
namespace TL
open PySem PySem.Spec PyProof.Rows L2
/-- a def of the text and its code -/
def FI (K : PySem.W.Frag) (mg : Str → Option Value) (tb : List Fn) (T : List Str) (rsM : Nat → Stmt → Bool) (i : Nat) (nm : Str) : Prop :=
  ∃ fn N ps fa fd st, tb[i]? = some fn ∧ fn.ns = N.length ∧ fn.np = ps.length ∧ Fun K nm nm st fa fd ∧ FnScope N ps (defScope st) ∧ mg nm = some (.ref fa) ∧ Binds K fd ps [] ∧ mB N T rsM fn.body (defScope st) (defBody st) = true
def AllFI (K : PySem.W.Frag) (mg : Str → Option Value) (tb : List Fn) (T : List Str) (rsM : Nat → Stmt → Bool) : Nat → List Str → Prop
  | _, [] => True
  | i, nm :: r => FI K mg tb T rsM i nm ∧ AllFI K mg tb T rsM (i + 1) r
theorem AllFI.cons {K : PySem.W.Frag} {mg : Str → Option Value} {tb : List Fn} {T : List Str} {rsM : Nat → Stmt → Bool} {i : Nat} {nm : Str} {L : List Str} (h : FI K mg tb T rsM i nm) (r : AllFI K mg tb T rsM (i + 1) L) : AllFI K mg tb T rsM i (nm :: L) := ⟨h, r⟩
theorem AllFI.at {K : PySem.W.Frag} {mg : Str → Option Value} {tb : List Fn} {T : List Str} {rsM : Nat → Stmt → Bool} : ∀ {L : List Str} {i : Nat}, AllFI K mg tb T rsM i L → ∀ j nm, L[j]? = some nm → FI K mg tb T rsM (i + j) nm
  | [], _, _, j, nm, e => by simp at e
  | x :: r, i, h, 0, nm, e => by simp at e; subst e; exact h.1
  | x :: r, i, h, j + 1, nm, e => by
    have := AllFI.at h.2 j nm (by simpa using e)
    rw [show i + (j + 1) = i + 1 + j by omega]
    exact this
theorem fi_mk {K : PySem.W.Frag} {h : Heap} {mg : Str → Option Value} {tb : List Fn} {T : List Str} {rsM : Nat → Stmt → Bool} (KX : K.In h) (G : h.Ns mainGlobals mg) {i : Nat} {nm : Str} {st : Stmt} {N ps : List Str} {fn : Fn} {fa : Addr} {od an : Option Addr} {sl : Array (Option Value)} {oc kV dc pm cd cr : Value}
    (ht : tb[i]? = some fn) (h1 : fn.ns = N.length) (h2 : fn.np = ps.length) (S : FnScope N ps (defScope st)) (m : mB N T rsM fn.body (defScope st) (defBody st) = true)
    (hb : ∀ (kV doc pm : Value) (an : Option Addr) (cdv ct : Value) (us : List Value), us.length = ps.length → bindArgs (PySem.W.fnOf nm nm (defArgs st) (defBody st) (defScope st) .none kV doc pm an cdv ct) ⟨us, []⟩ = pure (ps.zip us))
    (a : PySem.W.nsIn K mainGlobals nm = some (some (.ref fa))) (l : K.lookup fa = some ⟨oc, od, .func (PySem.W.fnOf nm nm (defArgs st) (defBody st) (defScope st) .none kV dc pm an cd cr), sl⟩) (c : PySem.W.codeIn K cd nm = true) (k : PySem.W.keepIn K (.ref fa) = true) :
    FI K mg tb T rsM i nm := by
  have F := fun_mk (st := st) l c k
  exact ⟨fn, N, ps, fa, _, st, ht, h1, h2, F, S, PySem.W.mg_of KX G a, F.binds hb, m⟩
section
variable {P : Program} {w : World} {K : PySem.W.Frag} {mg : Str → Option Value} {base : Heap} {CX : CXT} {ct : Nat → Option Value} {tr : XK → XK} {tb : List Fn} {wf : Nat} {T : List Str} {rsM : Nat → Stmt → Bool}
theorem levels (hbi : ∀ x ∈ bnames, mg x = none) (t0 : tr (fun _ _ _ => False) = fun _ _ _ => False) (tt : ∀ E, tr (tr E) = tr E) (nx : ∀ outer H s e s', CX outer H s (fun _ _ _ => False) e s' → False)
    (hpa : ∀ (N : List Str) (qual : Str) (scope : Scope) (f : Addr) (cdv : Value) (A : Around) (outer : List PySem.Env) (s : Shared) (H : Hp) (E : XK) (σ : L2.St), PassesAt CX (cxOf CX P w K mg base N qual scope f cdv A outer s H E) σ (tr E))
    (hrs : ∀ (N : List Str) (qual : Str) (scope : Scope) (f : Addr) (cdv : Value) (A : Around) (outer : List PySem.Env) (s : Shared) (H : Hp) (E : XK) (c : Nat) (z : Stmt), rsM c z = true → PS (cxOf CX P w K mg base N qual scope f cdv A outer s H E) z (tS K ct (tr E) fun _ h => .exc c [] h))
    (hF : ∀ i nm, T[i]? = some nm → FI K mg tb T rsM i nm) : ∀ k i nm, T[i]? = some nm → ∃ fa fd ps, FnG P w K mg base CX k fa fd ps (spW K ct tr (callF tb wf k) i) ∧ mg nm = some (.ref fa) ∧ PySem.W.keepIn K (.ref fa) = true ∧ Binds K fd ps []
  | 0, i, nm, hi => by
    obtain ⟨fn, N, ps, fa, fd, st, h1, h2, h3, F, S, hm, hb, m⟩ := hF i nm hi
    refine ⟨fa, fd, ps, ⟨fun vs H Q E q => ?_, fun A outer s H ars us vs Q E _ _ _ _ _ q => ?_⟩, hm, F.kp, hb⟩
    · obtain ⟨ρ, h, ws, _, _, q⟩ := q
      exact absurd q rderr
    · obtain ⟨ρ, h, ws, _, _, q⟩ := q
      exact absurd q rderr
  | k + 1, i, nm, hi => by
    have ih := levels hbi t0 tt nx hpa hrs hF k
    obtain ⟨fn, N, ps, fa, fd, st, h1, h2, h3, F, S, hm, hb, m⟩ := hF i nm hi
    obtain ⟨oc, od, kV, doc, pm, an, cdv, cr, osl, e, lk, hcd⟩ := F.ex
    subst e
    refine ⟨fa, _, ps, defG h1 h2 h3 lk hcd S fun A outer s H E hr hgd => ?_, hm, F.kp, hb⟩
    refine sSs (CX := CX) (tr := tr) (T := T) (rsM := rsM) (X := cxOf CX P w K mg base N nm (defScope st) fa cdv A outer s H E) wf ⟨⟨S.nd, rfl, ?_, hgd, hbi, hpa _ _ _ _ _ _ _ _ _ _, fun j nm2 hj => ?_, fun _ => tt E, t0, nx⟩, fun _ => rfl, PassesOwn.leaving, hrs _ _ _ _ _ _ _ _ _ _⟩ fn.body (defBody st) m
    · have := hr.un
      show (A.deeper _).units + 65 < cLine
      omega
    · obtain ⟨fa2, fd2, ps2, F2, m2, k2, b2⟩ := ih j nm2 hj
      exact ⟨k, fa2, fd2, ps2, F2, hr, m2, k2, b2⟩
/-! ### no exception at all -/
def ctQ : Nat → Option Value := fun _ => some .none
def trQ : XK → XK := fun _ _ _ _ => False
def rsQ (_ : Nat) (s : Stmt) : Bool := match s with
  | .Raise _ _ _ => true
  | _ => false
theorem levelsQ (hbi : ∀ x ∈ bnames, mg x = none) (hF : ∀ i nm, T[i]? = some nm → FI K mg tb T rsQ i nm) : ∀ k i nm, T[i]? = some nm → ∃ fa fd ps, FnG P w K mg base L2.CX0 k fa fd ps (spW K ctQ trQ (callF tb wf k) i) ∧ mg nm = some (.ref fa) ∧ PySem.W.keepIn K (.ref fa) = true ∧ Binds K fd ps [] :=
  levels hbi rfl (fun _ => rfl) (fun _ _ _ _ _ z => z) (fun _ _ _ _ _ _ _ _ _ _ _ _ _ _ _ _ _ z => z.elim) (fun _ _ _ _ _ _ _ _ _ _ c z hz => PS.mo ps_never fun D σ H ⟨env, ρ, h, er, l, q⟩ => q ρ H .none none Stp.refl l ⟨rfl, rfl, rfl⟩) hF
end

/-! ### the law's own call -/
theorem call_law {P : Program} {w : World} {K : PySem.W.Frag} {mg mb : Str → Option Value} {CX : CXT} {k : Nat} {fa a : Addr} {sp : Sp} {sq : Shared} {vs : List Value} {ns : List Int}
    (kq : K.In sq.heap) (gq : sq.heap.Ns mainGlobals mg) (bq : sq.heap.Ns builtinsNs mb) (bb : ∀ x : Str, x ≠ "__name__" → mb x = bootBuiltins x) (lq : sq.heap.NoLimit) (nogen : sq.gens = #[])
    (oa : sq.heap.get? a = some { cls := .type "list", data := .seq vs.toArray }) (isq : IntsAre vs ns) (few : ns.length ≤ sizeLine) (room : Room k callerA)
    (F : ∀ bs : Heap, K.In bs → bs.Ns mainGlobals mg → ∃ fd ps, FnG P w K mg bs CX k fa fd ps sp ∧ Binds K fd ps [])
    (keeps : ∀ H : Hp, Only H → SqL K H a (ns.map V.int) → sp [.ref a] H (fun v _ => v = .bl true) fun _ _ _ => False) (noCX : ∀ H e s', CX [] H sq (fun _ _ _ => False) e s' → False) :
    codeAny (model P w) callerA (.call (.ref fa) ⟨[.ref a], []⟩) (fun r s' => r = .ok (.ret (.bool true)) ∧ OldK sq.heap s'.heap ∧ s'.os = sq.os ∧ AllBare s'.gens) sq := by
  have vv := vals_ints isq
  have vl := isq.length
  have inner : ∀ H : Hp, Only H → SqL K H a (ns.map V.int) → HOk P w H sq.heap → (∀ b, H b ≠ none → b = a) → (H a ≠ none → K.lookup a = none) →
      codeAny (model P w) callerA (.call (.ref fa) ⟨[.ref a], []⟩) (fun r s' => r = .ok (.ret (.bool true)) ∧ OldK sq.heap s'.heap ∧ s'.os = sq.os ∧ AllBare s'.gens) sq := by
    intro H only sl okH atA unK
    have toB : ∀ {b : Addr} {o : Obj}, sq.heap.get? b = some o → H b = none → (hidT sq.heap H).get? b = some o := fun z n => hidT_get z n
    have dictNo : ∀ {b : Addr} {o : Obj} {es : Array DictEntry} {ep : Nat}, sq.heap.get? b = some o → o.data = .dict es ep → H b = none := fun {b o es ep} z d => by
      cases hb : H b with
      | none => rfl
      | some u =>
        have eb : b = a := atA b (by rw [hb]; simp)
        subst eb
        rw [oa] at z; cases z
        exact absurd (show Data.seq vs.toArray _ = Data.dict es ep from d) (by simp)
    have nsB : ∀ {b : Addr} {m : Str → Option Value}, sq.heap.Ns b m → (hidT sq.heap H).Ns b m := fun {b m} ⟨o, es, ep, z, d, r⟩ => ⟨o, es, ep, toB z (dictNo z d), d, r⟩
    have kB : K.In (hidT sq.heap H) := fun b o z => toB (kq b o z) (by
      cases hb : H b with
      | none => rfl
      | some u =>
        have eb : b = a := atA b (by rw [hb]; simp)
        subst eb
        rw [unK (by rw [hb]; simp)] at z; cases z)
    have md : Mod K mg (hidT sq.heap H) := ⟨kB, nsB gq, ⟨mb, nsB bq, bb⟩, let ⟨mc, z1, z2⟩ := lq; ⟨mc, nsB z1, z2⟩⟩
    have en : Env0 P w K mg (hidT sq.heap H) callerA [] sq H := ⟨rfl, md, fun b o z => of_hidT z, Nat.le_of_eq (hidT_size _ _), trivial, fun b z => absurd (show b ∈ ([] : List Addr) from z) (by simp), okH, .of_eq nogen⟩
    obtain ⟨fd, ps, F1, bd⟩ := F _ kB (nsB gq)
    have ln := F1.len _ _ _ _ (keeps H only sl)
    have bd := bd sq [.ref a] kq (by rw [List.append_nil]; exact ln)
    rw [List.append_nil] at bd
    refine codeAny_mono (F1.run callerA [] sq H ⟨[.ref a], []⟩ [.ref a] [.ref a] _ _ room rfl en bd (.cons rfl .nil) (keeps H only sl)) fun r s' res => ?_
    match r, res with
    | .error e, res => exact (noCX H e s' res).elim
    | .ok .next, res => exact False.elim res
    | .ok .brk, res => exact False.elim res
    | .ok .cont, res => exact False.elim res
    | .ok (.ret u), res =>
      obtain ⟨v, H', so, bare, un, okH', rv, qv⟩ := res
      have qv : v = .bl true := qv
      subst qv
      obtain rfl : u = Value.bool true := rv
      refine ⟨rfl, OldK.of_keep fun b o z => ?_, so, bare⟩
      cases hb : H b with
      | none => exact un.keep b o z hb (by intro t; exact absurd (show b ∈ ([] : List Addr) from t) (by simp)) (by simp)
      | some u =>
        rcases only b with t | ⟨ob, xs, t⟩
        · rw [hb] at t; cases t
        · have t2 := un.frzs b ob _ t
          obtain ⟨g1, _⟩ := okH b _ t
          obtain ⟨g2, _⟩ := okH' b _ t2
          rw [z] at g1; cases g1
          exact g2
  cases hk : K.lookup a with
  | some o =>
    have z := kq a o hk
    rw [oa] at z
    cases z
    exact inner (fun _ => none) (fun _ => .inl rfl) (.inr ⟨_, vs.toArray, _, hk, rfl, rfl, rfl, by rw [List.size_toArray, vl]; exact few, by simpa using vv⟩) (fun b u t => by cases (show (none : Option HO) = some u from t)) (fun b t => absurd rfl t) fun t => absurd rfl t
  | none =>
    refine inner (fun b => if b = a then some (.frz { cls := .type "list", data := .seq vs.toArray } (.lst (ns.map V.int))) else none) (fun b => ?_) (.inl (.inr ⟨{ cls := .type "list", data := .seq vs.toArray }, if_pos rfl⟩)) (fun b u t => ?_) (fun b t => ?_) fun _ => hk
    · by_cases hb : b = a
      · exact .inr ⟨_, _, if_pos hb⟩
      · exact .inl (if_neg hb)
    · by_cases hb : b = a
      · have t' := (if_pos hb).symm.trans t
        cases t'
        subst hb
        exact ⟨oa, by rw [List.length_map]; exact few, vs, _, vv, oa⟩
      · cases (if_neg hb).symm.trans t
    · by_cases hb : b = a
      · exact hb
      · exact absurd (if_neg hb) t
theorem only_frl {K : PySem.W.Frag} {H : Hp} {a : Addr} {ns : List Int} (only : Only H) (sl : SqL K H a (ns.map V.int)) : VRs K [] H [.frl (ns.map W.int)] [.ref a] := by
  refine VRs.cons_iff.mpr ⟨_, _, rfl, ?_, VRs.nil_iff.mpr rfl⟩
  unfold VR
  refine ⟨a, ns.map V.int, rfl, ?_, ?_⟩
  · rcases sl with (z | z) | z
    · rcases only a with t | ⟨o, xs, t⟩
      · rw [z] at t; cases t
      · rw [z] at t; cases t
    · exact .inl z
    · exact .inr z
  · clear sl
    induction ns with
    | nil => exact VRs.nil_iff.mpr rfl
    | cons n r ih => exact VRs.cons_iff.mpr ⟨_, _, rfl, VR.mk_int, ih⟩
/-- what is left behind the head: the machine answers True -/
theorem walk_m {l : PySem.W.OpenLaw} {n k : Nat} {q : Program} {loose : List Str} {XP : (Str → Option Value) → Heap → Prop} {YP : World → Heap → Prop} {d : DefRec} {K : Params → PySem.W.Frag} {tb : List Fn} {wf : Nat} {T : List Str} {il : Nat}
    (hn : l.most = some n) (hn2 : n ≤ sizeLine) (hdf : d.params.defaults = []) (hr : Room k callerA) (hY : ∀ (w : World) (h : Heap), YP w h → (K w.params).In h) (hil : T[il]? = some d.name)
    (F : ∀ (w : World) (mg : Str → Option Value) (h : Heap), (K w.params).In h → h.Ns mainGlobals mg → (∀ y ∈ bnames, mg y = none) ∧ AllFI (K w.params) mg tb T rsQ 0 T)
    (run : ∀ ns : List Int, ns.length ≤ n → ∃ g, callF tb wf k il [.frl (ns.map W.int)] Hw.nil = .ok (.bl true) g) :
    PySem.W.WalkO q loose XP YP l.row.toRowW d [] (fun f vs => PySem.call f vs) := by
  refine Att.attach_call hn hdf fun w s₀ sq mg mb fa o pm cd doc a vs ns G Y ho hd hcd hmg hobj hints hlen hg => ?_
  have kq := hY w _ Y
  obtain ⟨hb, hF⟩ := F w mg _ kq G.T.g
  refine call_law (CX := L2.CX0) (sp := spW (K w.params) ctQ trQ (callF tb wf k) il) kq G.T.g G.T.b G.T.builtins G.T.nolimit hg hobj hints (Nat.le_trans hlen hn2) hr (fun bs kB gB => ?_) (fun H only sl => ?_) (fun H e s' z => z)
  · obtain ⟨fa2, fd, ps, F1, m1, _, b1⟩ := levelsQ (P := l.prog) (w := w) (base := bs) hb (fun i nm hi => by
      have := AllFI.at hF i nm hi
      rw [Nat.zero_add] at this
      exact this) k il d.name hil
    rw [hmg] at m1
    cases m1
    exact ⟨fd, ps, F1, b1⟩
  · obtain ⟨g, e⟩ := run ns hlen
    refine ⟨[], Hw.nil, [.frl (ns.map W.int)], Rel.nil, only_frl only sl, ?_⟩
    rw [e]
    exact fun ρ' H' s' l' v qv => qv.nodep_bl
end TL
/-! The laws' own source of numbers: what is drawn from it. -/
namespace TL
open PySem
def srcIR : List St := [(.set 1 (.int 11)),
  (.loop (.nm 2) .seq [(.var 0)] [(.set 1 (.bin .mod (.bi .int [(.bin .add (.bin .add (.bin .mul (.var 1) (.int 69069)) (.bin .mul (.var 2) (.int 31))) (.int 5))]) (.int 2147483629)))]),
  (.ret (.dct [(.str "cells"), (.bi .rev [(.comp (.bi .abs [(.var 2)]) (.nm 2) .seq [(.var 0)] [] [2])]), (.str "left"), (.int 1), (.str "mixed"), (.var 1), (.str "turn"), (.int 0)]))]
def pickC : Ex := .and [(.cmp .gt (.var 1) (.int 1)), (.cmp .lt (.idx (.var 0) (.str "left")) (.int 2)), (.cmp .gt (.bi .len [(.idx (.var 0) (.str "cells"))]) (.int 0))]
def pickB : List St := [(.setI (.var 0) (.str "left") (.me .pop (.idx (.var 0) (.str "cells")) []))]
def pickIR : List St := [(.whl pickC pickB),
  (.set 2 (.idx (.var 0) (.str "left"))),
  (.ite (.or [(.cmp .lt (.var 1) (.int 2)), (.cmp .gt (.var 2) (.int 1))]) [(.setI (.var 0) (.str "left") (.bin .fdiv (.var 2) (.bi .max2 [(.int 1), (.var 1)]))), (.ret (.bin .mod (.bi .int [(.var 2)]) (.bi .max2 [(.int 1), (.var 1)])))] []),
  (.setI (.var 0) (.str "turn") (.bin .add (.idx (.var 0) (.str "turn")) (.int 1))),
  (.set 3 (.bin .mod (.bi .int [(.bin .add (.idx (.var 0) (.str "mixed")) (.bin .mul (.idx (.var 0) (.str "turn")) (.int 104729)))]) (.int 998244353))),
  (.set 3 (.bin .mod (.bi .int [(.bin .add (.bin .mul (.var 3) (.var 3)) (.bin .mul (.idx (.var 0) (.str "turn")) (.int 17)))]) (.int 2147483647))),
  (.setI (.var 0) (.str "mixed") (.var 3)),
  (.ret (.bin .mod (.bi .int [(.bin .fdiv (.var 3) (.int 16))]) (.var 1)))]
/-- the source's dict -/
def dS (c : Nat) (l m t : Int) : List (L2.Key × W) := [(.inr "cells", .ref c), (.inr "left", .int l), (.inr "mixed", .int m), (.inr "turn", .int t)]
section
variable {c : Nat} {l m t x : Int} {w : W}
theorem kf_cells : kFind (dS c l m t) (.inr "cells") = some (.ref c) := by kernel_rfl
theorem kf_left : kFind (dS c l m t) (.inr "left") = some (.int l) := by kernel_rfl
theorem kf_mixed : kFind (dS c l m t) (.inr "mixed") = some (.int m) := by kernel_rfl
theorem kf_turn : kFind (dS c l m t) (.inr "turn") = some (.int t) := by kernel_rfl
theorem kp_left : kPut (dS c l m t) (.inr "left") (.int x) = dS c x m t := by kernel_rfl
theorem kp_mixed : kPut (dS c l m t) (.inr "mixed") (.int x) = dS c l x t := by kernel_rfl
theorem kp_turn : kPut (dS c l m t) (.inr "turn") (.int x) = dS c l m x := by kernel_rfl
end
structure SH (h : Hw) (r c : Nat) (cs : List Int) (l m t : Int) : Prop where
  ne : r ≠ c
  d : h.get r = some (.dct (dS c l m t))
  s : h.get c = some (.lst (cs.map W.int))
section
variable {C : Nat → List W → Hw → R W} {env : Env} {h : Hw} {r c : Nat} {cs : List Int} {l m t : Int} {k : Str} {w : W}
theorem ev_var {i : Nat} (e : env[i]? = some (some w)) : evE C (.var i) env h = .ok w h := by simp only [evE, e]
theorem ev_fld (e : env[0]? = some (some (.ref r))) (sh : SH h r c cs l m t) (f : kFind (dS c l m t) (.inr k) = some w) : evE C (.idx (.var 0) (.str k)) env h = .ok w h := by
  simp only [evE, e, R.bind, idxOp, sh.d, keyOf, f]
theorem set_fld (sh : SH h r c cs l m t) {l' m' t' : Int} {x : W} (f : kPut (dS c l m t) (.inr k) x = dS c l' m' t') : setOp (.ref r) (.str k) x h = some (h.set r (.dct (dS c l' m' t'))) ∧ SH (h.set r (.dct (dS c l' m' t'))) r c cs l' m' t' := by
  refine ⟨?_, sh.ne, Hw.set_same _ _ _, by rw [Hw.set_ne _ _ sh.ne]; exact sh.s⟩
  simp only [setOp, sh.d, keyOf, f]
  rfl
theorem ok_bind {α β : Type} {a : α} {f : α → Hw → R β} : (R.ok a h).bind f = f a h := rfl
theorem atEnd {xs : List Int} {y : Int} : ((xs ++ [y]).map W.int)[((xs ++ [y]).map W.int).length - 1]? = some (.int y) := by simp
theorem ev_int {i : Int} : evE C (.int i) env h = .ok (.int i) h := rfl
theorem ev_bin {o : Bop} {a b : Ex} : evE C (.bin o a b) env h = (evE C a env h).bind fun x h1 => (evE C b env h1).bind fun y h2 => binOp o x y h2 := rfl
theorem ev_bi {b : Bi} {es : List Ex} : evE C (.bi b es) env h = (evL C es env h).bind fun ws h1 => biOp b ws h1 := rfl
theorem ev_l0 : evL C [] env h = .ok [] h := rfl
theorem ev_l {e : Ex} {es : List Ex} (hn : ∀ b, e ≠ .star b) : evL C (e :: es) env h = (evE C e env h).bind fun x h1 => (evL C es env h1).bind fun xs h2 => .ok (x :: xs) h2 := evL_cons hn es env h
theorem ex_l0 {wf : Nat} : exL C wf [] env h = .ok (env, .nx) h := rfl
theorem ex_l {wf : Nat} {t : St} {ts : List St} {env' : Env} {h' : Hw} (e : exS C wf t env h = .ok (env', .nx) h') : exL C wf (t :: ts) env h = exL C wf ts env' h' := by simp only [exL]; rw [e]; rfl
theorem ex_ret {wf : Nat} {t : St} {ts : List St} {env' : Env} {w : W} {h' : Hw} (e : exS C wf t env h = .ok (env', .rt w) h') : exL C wf (t :: ts) env h = .ok (env', .rt w) h' := by simp only [exL]; rw [e]; rfl
theorem exs_set {wf i : Nat} {e : Ex} {h' : Hw} (q : evE C e env h = .ok w h') : exS C wf (.set i e) env h = .ok (env.set i (some w), .nx) h' := by simp only [exS]; rw [q]; rfl
theorem exs_ret {wf : Nat} {e : Ex} {h' : Hw} (q : evE C e env h = .ok w h') : exS C wf (.ret e) env h = .ok (env, .rt w) h' := by simp only [exS]; rw [q]; rfl
theorem exs_fld {wf : Nat} {e : Ex} {h1 h2 : Hw} (q : evE C e env h = .ok w h1) (e0 : env[0]? = some (some (.ref r))) (q2 : setOp (.ref r) (.str k) w h1 = some h2) : exS C wf (.setI (.var 0) (.str k) e) env h = .ok (env, .nx) h2 := by
  have ev : ∀ h, evE C (.var 0) env h = .ok (.ref r) h := fun h => ev_var e0
  have es : ∀ h, evE C (.str k) env h = .ok (.str k) h := fun h => rfl
  simp only [exS]
  rw [q, ok_bind, ev, ok_bind, es, ok_bind, q2]
theorem cond_ok (e0 : env[0]? = some (some (.ref r))) {many : Int} (e1 : env[1]? = some (some (.int many))) (sh : SH h r c cs l m t) : evT C pickC env h = .ok (decide (1 < many) && (decide (l < 2) && decide (0 < cs.length))) h := by
  have a1 : evT C (.cmp .gt (.var 1) (.int 1)) env h = .ok (decide (1 < many)) h := by rw [evT_cmp, ev_var e1, ok_bind, ev_int, ok_bind]; rfl
  have a2 : evT C (.cmp .lt (.idx (.var 0) (.str "left")) (.int 2)) env h = .ok (decide (l < 2)) h := by rw [evT_cmp, ev_fld e0 sh kf_left, ok_bind, ev_int, ok_bind]; rfl
  have a3 : evT C (.cmp .gt (.bi .len [(.idx (.var 0) (.str "cells"))]) (.int 0)) env h = .ok (decide (0 < cs.length)) h := by
    rw [evT_cmp, ev_bi, ev_l (by intro b z; cases z), ev_fld e0 sh kf_cells, ok_bind, ev_l0, ok_bind, ok_bind]
    simp only [biOp, sh.s, ok_bind, List.length_map]
    rw [ev_int, ok_bind]
    show R.ok (decide ((0 : Int) < (cs.length : Nat))) h = _
    congr 1
    by_cases z : 0 < cs.length
    · rw [decide_eq_true z, decide_eq_true (by omega)]
    · rw [decide_eq_false z, decide_eq_false (by omega)]
  unfold pickC
  rw [evT_and, a1, ok_bind]
  cases decide (1 < many) with
  | false => rfl
  | true =>
    rw [cond_true, evT_and, a2, ok_bind]
    cases decide (l < 2) with
    | false => rfl
    | true => rw [cond_true, evT_and1, a3]; rfl
theorem whl_ok (wf : Nat) (e0 : env[0]? = some (some (.ref r))) {many : Int} (e1 : env[1]? = some (some (.int many))) : ∀ (n : Nat) (cs : List Int) (l : Int) (h : Hw), cs.length < n → SH h r c cs l m t →
    ∃ cs' l' h', whlS (evT C pickC) (exL C wf pickB) n env h = .ok (env, .nx) h' ∧ SH h' r c cs' l' m t ∧ cs'.length ≤ cs.length
  | 0, _, _, _, hl, _ => absurd hl (Nat.not_lt_zero _)
  | n + 1, cs, l, h, hl, sh => by
    unfold whlS
    rw [cond_ok e0 e1 sh, ok_bind]
    cases hc : (decide (1 < many) && (decide (l < 2) && decide (0 < cs.length))) with
    | false => exact ⟨cs, l, h, rfl, sh, Nat.le_refl _⟩
    | true =>
      simp only [Bool.and_eq_true, decide_eq_true_eq] at hc
      have hpos := hc.2.2
      obtain ⟨ys, y, rfl⟩ : ∃ ys y, cs = ys ++ [y] := ⟨cs.dropLast, cs.getLast (by intro z; rw [z] at hpos; cases hpos), (List.dropLast_concat_getLast _).symm⟩
      have sh1 : SH (h.set c (.lst (ys.map W.int))) r c ys l m t := ⟨sh.ne, by rw [Hw.set_ne _ _ (Ne.symm sh.ne)]; exact sh.d, Hw.set_same _ _ _⟩
      obtain ⟨s1, s2⟩ := set_fld sh1 (kp_left (x := y))
      have body : exL C wf pickB env h = .ok (env, .nx) ((h.set c (.lst (ys.map W.int))).set r (.dct (dS c y m t))) := by
        have em : meOp .pop (.ref c) [] h = .ok (.int y) (h.set c (.lst (ys.map W.int))) := by
          simp only [meOp, sh.s, atEnd]
          rw [List.map_append]
          simp
        have ep : evE C (.me .pop (.idx (.var 0) (.str "cells")) []) env h = .ok (.int y) (h.set c (.lst (ys.map W.int))) := by
          show (evE C (.idx (.var 0) (.str "cells")) env h).bind (fun x h1 => bif recvOk .pop x h1 then (evL C [] env h1).bind fun ws h2 => meOp .pop x ws h2 else .err) = _
          rw [ev_fld e0 sh kf_cells, ok_bind]
          have rc : recvOk .pop (.ref c) h = true := by simp only [recvOk, sh.s]
          rw [rc, cond_true, ev_l0, ok_bind, em]
        unfold pickB
        rw [ex_l (exs_fld ep e0 s1), ex_l0]
      rw [cond_true, body, ok_bind]
      obtain ⟨cs', l', h', q1, q2, q3⟩ := whl_ok wf e0 e1 n ys y _ (by rw [List.length_append] at hl; simp at hl; omega) s2
      exact ⟨cs', l', h', q1, q2, by rw [List.length_append]; omega⟩
theorem fmod_in {a b : Int} (hb : 0 < b) : 0 ≤ a.fmod b ∧ a.fmod b < b := ⟨Int.fmod_nonneg_of_pos a hb, Int.fmod_lt_of_pos a hb⟩
theorem small_of {i : Int} (h : i.natAbs ≤ 18446744073709551615) : small i = true := Nat.ble_eq_true_of_le h
theorem mul_c {i j : Int} (h : small j = true) : binOp .mul (.int i) (.int j) = fun hh => R.ok (W.int (i * j)) hh := by
  funext hh
  show (bif small i || small j then R.ok (W.int (i * j)) hh else .err) = _
  rw [h, Bool.or_true]; rfl
theorem pick_ok (wf : Nat) (sh : SH h r c cs l m t) {many : Int} (h1 : 1 ≤ many) (h2 : many < 1073741824) (hw : cs.length < wf) :
    ∃ p h', runF C wf ⟨2, 4, pickIR⟩ [.ref r, .int many] h = .ok (.int p) h' ∧ 0 ≤ p ∧ p < many ∧ ∃ cs' l' m' t', SH h' r c cs' l' m' t' ∧ cs'.length ≤ cs.length := by
  show ∃ p h', (exL C wf pickIR [some (.ref r), some (.int many), none, none] h).bind outF = .ok (.int p) h' ∧ _
  have e0 : ([some (.ref r), some (.int many), none, none] : Env)[0]? = some (some (.ref r)) := rfl
  have e1 : ([some (.ref r), some (.int many), none, none] : Env)[1]? = some (some (.int many)) := rfl
  obtain ⟨cs', l', h', q1, q2, q3⟩ := whl_ok (C := C) (m := m) (t := t) wf e0 e1 wf cs l h hw sh
  have x1 : exS C wf (.whl pickC pickB) [some (.ref r), some (.int many), none, none] h = .ok ([some (.ref r), some (.int many), none, none], .nx) h' := by simp only [exS]; exact q1
  unfold pickIR
  rw [ex_l x1, ex_l (exs_set (ev_fld e0 q2 kf_left))]
  show ∃ p h'', (exL C wf _ [some (.ref r), some (.int many), some (.int l'), none] h').bind outF = .ok (.int p) h'' ∧ _
  have f0 : ([some (.ref r), some (.int many), some (.int l'), none] : Env)[0]? = some (some (.ref r)) := rfl
  have f1 : ([some (.ref r), some (.int many), some (.int l'), none] : Env)[1]? = some (some (.int many)) := rfl
  have f2 : ([some (.ref r), some (.int many), some (.int l'), none] : Env)[2]? = some (some (.int l')) := rfl
  have mx : (if many > 1 then many else 1) = many := by split <;> omega
  have emx : ∀ h, evE C (.bi .max2 [(.int 1), (.var 1)]) [some (.ref r), some (.int many), some (.int l'), none] h = .ok (.int many) h := fun h => by
    rw [ev_bi, ev_l (by intro b z; cases z), ev_int, ok_bind, ev_l (by intro b z; cases z), ev_var f1, ok_bind, ev_l0, ok_bind, ok_bind, ok_bind]
    show R.ok (W.int (if many > 1 then many else 1)) h = _
    rw [mx]
  have ct : evT C (.or [(.cmp .lt (.var 1) (.int 2)), (.cmp .gt (.var 2) (.int 1))]) [some (.ref r), some (.int many), some (.int l'), none] h' = .ok (decide (many < 2) || decide (1 < l')) h' := by
    rw [evT_or, evT_cmp, ev_var f1, ok_bind, ev_int, ok_bind]
    show (R.ok (decide (many < 2)) h').bind _ = _
    rw [ok_bind]
    cases decide (many < 2) with
    | true => rfl
    | false => rw [cond_false, evT_or1, evT_cmp, ev_var f2, ok_bind, ev_int, ok_bind]; rfl
  have n0 : (many == 0) = false := by simp; omega
  have mod_m : ∀ (i : Int) h, binOp .mod (.int i) (.int many) h = .ok (.int (i.fmod many)) h := fun i h => by
    show (bif many == 0 then R.err else R.ok (W.int (i.fmod many)) h) = _
    rw [n0]; rfl
  cases hc : (decide (many < 2) || decide (1 < l')) with
  | true =>
    -- what is left of a cell
    obtain ⟨s1, s2⟩ := set_fld q2 (kp_left (x := l'.fdiv many))
    have ed : evE C (.bin .fdiv (.var 2) (.bi .max2 [(.int 1), (.var 1)])) [some (.ref r), some (.int many), some (.int l'), none] h' = .ok (.int (l'.fdiv many)) h' := by
      rw [ev_bin, ev_var f2, ok_bind, emx, ok_bind]
      show (bif (many == 0) || Nat.ble 1073741824 many.natAbs then R.err else R.ok (W.int (l'.fdiv many)) h') = _
      rw [n0, Bool.false_or]
      have : Nat.ble 1073741824 many.natAbs = false := by
        cases z : Nat.ble 1073741824 many.natAbs with
        | false => rfl
        | true => exfalso; have := Nat.le_of_ble_eq_true z; omega
      rw [this]; rfl
    have em : evE C (.bin .mod (.bi .int [(.var 2)]) (.bi .max2 [(.int 1), (.var 1)])) [some (.ref r), some (.int many), some (.int l'), none] (h'.set r (.dct (dS c (l'.fdiv many) m t))) = .ok (.int (l'.fmod many)) (h'.set r (.dct (dS c (l'.fdiv many) m t))) := by
      rw [ev_bin, ev_bi, ev_l (by intro b z; cases z), ev_var f2, ok_bind, ev_l0, ok_bind, ok_bind]
      show (R.ok (W.int l') _).bind _ = _
      rw [ok_bind, emx, ok_bind, mod_m]
    have xi : exS C wf (.ite (.or [(.cmp .lt (.var 1) (.int 2)), (.cmp .gt (.var 2) (.int 1))]) [(.setI (.var 0) (.str "left") (.bin .fdiv (.var 2) (.bi .max2 [(.int 1), (.var 1)]))), (.ret (.bin .mod (.bi .int [(.var 2)]) (.bi .max2 [(.int 1), (.var 1)])))] []) [some (.ref r), some (.int many), some (.int l'), none] h' =
        .ok ([some (.ref r), some (.int many), some (.int l'), none], .rt (.int (l'.fmod many))) (h'.set r (.dct (dS c (l'.fdiv many) m t))) := by
      simp only [exS]
      rw [ct, ok_bind, hc, cond_true, ex_l (exs_fld ed f0 s1), ex_ret (exs_ret em)]
    rw [ex_ret xi, ok_bind]
    obtain ⟨g1, g2⟩ := fmod_in (a := l') (b := many) (by omega)
    exact ⟨l'.fmod many, _, rfl, g1, g2, cs', _, _, _, s2, q3⟩
  | false =>
    have xi : exS C wf (.ite (.or [(.cmp .lt (.var 1) (.int 2)), (.cmp .gt (.var 2) (.int 1))]) [(.setI (.var 0) (.str "left") (.bin .fdiv (.var 2) (.bi .max2 [(.int 1), (.var 1)]))), (.ret (.bin .mod (.bi .int [(.var 2)]) (.bi .max2 [(.int 1), (.var 1)])))] []) [some (.ref r), some (.int many), some (.int l'), none] h' =
        .ok ([some (.ref r), some (.int many), some (.int l'), none], .nx) h' := by
      simp only [exS]
      rw [ct, ok_bind, hc, cond_false, ex_l0]
    obtain ⟨s1, s2⟩ := set_fld q2 (kp_turn (x := t + 1))
    have et : evE C (.bin .add (.idx (.var 0) (.str "turn")) (.int 1)) [some (.ref r), some (.int many), some (.int l'), none] h' = .ok (.int (t + 1)) h' := by
      rw [ev_bin, ev_fld f0 q2 kf_turn, ok_bind, ev_int, ok_bind]; rfl
    rw [ex_l xi, ex_l (exs_fld et f0 s1)]
    generalize hg : h'.set r (.dct (dS c l' m (t + 1))) = g at s2
    obtain ⟨M, hM⟩ : ∃ M, (m + (t + 1) * 104729).fmod 998244353 = M := ⟨_, rfl⟩
    obtain ⟨b1, b2⟩ := fmod_in (a := m + (t + 1) * 104729) (b := 998244353) (by decide)
    rw [hM] at b1 b2
    have ea : evE C (.bin .mod (.bi .int [(.bin .add (.idx (.var 0) (.str "mixed")) (.bin .mul (.idx (.var 0) (.str "turn")) (.int 104729)))]) (.int 998244353)) [some (.ref r), some (.int many), some (.int l'), none] g = .ok (.int M) g := by
      rw [ev_bin, ev_bi, ev_l (by intro b z; cases z), ev_bin, ev_fld f0 s2 kf_mixed, ok_bind, ev_bin, ev_fld f0 s2 kf_turn, ok_bind, ev_int, ok_bind, mul_c (by decide), ok_bind]
      show (((R.ok (W.int (m + (t + 1) * 104729)) g).bind _).bind _).bind _ = _
      rw [ok_bind, ev_l0, ok_bind, ok_bind]
      show (R.ok (W.int (m + (t + 1) * 104729)) g).bind _ = _
      rw [ok_bind, ev_int, ok_bind, ← hM]; rfl
    rw [ex_l (exs_set ea)]
    show ∃ p h'', (exL C wf _ [some (.ref r), some (.int many), some (.int l'), some (.int M)] g).bind outF = .ok (.int p) h'' ∧ _
    have k0 : ([some (.ref r), some (.int many), some (.int l'), some (.int M)] : Env)[0]? = some (some (.ref r)) := rfl
    have k3 : ([some (.ref r), some (.int many), some (.int l'), some (.int M)] : Env)[3]? = some (some (.int M)) := rfl
    obtain ⟨M2, hM2⟩ : ∃ M2, (M * M + (t + 1) * 17).fmod 2147483647 = M2 := ⟨_, rfl⟩
    have eb : evE C (.bin .mod (.bi .int [(.bin .add (.bin .mul (.var 3) (.var 3)) (.bin .mul (.idx (.var 0) (.str "turn")) (.int 17)))]) (.int 2147483647)) [some (.ref r), some (.int many), some (.int l'), some (.int M)] g = .ok (.int M2) g := by
      rw [ev_bin, ev_bi, ev_l (by intro b z; cases z), ev_bin, ev_bin, ev_var k3, ok_bind, ev_var k3, ok_bind, mul_c (small_of (by omega)), ok_bind, ev_bin, ev_fld k0 s2 kf_turn, ok_bind, ev_int, ok_bind, mul_c (by decide), ok_bind]
      show (((R.ok (W.int (M * M + (t + 1) * 17)) g).bind _).bind _).bind _ = _
      rw [ok_bind, ev_l0, ok_bind, ok_bind]
      show (R.ok (W.int (M * M + (t + 1) * 17)) g).bind _ = _
      rw [ok_bind, ev_int, ok_bind, ← hM2]; rfl
    rw [ex_l (exs_set eb)]
    show ∃ p h'', (exL C wf _ [some (.ref r), some (.int many), some (.int l'), some (.int M2)] g).bind outF = .ok (.int p) h'' ∧ _
    have u0 : ([some (.ref r), some (.int many), some (.int l'), some (.int M2)] : Env)[0]? = some (some (.ref r)) := rfl
    have u1 : ([some (.ref r), some (.int many), some (.int l'), some (.int M2)] : Env)[1]? = some (some (.int many)) := rfl
    have u3 : ([some (.ref r), some (.int many), some (.int l'), some (.int M2)] : Env)[3]? = some (some (.int M2)) := rfl
    obtain ⟨w1, w2⟩ := set_fld s2 (kp_mixed (x := M2))
    rw [ex_l (exs_fld (ev_var u3) u0 w1)]
    generalize hg2 : g.set r (.dct (dS c l' M2 (t + 1))) = g2 at w2
    have er : evE C (.bin .mod (.bi .int [(.bin .fdiv (.var 3) (.int 16))]) (.var 1)) [some (.ref r), some (.int many), some (.int l'), some (.int M2)] g2 = .ok (.int ((M2.fdiv 16).fmod many)) g2 := by
      rw [ev_bin, ev_bi, ev_l (by intro b z; cases z), ev_bin, ev_var u3, ok_bind, ev_int, ok_bind]
      show (((R.ok (W.int (M2.fdiv 16)) g2).bind _).bind _).bind _ = _
      rw [ok_bind, ev_l0, ok_bind, ok_bind]
      show (R.ok (W.int (M2.fdiv 16)) g2).bind _ = _
      rw [ok_bind, ev_var u1, ok_bind, mod_m]
    rw [ex_ret (exs_ret er), ok_bind]
    obtain ⟨v1, v2⟩ := fmod_in (a := M2.fdiv 16) (b := many) (by omega)
    exact ⟨_, _, rfl, v1, v2, cs', _, _, _, w2, q3⟩
/-! the source itself -/
theorem ev_comp {elt : Ex} {tg : Tg} {kd : ItK} {its ifs : List Ex} {own : List Nat} : evE C (.comp elt tg kd its ifs own) env h = (evL C its env h).bind fun ws h1 => compK kd (turnC tg (evIfs C ifs) (evE C elt) (wipeW env own)) ws h1 := by
  simp only [evE]
  congr 1
  funext ws h1
  unfold compK
  cases iterOf kd ws h1 with
  | none => rfl
  | some p => rfl
def srcB : List St := [(.set 1 (.bin .mod (.bi .int [(.bin .add (.bin .add (.bin .mul (.var 1) (.int 69069)) (.bin .mul (.var 2) (.int 31))) (.int 5))]) (.int 2147483629)))]
theorem src_turn (wf : Nat) {w : W} {mx x : Int} : exL C wf srcB [some w, some (.int mx), some (.int x)] h = .ok ([some w, some (.int ((mx * 69069 + x * 31 + 5).fmod 2147483629)), some (.int x)], .nx) h := by
  have e1 : ([some w, some (.int mx), some (.int x)] : Env)[1]? = some (some (.int mx)) := rfl
  have e2 : ([some w, some (.int mx), some (.int x)] : Env)[2]? = some (some (.int x)) := rfl
  have ev : evE C (.bin .mod (.bi .int [(.bin .add (.bin .add (.bin .mul (.var 1) (.int 69069)) (.bin .mul (.var 2) (.int 31))) (.int 5))]) (.int 2147483629)) [some w, some (.int mx), some (.int x)] h = .ok (.int ((mx * 69069 + x * 31 + 5).fmod 2147483629)) h := by
    rw [ev_bin, ev_bi, ev_l (by intro b z; cases z), ev_bin, ev_bin, ev_bin, ev_var e1, ok_bind, ev_int, ok_bind, mul_c (by decide), ok_bind, ev_bin, ev_var e2, ok_bind, ev_int, ok_bind, mul_c (by decide), ok_bind]
    show ((((R.ok (W.int (mx * 69069 + x * 31)) h).bind _).bind _).bind _).bind _ = _
    rw [ok_bind, ev_int, ok_bind]
    show (((R.ok (W.int (mx * 69069 + x * 31 + 5)) h).bind _).bind _).bind _ = _
    rw [ok_bind, ev_l0, ok_bind, ok_bind]
    show (R.ok (W.int (mx * 69069 + x * 31 + 5)) h).bind _ = _
    rw [ok_bind, ev_int, ok_bind]; rfl
  unfold srcB
  rw [ex_l (exs_set ev), ex_l0]
  rfl
theorem src_loop (wf : Nat) {w : W} : ∀ (ns : List Int) (mx : Int) (x : Option W), ∃ mx' x', loopS [] (fun y s2 h2 => match asg (.nm 2) y s2 h2 with
        | some s3 => exL C wf srcB s3 h2
        | none => .err) (ns.map W.int) [some w, some (.int mx), x] h = .ok ([some w, some (.int mx'), x'], .nx) h
  | [], mx, x => ⟨mx, x, rfl⟩
  | n :: ns, mx, x => by
    obtain ⟨mx', x', e⟩ := src_loop wf ns ((mx * 69069 + n * 31 + 5).fmod 2147483629) (some (.int n))
    refine ⟨mx', x', ?_⟩
    rw [List.map_cons]
    unfold loopS
    show (exL C wf srcB [some w, some (.int mx), some (.int n)] h).bind _ = _
    rw [src_turn, ok_bind]
    exact e
theorem abs_loop {s0 : Env} {b : Int → Int} {me : Env → Hw → R W} (hm : ∀ (i : Int) (s : Env), asg (.nm 2) (.int i) s0 h = some s → me s h = .ok (.int (b i)) h) : ∀ ns : List Int, loopC [] (turnC (.nm 2) (evIfs C []) me s0) (ns.map W.int) h = .ok ((ns.map b).map W.int) h
  | [] => rfl
  | n :: ns => by
    have e := abs_loop hm ns
    rw [List.map_cons]
    unfold loopC
    have t : turnC (.nm 2) (evIfs C []) me s0 (.int n) h = .ok (some (.int (b n))) h := by
      have ha : asg (.nm 2) (.int n) s0 h = some (s0.set 2 (some (.int n))) := by simp only [asg]
      unfold turnC
      rw [ha]
      simp only [evIfs, ok_bind, cond_true]
      rw [hm n _ ha, ok_bind]
    show (R.nox (turnC (.nm 2) (evIfs C []) me s0 (.int n) h)).bind _ = _
    rw [t]
    show (loopC [] (turnC (.nm 2) (evIfs C []) me s0) (ns.map W.int) h).bind _ = _
    rw [e]
    rfl
theorem src_ok (wf : Nat) (ns : List Int) (hl : ns.length ≤ 16777216) : ∃ (g : Hw) (cs : List Int) (o1 : HW) (m : Int), runF C wf ⟨1, 3, srcIR⟩ [.frl (ns.map W.int)] Hw.nil = .ok (.ref 0) g ∧ g.n = 3 ∧ g.get 0 = some (.dct (dS 2 1 m 0)) ∧ g.get 1 = some o1 ∧ g.get 2 = some (.lst (cs.map W.int)) ∧ cs.length = ns.length := by
  show ∃ (g : Hw) (cs : List Int) (o1 : HW) (m : Int), (exL C wf srcIR [some (.frl (ns.map W.int)), none, none] Hw.nil).bind outF = .ok (.ref 0) g ∧ _
  unfold srcIR
  rw [ex_l (exs_set ev_int)]
  show ∃ (g : Hw) (cs : List Int) (o1 : HW) (m : Int), (exL C wf _ [some (.frl (ns.map W.int)), some (.int 11), none] Hw.nil).bind outF = .ok (.ref 0) g ∧ _
  obtain ⟨mx, x, e⟩ := src_loop (C := C) (h := Hw.nil) wf (w := .frl (ns.map W.int)) ns 11 none
  have xl : exS C wf (.loop (.nm 2) .seq [(.var 0)] [(.set 1 (.bin .mod (.bi .int [(.bin .add (.bin .add (.bin .mul (.var 1) (.int 69069)) (.bin .mul (.var 2) (.int 31))) (.int 5))]) (.int 2147483629)))]) [some (.frl (ns.map W.int)), some (.int 11), none] Hw.nil = .ok ([some (.frl (ns.map W.int)), some (.int mx), x], .nx) Hw.nil := by
    simp only [exS]
    rw [ev_l (by intro b z; cases z), ev_var (w := .frl (ns.map W.int)) rfl, ok_bind, ev_l0, ok_bind, ok_bind]
    exact e
  rw [ex_l xl]
  generalize henv : ([some (.frl (ns.map W.int)), some (.int mx), x] : Env) = env
  have e0 : env[0]? = some (some (.frl (ns.map W.int))) := by rw [← henv]; rfl
  have e1 : env[1]? = some (some (.int mx)) := by rw [← henv]; rfl
  have el : env.length = 3 := by rw [← henv]; rfl
  let b : Int → Int := fun i => if i < 0 then -i else i
  have hA : evE C (.comp (.bi .abs [(.var 2)]) (.nm 2) .seq [(.var 0)] [] [2]) env (Hw.nil.new (.dct [])) = .ok (.ref 1) ((Hw.nil.new (.dct [])).new (.lst ((ns.map b).map W.int))) := by
    rw [ev_comp, ev_l (by intro b z; cases z), ev_var e0, ok_bind, ev_l0, ok_bind, ok_bind]
    show (bif szOk (ns.map W.int).length then (loopC [] (turnC (.nm 2) (evIfs C []) (evE C (.bi .abs [(.var 2)])) (wipeW env [2])) (ns.map W.int) (Hw.nil.new (.dct []))).bind _ else _) = _
    have sz : szOk (ns.map W.int).length = true := Nat.ble_eq_true_of_le (by rw [List.length_map]; exact hl)
    rw [sz, cond_true, abs_loop (b := b) (fun i s hs => ?_)]
    · rfl
    · have hs2 : s[2]? = some (some (.int i)) := by
        have : (wipeW env [2]).set 2 (some (.int i)) = s := Option.some.inj hs
        rw [← this]
        unfold wipeW wipeW
        rw [List.getElem?_set_self (by rw [List.length_set, el]; decide)]
      rw [ev_bi, ev_l (by intro b z; cases z), ev_var hs2, ok_bind, ev_l0, ok_bind, ok_bind]
      rfl
  have g1 : ((Hw.nil.new (.dct [])).new (.lst ((ns.map b).map W.int))).get 1 = some (.lst ((ns.map b).map W.int)) := Hw.new_same (Hw.nil.new (.dct [])) _
  have hB : evE C (.bi .rev [(.comp (.bi .abs [(.var 2)]) (.nm 2) .seq [(.var 0)] [] [2])]) env (Hw.nil.new (.dct [])) = .ok (.ref 2) (((Hw.nil.new (.dct [])).new (.lst ((ns.map b).map W.int))).new (.lst ((ns.map b).map W.int).reverse)) := by
    rw [ev_bi, ev_l (by intro b z; cases z), hA, ok_bind, ev_l0, ok_bind, ok_bind]
    simp only [biOp, g1]
    rfl
  generalize hh2 : ((Hw.nil.new (.dct [])).new (.lst ((ns.map b).map W.int))).new (.lst ((ns.map b).map W.int).reverse) = h2 at hB
  have z0 : h2.get 0 = some (.dct []) := by
    rw [← hh2, Hw.new_ne _ _ (show ((Hw.nil.new (.dct [])).new (.lst ((ns.map b).map W.int))).n ≠ 0 from (by decide : (2 : Nat) ≠ 0)), Hw.new_ne _ _ (show (Hw.nil.new (.dct [])).n ≠ 0 by decide)]
    exact Hw.new_same Hw.nil _
  have z1 : h2.get 1 = some (.lst ((ns.map b).map W.int)) := by
    rw [← hh2, Hw.new_ne _ _ (show ((Hw.nil.new (.dct [])).new (.lst ((ns.map b).map W.int))).n ≠ 1 from (by decide : (2 : Nat) ≠ 1))]
    exact g1
  have z2 : h2.get 2 = some (.lst ((ns.map b).map W.int).reverse) := by
    rw [← hh2]
    exact Hw.new_same ((Hw.nil.new (.dct [])).new (.lst ((ns.map b).map W.int))) _
  have zn : h2.n = 3 := by rw [← hh2]; rfl
  have hD : evE C (.dct [(.str "cells"), (.bi .rev [(.comp (.bi .abs [(.var 2)]) (.nm 2) .seq [(.var 0)] [] [2])]), (.str "left"), (.int 1), (.str "mixed"), (.var 1), (.str "turn"), (.int 0)]) env Hw.nil = .ok (.ref 0) (h2.set 0 (.dct (dS 2 1 mx 0))) := by
    have kd : evD C [(.str "cells"), (.bi .rev [(.comp (.bi .abs [(.var 2)]) (.nm 2) .seq [(.var 0)] [] [2])]), (.str "left"), (.int 1), (.str "mixed"), (.var 1), (.str "turn"), (.int 0)] env (Hw.nil.new (.dct [])) = .ok (dS 2 1 mx 0) h2 := by
      have st : ∀ (k : Str) h, evE C (.str k) env h = .ok (.str k) h := fun _ _ => rfl
      have c1 : ∀ (k : Str) (v : Ex) (r : List Ex) h, evD C (.str k :: v :: r) env h = (evE C v env h).bind fun y h2 => (evD C r env h2).bind fun r h3 => .ok ((.inr k, y) :: r) h3 := fun k v r h => rfl
      rw [c1, hB, ok_bind, c1, ev_int, ok_bind, c1, ev_var e1, ok_bind, c1, ev_int, ok_bind]
      rfl
    show (evD C _ env (Hw.nil.new (.dct []))).bind _ = _
    rw [kd, ok_bind]
    show (match h2.get 0 with | some (.dct []) => _ | _ => _) = _
    rw [z0]
    have mk : ((dS 2 1 mx 0).foldl (fun d p => kPut d p.1 p.2) []) = dS 2 1 mx 0 := by kernel_rfl
    show (bif Nat.ble (dS 2 1 mx 0).length 15 then R.ok (W.ref 0) (h2.set 0 (.dct ((dS 2 1 mx 0).foldl (fun d p => kPut d p.1 p.2) []))) else .err) = _
    rw [mk]
    rfl
  rw [ex_ret (exs_ret hD), ok_bind]
  refine ⟨_, (ns.map b).reverse, .lst ((ns.map b).map W.int), mx, rfl, zn, Hw.set_same _ _ _, ?_, ?_, by rw [List.length_reverse, List.length_map]⟩
  · rw [Hw.set_ne _ _ (by decide)]; exact z1
  · rw [Hw.set_ne _ _ (by decide), z2, List.map_reverse]
theorem ups_ints (k : Nat) : ∀ cs : List Int, W.ups k (cs.map W.int) = cs.map W.int
  | [] => rfl
  | c :: cs => by rw [List.map_cons]; simp only [W.ups, W.up]; rw [ups_ints k cs]
theorem noRefs_ints : ∀ cs : List Int, W.noRefs (cs.map W.int) = true
  | [] => rfl
  | c :: cs => by rw [List.map_cons]; simp only [W.noRefs, W.noRef]; rw [noRefs_ints cs]; rfl
/-- the source, drawn in a heap of its own -/
theorem src_graft (wf : Nat) (ns : List Int) (hl : ns.length ≤ 16777216) : ∃ (cs : List Int) (o1 : HW) (m : Int), graft Hw.nil (runF C wf ⟨1, 3, srcIR⟩ [.frl (ns.map W.int)] Hw.nil) = .ok (.ref 0) (((Hw.nil.new (.dct (dS 2 1 m 0))).new o1).new (.lst (cs.map W.int))) ∧ cs.length = ns.length := by
  obtain ⟨g, cs, o1, m, e, gn, g0, g1, g2, hc⟩ := src_ok (C := C) wf ns hl
  refine ⟨cs, o1.up 0, m, ?_, hc⟩
  rw [e]
  show R.ok (W.ref 0) (Hw.app Hw.nil g g.n) = _
  rw [gn]
  have : Hw.app Hw.nil g 3 = ((Hw.nil.new ((HW.dct (dS 2 1 m 0)).up 0)).new (o1.up 0)).new ((HW.lst (cs.map W.int)).up 0) := by
    simp only [Hw.app, g0, g1, g2]
    rfl
  rw [this]
  have u2 : (HW.lst (cs.map W.int)).up 0 = .lst (cs.map W.int) := by simp only [HW.up, ups_ints]
  rw [u2]
  rfl
end
end TL
/-! Runs over an oracle: where it answers, it answers as the calls do. -/
namespace TL
def Le {α : Type} (r r' : R α) : Prop := r = .err ∨ r = r'
theorem Le.rf {α : Type} {r : R α} : Le r r := .inr rfl
theorem Le.er {α : Type} {r : R α} : Le .err r := .inl rfl
theorem Le.bind {α β : Type} {r r' : R α} {f f' : α → Hw → R β} (h : Le r r') (g : ∀ a h, Le (f a h) (f' a h)) : Le (r.bind f) (r'.bind f') := by
  rcases h with e | e
  · rw [e]; exact .inl rfl
  · rw [e]
    cases r' with
    | ok a h => exact g a h
    | exc c d h => exact .inr rfl
    | err => exact .inl rfl
theorem Le.nox {α : Type} {r r' : R α} (h : Le r r') : Le r.nox r'.nox := by
  rcases h with e | e
  · rw [e]; exact .inl rfl
  · rw [e]; exact .inr rfl
theorem Le.ok {α : Type} {r r' : R α} {a : α} {h : Hw} (l : Le r r') (e : r = .ok a h) : r' = .ok a h := by
  rcases l with z | z
  · rw [z] at e; cases e
  · rw [← z]; exact e
theorem Le.loopC {gs : List (Nat × List W)} {f f' : W → Hw → R (Option W)} (g : ∀ x h, Le (f x h) (f' x h)) : ∀ (xs : List W) (h : Hw), Le (TL.loopC gs f xs h) (TL.loopC gs f' xs h)
  | [], h => .rf
  | x :: xs, h => by
    unfold TL.loopC
    cases okG gs h with
    | false => exact .inl rfl
    | true => exact (g x h).nox.bind fun o h1 => (Le.loopC g xs h1).bind fun ys h2 => .rf
theorem Le.loopS {gs : List (Nat × List W)} {f f' : W → Env → Hw → R (Env × Fl)} (g : ∀ x s h, Le (f x s h) (f' x s h)) : ∀ (xs : List W) (s : Env) (h : Hw), Le (TL.loopS gs f xs s h) (TL.loopS gs f' xs s h)
  | [], s, h => .rf
  | x :: xs, s, h => by
    unfold TL.loopS
    cases okG gs h with
    | false => exact .inl rfl
    | true =>
      refine (g x s h).bind fun p h1 => ?_
      obtain ⟨s1, fl⟩ := p
      cases fl with
      | nx => exact Le.loopS g xs s1 h1
      | ct => exact Le.loopS g xs s1 h1
      | bk => exact .rf
      | rt w => exact .rf
theorem Le.whlS {c c' : Env → Hw → R Bool} {f f' : Env → Hw → R (Env × Fl)} (gc : ∀ s h, Le (c s h) (c' s h)) (g : ∀ s h, Le (f s h) (f' s h)) : ∀ (n : Nat) (s : Env) (h : Hw), Le (TL.whlS c f n s h) (TL.whlS c' f' n s h)
  | 0, s, h => .rf
  | n + 1, s, h => by
    unfold TL.whlS
    refine (gc s h).bind fun b h1 => ?_
    cases b with
    | false => exact .rf
    | true =>
      refine (g s h1).bind fun p h2 => ?_
      obtain ⟨s1, fl⟩ := p
      cases fl with
      | nx => exact Le.whlS gc g n s1 h2
      | ct => exact Le.whlS gc g n s1 h2
      | bk => exact .rf
      | rt w => exact .rf
section
variable {C C' : Nat → List W → Hw → R W} (hC : ∀ f ws h, Le (C' f ws h) (C f ws h))
include hC
mutual
theorem leE : ∀ (e : Ex) (s : Env) (h : Hw), Le (evE C' e s h) (evE C e s h)
  | .var i, s, h => by simp only [evE]; exact .rf
  | .non, s, h => by simp only [evE]; exact .rf
  | .bl b, s, h => by simp only [evE]; exact .rf
  | .int i, s, h => by simp only [evE]; exact .rf
  | .str x, s, h => by simp only [evE]; exact .rf
  | .bin o a b, s, h => by simp only [evE]; exact (leE a s h).bind fun x h1 => (leE b s h1).bind fun y h2 => .rf
  | .neg a, s, h => by simp only [evE]; exact (leE a s h).bind fun x h1 => .rf
  | .cmp o a b, s, h => by simp only [evE]; exact (leE a s h).bind fun x h1 => (leE b s h1).bind fun y h2 => .rf
  | .chn o p a b c, s, h => by
    simp only [evE]
    refine (leE a s h).bind fun x h1 => (leE b s h1).bind fun y h2 => ?_
    cases cmpOp o x y h2 with
    | none => exact .rf
    | some k =>
      cases k with
      | false => exact .rf
      | true => exact (leE c s h2).bind fun z h3 => .rf
  | .and es, s, h => by simp only [evE]; exact leAnd es s h
  | .or es, s, h => by simp only [evE]; exact leOr es s h
  | .not a, s, h => by simp only [evE]; exact (leE a s h).bind fun x h1 => .rf
  | .ife c a b, s, h => by
    simp only [evE]
    refine (leE c s h).bind fun x h1 => ?_
    cases tru h1 x with
    | none => exact .rf
    | some k =>
      cases k with
      | false => exact leE b s h1
      | true => exact leE a s h1
  | .tup es, s, h => by simp only [evE]; exact (leL es s h).bind fun ws h1 => .rf
  | .star _, s, h => by simp only [evE]; exact .rf
  | .lst es, s, h => by simp only [evE]; exact (leL es s h).bind fun ws h1 => .rf
  | .dct es, s, h => by simp only [evE]; exact (leD es s _).bind fun ws h1 => .rf
  | .idx a i, s, h => by simp only [evE]; exact (leE a s h).bind fun x h1 => (leE i s h1).bind fun y h2 => .rf
  | .slc a lo hi, s, h => by simp only [evE]; exact (leE a s h).bind fun x h1 => (leO lo s h1).bind fun y h2 => (leO hi s h2).bind fun z h3 => .rf
  | .call f es, s, h => by simp only [evE]; exact (leL es s h).bind fun ws h1 => hC f ws h1
  | .bi b es, s, h => by simp only [evE]; exact (leL es s h).bind fun ws h1 => .rf
  | .me m o es, s, h => by
    simp only [evE]
    refine (leE o s h).bind fun x h1 => ?_
    cases recvOk m x h1 with
    | false => exact .rf
    | true => exact (leL es s h1).bind fun ws h2 => .rf
  | .comp elt tg k its ifs own, s, h => by
    simp only [evE]
    refine (leL its s h).bind fun ws h1 => ?_
    cases iterOf k ws h1 with
    | none => exact .rf
    | some p =>
      obtain ⟨xs, gs⟩ := p
      simp only []
      cases szOk xs.length with
      | false => exact .rf
      | true =>
        refine (Le.loopC (fun x h2 => ?_) xs h1).bind fun ys h5 => .rf
        cases asg tg x (wipeW s own) h2 with
        | none => exact .rf
        | some s2 =>
          refine (leIfs ifs s2 h2).bind fun c h3 => ?_
          cases c with
          | false => exact .rf
          | true => exact (leE elt s2 h3).bind fun w h4 => .rf
termination_by e => sizeOf e
theorem leL : ∀ (es : List Ex) (s : Env) (h : Hw), Le (evL C' es s h) (evL C es s h)
  | [], s, h => by simp only [evL]; exact .rf
  | e :: es, s, h => by
    have key : (∃ a, e = .star a) ∨ (∀ C : Nat → List W → Hw → R W, evL C (e :: es) s h = (evE C e s h).bind fun x h1 => (evL C es s h1).bind fun xs h2 => .ok (x :: xs) h2) := by
      cases e <;> first | exact .inl ⟨_, rfl⟩ | exact .inr fun _ => rfl
    rcases key with ⟨a, ea⟩ | key
    · subst ea
      simp only [evL]
      refine (leE a s h).bind fun x h1 => ?_
      cases seqOf h1 x with
      | none => exact .rf
      | some xs => exact (leL es s h1).bind fun ys h2 => .rf
    · rw [key C', key C]
      exact (leE e s h).bind fun x h1 => (leL es s h1).bind fun xs h2 => .rf
termination_by es => sizeOf es
theorem leD : ∀ (es : List Ex) (s : Env) (h : Hw), Le (evD C' es s h) (evD C es s h)
  | [], s, h => by simp only [evD]; exact .rf
  | [_], s, h => by simp only [evD]; exact .rf
  | k :: v :: r, s, h => by
    simp only [evD]
    refine (leE k s h).bind fun x h1 => ?_
    cases keyOf x with
    | none => exact .rf
    | some kk => exact (leE v s h1).bind fun y h2 => (leD r s h2).bind fun r h3 => .rf
termination_by es => sizeOf es
theorem leO : ∀ (o : Option Ex) (s : Env) (h : Hw), Le (evO C' o s h) (evO C o s h)
  | none, s, h => by simp only [evO]; exact .rf
  | some e, s, h => by simp only [evO]; exact (leE e s h).bind fun x h1 => .rf
termination_by o => sizeOf o
theorem leAnd : ∀ (es : List Ex) (s : Env) (h : Hw), Le (evAnd C' es s h) (evAnd C es s h)
  | [], s, h => by simp only [evAnd]; exact .rf
  | [e], s, h => by simp only [evAnd]; exact leE e s h
  | e :: e2 :: es, s, h => by
    simp only [evAnd]
    refine (leE e s h).bind fun x h1 => ?_
    cases tru h1 x with
    | none => exact .rf
    | some k =>
      cases k with
      | false => exact .rf
      | true => exact leAnd (e2 :: es) s h1
termination_by es => sizeOf es
theorem leOr : ∀ (es : List Ex) (s : Env) (h : Hw), Le (evOr C' es s h) (evOr C es s h)
  | [], s, h => by simp only [evOr]; exact .rf
  | [e], s, h => by simp only [evOr]; exact leE e s h
  | e :: e2 :: es, s, h => by
    simp only [evOr]
    refine (leE e s h).bind fun x h1 => ?_
    cases tru h1 x with
    | none => exact .rf
    | some k =>
      cases k with
      | true => exact .rf
      | false => exact leOr (e2 :: es) s h1
termination_by es => sizeOf es
theorem leIfs : ∀ (es : List Ex) (s : Env) (h : Hw), Le (evIfs C' es s h) (evIfs C es s h)
  | [], s, h => by simp only [evIfs]; exact .rf
  | e :: es, s, h => by
    simp only [evIfs]
    refine (leE e s h).bind fun x h1 => ?_
    cases tru h1 x with
    | none => exact .rf
    | some k =>
      cases k with
      | false => exact .rf
      | true => exact leIfs es s h1
termination_by es => sizeOf es
end
theorem leT (e : Ex) (s : Env) (h : Hw) : Le (evT C' e s h) (evT C e s h) := (leE hC e s h).bind fun x h1 => .rf
mutual
theorem leS (wf : Nat) : ∀ (t : St) (s : Env) (h : Hw), Le (exS C' wf t s h) (exS C wf t s h)
  | .set i e, s, h => by simp only [exS]; exact (leE hC e s h).bind fun w h1 => .rf
  | .setT tg e, s, h => by simp only [exS]; exact (leE hC e s h).bind fun w h1 => .rf
  | .setI a i e, s, h => by simp only [exS]; exact (leE hC e s h).bind fun v h1 => (leE hC a s h1).bind fun x h2 => (leE hC i s h2).bind fun y h3 => .rf
  | .aug o i e, s, h => by
    simp only [exS]
    split
    · exact (leE hC e s h).bind fun y h1 => .rf
    · exact .rf
  | .augI o a i e, s, h => by simp only [exS]; exact (leE hC a s h).bind fun x h1 => (leE hC i s h1).bind fun y h2 => Le.rf.bind fun z h3 => (leE hC e s h3).bind fun v h4 => .rf
  | .ex e, s, h => by simp only [exS]; exact (leE hC e s h).bind fun w h1 => .rf
  | .ite c a b, s, h => by
    simp only [exS]
    refine (leT hC c s h).bind fun k h1 => ?_
    cases k with
    | false => exact leSs wf b s h1
    | true => exact leSs wf a s h1
  | .loop tg k its body, s, h => by
    simp only [exS]
    refine (leL hC its s h).bind fun ws h1 => ?_
    cases iterOf k ws h1 with
    | none => exact .rf
    | some p =>
      obtain ⟨xs, gs⟩ := p
      refine Le.loopS (fun x s2 h2 => ?_) xs s h1
      cases asg tg x s2 h2 with
      | none => exact .rf
      | some s3 => exact leSs wf body s3 h2
  | .whl c body, s, h => by simp only [exS]; exact Le.whlS (fun s h => leT hC c s h) (fun s h => leSs wf body s h) wf s h
  | .ret e, s, h => by simp only [exS]; exact (leE hC e s h).bind fun w h1 => .rf
  | .retN, s, h => by simp only [exS]; exact .rf
  | .rse c es, s, h => by simp only [exS]; exact (leL hC es s h).bind fun w h1 => .rf
  | .cont, s, h => by simp only [exS]; exact .rf
  | .brk, s, h => by simp only [exS]; exact .rf
  | .pass, s, h => by simp only [exS]; exact .rf
termination_by t => sizeOf t
theorem leSs (wf : Nat) : ∀ (ts : List St) (s : Env) (h : Hw), Le (exL C' wf ts s h) (exL C wf ts s h)
  | [], s, h => by simp only [exL]; exact .rf
  | t :: ts, s, h => by
    simp only [exL]
    refine (leS wf t s h).bind fun p h1 => ?_
    obtain ⟨s1, fl⟩ := p
    cases fl with
    | nx => exact leSs wf ts s1 h1
    | _ => exact .rf
termination_by ts => sizeOf ts
end
theorem leF (wf : Nat) (fn : Fn) (ws : List W) (h : Hw) : Le (runF C' wf fn ws h) (runF C wf fn ws h) := (leSs hC wf fn.body _ h).bind fun p h1 => .rf
end
end TL
/-! A table of closed calls, each proved by itself; runs look into it. -/
namespace TL
theorem Le.graft {h : Hw} {r r' : R W} (l : Le r r') : Le (graft h r) (graft h r') := by
  rcases l with e | e
  · rw [e]; exact .inl rfl
  · rw [e]; exact .inr rfl
def lookT : List (Nat × List W × W) → Nat → List W → Option W
  | [], _, _ => none
  | e :: T, f, ws => bif Nat.beq f e.1 && W.beqs ws e.2.1 then some e.2.2 else lookT T f ws
def callO (tb : List Fn) (wf : Nat) (T : List (Nat × List W × W)) (kb : Nat) : Nat → Nat → List W → Hw → R W
  | 0, f, ws, h => match lookT T f ws with
    | some w => .ok w h
    | none => callF tb wf kb f ws h
  | k + 1, f, ws, h => match lookT T f ws with
    | some w => .ok w h
    | none => match tb[f]? with
      | some fn => bif Nat.beq ws.length fn.np then (bif W.noRefs ws then graft h (runF (callO tb wf T kb k) wf fn ws Hw.nil) else runF (callO tb wf T kb k) wf fn ws h) else .err
      | none => .err
def Val (tb : List Fn) (wf : Nat) (T : List (Nat × List W × W)) (kb : Nat) : Prop := ∀ e ∈ T, ∀ h, callF tb wf kb e.1 e.2.1 h = .ok e.2.2 h
theorem Val.look {tb : List Fn} {wf kb : Nat} : ∀ {T : List (Nat × List W × W)} {f : Nat} {ws : List W} {w : W}, Val tb wf T kb → lookT T f ws = some w → ∀ h, callF tb wf kb f ws h = .ok w h
  | [], f, ws, w, v, e, h => by cases e
  | x :: T, f, ws, w, v, e, h => by
    unfold lookT at e
    cases c : (Nat.beq f x.1 && W.beqs ws x.2.1) with
    | true =>
      rw [c] at e
      simp only [Bool.and_eq_true] at c
      have e1 := Nat.eq_of_beq_eq_true c.1
      have e2 := W.beqs_eq _ _ c.2
      cases e
      rw [e1, e2]
      exact v x (List.mem_cons_self ..) h
    | false =>
      rw [c] at e
      exact Val.look (fun y m => v y (List.mem_cons_of_mem _ m)) e h
theorem callF_up (tb : List Fn) (wf : Nat) : ∀ (k f : Nat) (ws : List W) (h : Hw), Le (callF tb wf k f ws h) (callF tb wf (k + 1) f ws h)
  | 0, f, ws, h => .inl rfl
  | k + 1, f, ws, h => by
    unfold callF
    cases tb[f]? with
    | none => exact .rf
    | some fn =>
      show Le (bif Nat.beq ws.length fn.np then _ else _) (bif Nat.beq ws.length fn.np then _ else _)
      cases Nat.beq ws.length fn.np with
      | false => exact .rf
      | true =>
        cases W.noRefs ws with
        | true => exact Le.graft (leF (callF_up tb wf k) wf fn ws Hw.nil)
        | false => exact leF (callF_up tb wf k) wf fn ws h
theorem callF_add (tb : List Fn) (wf : Nat) (k : Nat) : ∀ (j f : Nat) (ws : List W) (h : Hw), Le (callF tb wf k f ws h) (callF tb wf (k + j) f ws h)
  | 0, f, ws, h => .rf
  | j + 1, f, ws, h => by
    rcases callF_add tb wf k j f ws h with e | e
    · exact .inl e
    · rw [e]; exact callF_up tb wf (k + j) f ws h
theorem Val.add {tb : List Fn} {wf kb : Nat} {T : List (Nat × List W × W)} (v : Val tb wf T kb) (j : Nat) : Val tb wf T (kb + j) := fun e m h => (callF_add tb wf kb j e.1 e.2.1 h).ok (v e m h)
theorem callO_le {tb : List Fn} {wf kb : Nat} {T : List (Nat × List W × W)} (v : Val tb wf T kb) : ∀ (k f : Nat) (ws : List W) (h : Hw), Le (callO tb wf T kb k f ws h) (callF tb wf (kb + k) f ws h)
  | 0, f, ws, h => by
    unfold callO
    cases c : lookT T f ws with
    | none => exact .rf
    | some w => exact .inr (v.look c h).symm
  | k + 1, f, ws, h => by
    unfold callO
    cases c : lookT T f ws with
    | some w => exact .inr ((v.add (k + 1)).look c h).symm
    | none =>
      show Le _ (callF tb wf (kb + k + 1) f ws h)
      unfold callF
      cases tb[f]? with
      | none => exact .rf
      | some fn =>
        show Le (bif Nat.beq ws.length fn.np then _ else _) (bif Nat.beq ws.length fn.np then _ else _)
        cases Nat.beq ws.length fn.np with
        | false => exact .rf
        | true =>
          cases W.noRefs ws with
          | true => exact Le.graft (leF (callO_le v k) wf fn ws Hw.nil)
          | false => exact leF (callO_le v k) wf fn ws h
def gotW (r : R W) (w : W) : Bool := match r with
  | .ok v _ => W.beq v w
  | _ => false
theorem gotW_ok {r : R W} {w : W} (h : gotW r w = true) : ∃ g, r = .ok w g := by
  unfold gotW at h
  split at h
  · exact ⟨_, by rw [W.beq_eq _ _ h]⟩
  · cases h
def chkE (tb : List Fn) (wf : Nat) (T : List (Nat × List W × W)) (kb k : Nat) (e : Nat × List W × W) : Bool :=
  match tb[e.1]? with
  | some fn => Nat.beq e.2.1.length fn.np && (W.noRefs e.2.1 && (e.2.2.noRef && gotW (runF (callO tb wf T kb k) wf fn e.2.1 Hw.nil) e.2.2))
  | none => false
theorem chkE_ok {tb : List Fn} {wf kb k : Nat} {T : List (Nat × List W × W)} (v : Val tb wf T kb) {e : Nat × List W × W} (c : chkE tb wf T kb k e = true) (h : Hw) : callF tb wf (kb + k + 1) e.1 e.2.1 h = .ok e.2.2 h := by
  unfold chkE at c
  unfold callF
  cases t : tb[e.1]? with
  | none => rw [t] at c; cases c
  | some fn =>
    rw [t] at c
    simp only [Bool.and_eq_true] at c
    obtain ⟨c1, c2, c3, c4⟩ := c
    obtain ⟨g, eg⟩ := gotW_ok c4
    have := (leF (callO_le v k) wf fn e.2.1 Hw.nil).ok eg
    simp only [c1, c2, cond_true]
    rw [this]
    simp only [graft, c3, cond_true]
theorem Val.nil (tb : List Fn) (wf kb : Nat) : Val tb wf [] kb := fun e m => nomatch m
theorem Val.cons {tb : List Fn} {wf kb : Nat} {T : List (Nat × List W × W)} {e : Nat × List W × W} (a : ∀ h, callF tb wf kb e.1 e.2.1 h = .ok e.2.2 h) (v : Val tb wf T kb) : Val tb wf (e :: T) kb := fun x m => by
  rcases List.mem_cons.1 m with q | q
  · rw [q]; exact a
  · exact v x q
theorem Val.put {tb : List Fn} {wf kb k kb' : Nat} {T0 T : List (Nat × List W × W)} {e : Nat × List W × W} (hk : kb' = kb + k + 1) (v0 : Val tb wf T0 kb) (c : chkE tb wf T0 kb k e = true) (v : Val tb wf T kb') : Val tb wf (e :: T) kb' := by
  rw [hk] at v ⊢
  exact Val.cons (chkE_ok v0 c) v
end TL
namespace Ik83
open TL
def d_joins : List St := [(.set 1 (.comp (.bin .mul (.lst [(.int 0)]) (.idx (.var 0) (.int 0))) (.nm 2) .rng1 [(.idx (.var 0) (.int 0))] [] [2])),
  (.loop (.tp [(.nm 3), (.nm 4)]) .seq [(.idx (.var 0) (.int 1))] [(.ite (.cmp .ne (.var 3) (.var 4)) [(.setI (.idx (.var 1) (.var 3)) (.var 4) (.bin .add (.idx (.idx (.var 1) (.var 3)) (.var 4)) (.int 1))), (.setI (.idx (.var 1) (.var 4)) (.var 3) (.bin .add (.idx (.idx (.var 1) (.var 4)) (.var 3)) (.int 1)))] [])]),
  (.ret (.var 1))]
def f_joins : Fn := ⟨1, 5, d_joins⟩
def d_outs : List St := [(.ret (.bi .tuple [(.comp (.bi .sum [(.var 1)]) (.nm 1) .seq [(.call 0 [(.var 0)])] [] [1])]))]
def f_outs : Fn := ⟨1, 2, d_outs⟩
def d_stands_for : List St := [(.ret (.bi .tuple [(.comp (.ife (.cmp .ne (.var 3) (.var 1)) (.var 4) (.bin .sub (.int 0) (.bi .sum [(.var 2)]))) (.tp [(.nm 3), (.nm 4)]) .enm [(.var 2)] [] [3, 4])]))]
def f_stands_for : Fn := ⟨3, 5, d_stands_for⟩
def d_settle : List St := [(.setT (.tp [(.nm 3), (.nm 4), (.nm 5), (.nm 6)]) (.tup [(.call 0 [(.var 0)]), (.call 1 [(.var 0)]), (.bi .list [(.var 2)]), (.bin .mul (.lst [(.int 0)]) (.idx (.var 0) (.int 0)))])),
  (.set 7 (.bl true)),
  (.whl (.var 7) [(.set 7 (.bl false)), (.loop (.nm 8) .rng1 [(.idx (.var 0) (.int 0))] [(.set 9 (.ife (.cmp .ne (.var 8) (.var 1)) (.bin .fdiv (.idx (.var 5) (.var 8)) (.idx (.var 4) (.var 8))) (.int 0))), (.ite (.cmp .gt (.var 9) (.int 0)) [(.set 7 (.bl true)), (.setI (.var 6) (.var 8) (.bin .add (.idx (.var 6) (.var 8)) (.var 9))), (.setI (.var 5) (.var 8) (.bin .sub (.idx (.var 5) (.var 8)) (.bin .mul (.var 9) (.idx (.var 4) (.var 8))))), (.loop (.nm 10) .rng1 [(.idx (.var 0) (.int 0))] [(.setI (.var 5) (.var 10) (.ife (.cmp .ne (.var 10) (.var 1)) (.bin .add (.idx (.var 5) (.var 10)) (.bin .mul (.var 9) (.idx (.idx (.var 3) (.var 8)) (.var 10)))) (.int 0)))])] [])])]),
  (.ret (.tup [(.bi .tuple [(.var 5)]), (.bi .tuple [(.var 6)])]))]
def f_settle : Fn := ⟨3, 11, d_settle⟩
def d_settled : List St := [(.ret (.idx (.call 3 [(.var 0), (.var 1), (.var 2)]) (.int 0)))]
def f_settled : Fn := ⟨3, 3, d_settled⟩
def d_firings : List St := [(.ret (.idx (.call 3 [(.var 0), (.var 1), (.var 2)]) (.int 1)))]
def f_firings : Fn := ⟨3, 3, d_firings⟩
def d_come_home : List St := [(.ret (.bin .sub (.bi .sum [(.var 2)]) (.bi .sum [(.call 4 [(.var 0), (.var 1), (.var 2)])])))]
def f_come_home : Fn := ⟨3, 3, d_come_home⟩
def d_is_steady : List St := [(.set 3 (.call 1 [(.var 0)])),
  (.ret (.cmp .eq (.comp (.var 4) (.nm 4) .rng1 [(.idx (.var 0) (.int 0))] [(.and [(.cmp .ne (.var 4) (.var 1)), (.cmp .ge (.idx (.var 2) (.var 4)) (.idx (.var 3) (.var 4)))])] [4]) (.lst [])))]
def f_is_steady : Fn := ⟨3, 5, d_is_steady⟩
def d_roads_to : List St := [(.ret (.bi .sum [(.comp (.idx (.var 0) (.var 2)) (.nm 2) .seq [(.var 1)] [] [2])]))]
def f_roads_to : Fn := ⟨2, 3, d_roads_to⟩
def d_burnt : List St := [(.setT (.tp [(.nm 3), (.nm 4), (.nm 5)]) (.tup [(.call 0 [(.var 0)]), (.call 1 [(.var 0)]), (.lst [(.var 1)])])),
  (.set 6 (.lst [(.var 1)])),
  (.whl (.cmp .ne (.var 6) (.lst [])) [(.set 7 (.comp (.var 8) (.nm 8) .rng1 [(.idx (.var 0) (.int 0))] [(.cmp .notin (.var 8) (.var 5))] [8])), (.set 6 (.comp (.var 8) (.nm 8) .seq [(.var 7)] [(.cmp .ge (.bin .add (.idx (.var 2) (.var 8)) (.call 8 [(.idx (.var 3) (.var 8)), (.var 5)])) (.idx (.var 4) (.var 8)))] [8])), (.set 5 (.bin .add (.var 5) (.var 6)))]),
  (.ret (.var 5))]
def f_burnt : Fn := ⟨3, 9, d_burnt⟩
def d_burning : List St := [(.ite (.not (.call 7 [(.var 0), (.var 1), (.var 2)])) [(.rse 1 [])] []),
  (.set 3 (.call 9 [(.var 0), (.var 1), (.var 2)])),
  (.ite (.cmp .eq (.bi .len [(.var 3)]) (.idx (.var 0) (.int 0))) [(.ret (.tup [(.str "burns"), (.bi .tuple [(.var 3)])]))] []),
  (.ret (.tup [(.str "stuck"), (.bi .tuple [(.comp (.var 4) (.nm 4) .rng1 [(.idx (.var 0) (.int 0))] [(.cmp .notin (.var 4) (.var 3))] [4])])]))]
def f_burning : Fn := ⟨3, 5, d_burning⟩
def d_comes_again : List St := [(.ret (.and [(.call 7 [(.var 0), (.var 1), (.var 2)]), (.cmp .eq (.bi .len [(.call 9 [(.var 0), (.var 1), (.var 2)])]) (.idx (.var 0) (.int 0)))]))]
def f_comes_again : Fn := ⟨3, 3, d_comes_again⟩
def d_is_least_pile : List St := [(.setT (.tp [(.nm 3), (.nm 4)]) (.tup [(.call 0 [(.var 0)]), (.lst [(.var 1)])])),
  (.set 5 (.lst [(.var 1)])),
  (.whl (.cmp .ne (.var 5) (.lst [])) [(.set 6 (.comp (.var 7) (.nm 7) .rng1 [(.idx (.var 0) (.int 0))] [(.cmp .notin (.var 7) (.var 4))] [7])), (.set 5 (.comp (.var 7) (.nm 7) .seq [(.var 6)] [(.cmp .lt (.idx (.var 2) (.var 7)) (.call 8 [(.idx (.var 3) (.var 7)), (.var 4)]))] [7])), (.set 4 (.bin .add (.var 4) (.var 5)))]),
  (.ret (.cmp .eq (.bi .len [(.var 4)]) (.idx (.var 0) (.int 0))))]
def f_is_least_pile : Fn := ⟨3, 8, d_is_least_pile⟩
def d_is_crossing : List St := [(.ret (.and [(.bi (.isinst 0) [(.var 1)]), (.not (.bi (.isinst 1) [(.var 1)])), (.chn .le .lt (.int 0) (.var 1) (.idx (.var 0) (.int 0)))]))]
def f_is_crossing : Fn := ⟨2, 2, d_is_crossing⟩
def d_is_burning_form : List St := [(.ite (.or [(.not (.bi (.isinst 2) [(.var 2)])), (.cmp .ne (.bi .len [(.var 2)]) (.int 2)), (.not (.bi (.isinst 2) [(.idx (.var 2) (.int 1))]))]) [(.ret (.bl false))] []),
  (.setT (.tp [(.nm 3), (.nm 4)]) (.var 2)),
  (.ite (.or [(.not (.bi (.isinst 3) [(.var 3)])), (.cmp .notin (.var 3) (.tup [(.str "burns"), (.str "stuck")]))]) [(.ret (.bl false))] []),
  (.ite (.cmp .ne (.comp (.var 5) (.nm 5) .seq [(.var 4)] [(.not (.call 13 [(.var 0), (.var 5)]))] [5]) (.lst [])) [(.ret (.bl false))] []),
  (.ite (.cmp .eq (.var 3) (.str "burns")) [(.ret (.cmp .eq (.bi .sorted [(.var 4)]) (.bi .lrng1 [(.idx (.var 0) (.int 0))])))] []),
  (.ret (.and [(.cmp .ne (.var 4) (.tup [])), (.cmp .notin (.var 1) (.var 4)), (.cmp .eq (.comp (.var 6) (.nm 6) .rng2 [(.int 1), (.bi .len [(.var 4)])] [(.cmp .le (.idx (.var 4) (.var 6)) (.idx (.var 4) (.bin .sub (.var 6) (.int 1))))] [6]) (.lst []))]))]
def f_is_burning_form : Fn := ⟨3, 7, d_is_burning_form⟩
def d_judge_burning : List St := [(.setT (.tp [(.nm 4), (.nm 5)]) (.tup [(.call 0 [(.var 0)]), (.call 1 [(.var 0)])])),
  (.set 6 (.comp (.var 7) (.nm 7) .rng1 [(.idx (.var 0) (.int 0))] [(.and [(.cmp .ne (.var 7) (.var 1)), (.cmp .ge (.idx (.var 2) (.var 7)) (.idx (.var 5) (.var 7)))])] [7])),
  (.ite (.cmp .ne (.var 6) (.lst [])) [(.ret (.tup [(.str "steady"), (.idx (.var 6) (.int 0))]))] []),
  (.ite (.not (.call 14 [(.var 0), (.var 1), (.var 3)])) [(.ret (.tup [(.str "form")]))] []),
  (.setT (.tp [(.nm 8), (.nm 9)]) (.var 3)),
  (.ite (.cmp .eq (.var 8) (.str "stuck")) [(.set 10 (.comp (.var 7) (.nm 7) .seq [(.var 9)] [(.cmp .ge (.idx (.var 2) (.var 7)) (.call 8 [(.idx (.var 4) (.var 7)), (.var 9)]))] [7])), (.ret (.ife (.cmp .ne (.var 10) (.lst [])) (.tup [(.str "free"), (.idx (.var 10) (.int 0))]) .non))] []),
  (.ite (.cmp .ne (.idx (.var 9) (.int 0)) (.var 1)) [(.ret (.tup [(.str "home")]))] []),
  (.set 11 (.comp (.var 12) (.nm 12) .rng2 [(.int 1), (.bi .len [(.var 9)])] [(.cmp .lt (.bin .add (.idx (.var 2) (.idx (.var 9) (.var 12))) (.call 8 [(.idx (.var 4) (.idx (.var 9) (.var 12))), (.slc (.var 9) none (some (.var 12)))])) (.idx (.var 5) (.idx (.var 9) (.var 12))))] [12])),
  (.ret (.ife (.cmp .ne (.var 11) (.lst [])) (.tup [(.str "early"), (.idx (.var 11) (.int 0))]) .non))]
def f_judge_burning : Fn := ⟨4, 13, d_judge_burning⟩
def d_begun : List St := [(.set 1 (.ife (.var 0) (.me .index (.var 0) [(.bi .min1 [(.var 0)])]) (.int 0))),
  (.ret (.bin .add (.slc (.var 0) (some (.var 1)) none) (.slc (.var 0) none (some (.var 1)))))]
def f_begun : Fn := ⟨1, 2, d_begun⟩
def d_ends_at : List St := [(.ret (.bi .list [(.call 16 [(.idx (.idx (.var 0) (.int 2)) (.var 1))])]))]
def f_ends_at : Fn := ⟨2, 2, d_ends_at⟩
def d_is_integer : List St := [(.ret (.and [(.bi (.isinst 0) [(.var 0)]), (.not (.bi (.isinst 1) [(.var 0)]))]))]
def f_is_integer : Fn := ⟨1, 1, d_is_integer⟩
def d_is_below : List St := [(.ret (.and [(.call 18 [(.var 0)]), (.chn .le .lt (.int 0) (.var 0) (.var 1))]))]
def f_is_below : Fn := ⟨2, 2, d_is_below⟩
def d_is_tuple : List St := [(.ret (.and [(.bi (.isinst 2) [(.var 0)]), (.cmp .eq (.bi .len [(.var 0)]) (.var 1))]))]
def f_is_tuple : Fn := ⟨2, 2, d_is_tuple⟩
def d_wrong_tree : List St := [(.ite (.not (.call 20 [(.var 1), (.bin .sub (.idx (.var 0) (.int 0)) (.int 1))])) [(.ret (.tup []))] []),
  (.set 2 (.bi .lrng1 [(.idx (.var 0) (.int 0))])),
  (.loop (.tp [(.nm 3), (.nm 4)]) .enm [(.var 1)] [(.ite (.or [(.not (.call 19 [(.var 4), (.bi .len [(.idx (.var 0) (.int 1))])])), (.and [(.cmp .gt (.var 3) (.int 0)), (.cmp .le (.var 4) (.idx (.var 1) (.bin .sub (.var 3) (.int 1))))])]) [(.ret (.tup [(.var 3)]))] []), (.setT (.tp [(.nm 5), (.nm 6)]) (.comp (.idx (.var 2) (.var 7)) (.nm 7) .seq [(.idx (.idx (.var 0) (.int 1)) (.var 4))] [] [7])), (.ite (.cmp .eq (.var 5) (.var 6)) [(.ret (.tup [(.var 3)]))] []), (.set 2 (.comp (.ife (.cmp .eq (.var 8) (.var 5)) (.var 6) (.var 8)) (.nm 8) .seq [(.var 2)] [] [8]))]),
  (.ret .non)]
def f_wrong_tree : Fn := ⟨2, 9, d_wrong_tree⟩
def d_is_tree : List St := [(.ret (.cmp .iss (.call 21 [(.var 0), (.var 1)]) .non))]
def f_is_tree : Fn := ⟨2, 2, d_is_tree⟩
def d_joined_pieces : List St := [(.ret (.comp (.ife (.cmp .eq (.var 3) (.idx (.var 0) (.var 2))) (.idx (.var 0) (.var 1)) (.var 3)) (.nm 3) .seq [(.var 0)] [] [3]))]
def f_joined_pieces : Fn := ⟨3, 4, d_joined_pieces⟩
def d_all_trees : List St := [(.setT (.tp [(.nm 1), (.nm 2), (.nm 3)]) (.var 0)),
  (.setT (.tp [(.nm 4), (.nm 5)]) (.tup [(.lst []), (.lst [(.tup [(.tup []), (.bi .lrng1 [(.var 1)]), (.int 0)])])])),
  (.whl (.var 5) [(.setT (.tp [(.nm 6), (.nm 7), (.nm 8)]) (.me .pop (.var 5) [])), (.ite (.cmp .eq (.bi .len [(.var 6)]) (.bin .sub (.var 1) (.int 1))) [(.ex (.me .append (.var 4) [(.var 6)]))] [(.ite (.cmp .lt (.var 8) (.bi .len [(.var 2)])) [(.setT (.tp [(.nm 9), (.nm 10)]) (.idx (.var 2) (.var 8))), (.ex (.me .append (.var 5) [(.tup [(.var 6), (.var 7), (.bin .add (.var 8) (.int 1))])])), (.ite (.cmp .ne (.idx (.var 7) (.var 9)) (.idx (.var 7) (.var 10))) [(.ex (.me .append (.var 5) [(.tup [(.tup [(.star (.var 6)), (.var 8)]), (.call 23 [(.var 7), (.var 9), (.var 10)]), (.bin .add (.var 8) (.int 1))])]))] [])] [])])]),
  (.ret (.var 4))]
def f_all_trees : Fn := ⟨1, 11, d_all_trees⟩
def d_tries_by_numbers : List St := [(.setT (.tp [(.nm 4), (.nm 5), (.nm 6), (.nm 7)]) (.tup [(.dct [(.var 1), (.bl true)]), (.dct []), (.lst []), (.bi .list [(.var 3)])])),
  (.set 8 (.lst [(.int 0)])),
  (.whl (.cmp .ne (.var 8) (.lst [])) [(.set 8 (.comp (.var 9) (.tp [(.nm 9), (.tp [(.nm 10), (.nm 11)])]) .enm [(.idx (.var 0) (.int 1))] [(.and [(.cmp .notin (.var 9) (.var 5)), (.cmp .ne (.cmp .isin (.var 10) (.var 4)) (.cmp .isin (.var 11) (.var 4)))])] [9, 10, 11])), (.ite (.cmp .ne (.var 8) (.lst [])) [(.setT (.tp [(.nm 12), (.nm 13)]) (.idx (.idx (.var 0) (.int 1)) (.idx (.var 8) (.int 0)))), (.set 14 (.ife (.cmp .isin (.var 12) (.var 4)) (.var 13) (.var 12))), (.ex (.me .append (.var 6) [(.tup [(.idx (.var 8) (.int 0)), (.var 14), (.call 26 [(.idx (.var 8) (.int 0)), (.var 14), (.var 2), (.var 7)])])])), (.setI (.var 5) (.idx (.var 8) (.int 0)) (.bl true)), (.ite (.idx (.idx (.var 6) (.neg (.int 1))) (.int 2)) [(.setI (.var 4) (.var 14) (.bl true))] [])] [])]),
  (.ret (.var 6))]
def f_tries_by_numbers : Fn := ⟨4, 15, d_tries_by_numbers⟩
def d_is_lighting : List St := [(.setI (.var 3) (.var 1) (.bin .sub (.idx (.var 3) (.var 1)) (.int 1))),
  (.ret (.ife (.cmp .isnt (.var 2) .non) (.cmp .isin (.var 0) (.var 2)) (.cmp .eq (.idx (.var 3) (.var 1)) (.int 0))))]
def f_is_lighting : Fn := ⟨4, 4, d_is_lighting⟩
def d_ends_behind : List St := [(.loop (.nm 2) .seq [(.idx (.var 0) (.int 2))] [(.ite (.cmp .isin (.var 1) (.var 2)) [(.set 3 (.me .index (.var 2) [(.var 1)])), (.ret (.bi .list [(.bin .add (.slc (.var 2) (some (.bin .add (.var 3) (.int 1))) none) (.slc (.var 2) none (some (.var 3))))]))] [])]),
  (.ret (.lst []))]
def f_ends_behind : Fn := ⟨2, 4, d_ends_behind⟩
def d_tries_by_turns : List St := [(.setT (.tp [(.nm 4), (.nm 5), (.nm 6), (.nm 7)]) (.tup [(.dct [(.var 1), (.bl true)]), (.dct []), (.lst []), (.bi .list [(.var 3)])])),
  (.set 8 (.lst [(.bi .list [(.call 17 [(.var 0), (.var 1)])])])),
  (.whl (.cmp .ne (.var 8) (.lst [])) [(.ite (.cmp .eq (.idx (.var 8) (.neg (.int 1))) (.lst [])) [(.ex (.me .pop (.var 8) [])), .cont] []), (.set 9 (.me .pop (.idx (.var 8) (.neg (.int 1))) [(.int 0)])), (.setT (.tp [(.nm 10), (.nm 11)]) (.tup [(.bin .fdiv (.var 9) (.int 2)), (.idx (.idx (.idx (.var 0) (.int 1)) (.bin .fdiv (.var 9) (.int 2))) (.bin .sub (.int 1) (.bin .mod (.var 9) (.int 2))))])), (.ite (.and [(.cmp .notin (.var 10) (.var 5)), (.cmp .notin (.var 11) (.var 4))]) [(.ex (.me .append (.var 6) [(.tup [(.var 10), (.var 11), (.call 26 [(.var 10), (.var 11), (.var 2), (.var 7)])])])), (.setI (.var 5) (.var 10) (.bl true)), (.ite (.idx (.idx (.var 6) (.neg (.int 1))) (.int 2)) [(.setI (.var 4) (.var 11) (.bl true)), (.ex (.me .append (.var 8) [(.call 27 [(.var 0), (.bin .sub (.bin .add (.var 9) (.int 1)) (.bin .mul (.int 2) (.bin .mod (.var 9) (.int 2))))])]))] [])] [])]),
  (.ret (.var 6))]
def f_tries_by_turns : Fn := ⟨4, 12, d_tries_by_turns⟩
def d_tries : List St := [(.ite (.cmp .eq (.var 4) (.str "numbers")) [(.ret (.call 25 [(.var 0), (.var 1), (.var 2), (.var 3)]))] []),
  (.ret (.call 28 [(.var 0), (.var 1), (.var 2), (.var 3)]))]
def f_tries : Fn := ⟨5, 5, d_tries⟩
def d_tries_of_pile : List St := [(.ite (.not (.call 11 [(.var 0), (.var 1), (.var 2)])) [(.rse 1 [])] []),
  (.ret (.call 29 [(.var 0), (.var 1), .non, (.comp (.bin .sub (.var 4) (.var 5)) (.tp [(.nm 4), (.nm 5)]) .zip [(.call 1 [(.var 0)]), (.var 2)] [] [4, 5]), (.var 3)]))]
def f_tries_of_pile : Fn := ⟨4, 6, d_tries_of_pile⟩
def d_tree_of_pile : List St := [(.ret (.bi .tuple [(.bi .sorted [(.comp (.var 4) (.tp [(.nm 4), (.nm 5), (.nm 6)]) .seq [(.call 30 [(.var 0), (.var 1), (.var 2), (.var 3)])] [(.var 6)] [4, 5, 6])])]))]
def f_tree_of_pile : Fn := ⟨4, 7, d_tree_of_pile⟩
def d_pile_of_tree : List St := [(.ite (.not (.call 22 [(.var 0), (.var 2)])) [(.rse 1 [])] []),
  (.set 4 (.comp (.ife (.cmp .ne (.var 5) (.var 1)) (.var 6) (.int 0)) (.tp [(.nm 5), (.nm 6)]) .enm [(.call 1 [(.var 0)])] [] [5, 6])),
  (.loop (.tp [(.nm 7), (.nm 8), (.nm 9)]) .seq [(.call 29 [(.var 0), (.var 1), (.var 2), (.bin .mul (.lst [(.int 0)]) (.idx (.var 0) (.int 0))), (.var 3)])] [(.setI (.var 4) (.var 8) (.bin .sub (.idx (.var 4) (.var 8)) (.int 1)))]),
  (.ret (.bi .tuple [(.var 4)]))]
def f_pile_of_tree : Fn := ⟨4, 10, d_pile_of_tree⟩
def d_level : List St := [(.ite (.not (.call 11 [(.var 0), (.var 1), (.var 2)])) [(.rse 1 [])] []),
  (.ret (.bin .sub (.bin .add (.bi .sum [(.var 2)]) (.idx (.call 1 [(.var 0)]) (.var 1))) (.bin .fdiv (.bi .sum [(.call 1 [(.var 0)])]) (.int 2))))]
def f_level : Fn := ⟨3, 3, d_level⟩
def d_are_joined : List St := [(.setT (.tp [(.nm 4), (.nm 5)]) (.tup [(.dct [(.var 2), (.bl true)]), (.lst [(.var 2)])])),
  (.whl (.cmp .ne (.var 5) (.lst [])) [(.set 6 (.me .pop (.var 5) [])), (.loop (.nm 7) .seq [(.var 1)] [(.ite (.cmp .isin (.var 6) (.idx (.idx (.var 0) (.int 1)) (.var 7))) [(.set 8 (.bin .sub (.bi .sum [(.idx (.idx (.var 0) (.int 1)) (.var 7))]) (.var 6))), (.ite (.cmp .notin (.var 8) (.var 4)) [(.setI (.var 4) (.var 8) (.bl true)), (.ex (.me .append (.var 5) [(.var 8)]))] [])] [])])]),
  (.ret (.cmp .isin (.var 3) (.var 4)))]
def f_are_joined : Fn := ⟨4, 9, d_are_joined⟩
def d_outer_active : List St := [(.ite (.not (.call 22 [(.var 0), (.var 1)])) [(.rse 1 [])] []),
  (.set 2 (.lst [])),
  (.loop (.tp [(.nm 3), (.tp [(.nm 4), (.nm 5)])]) .enm [(.idx (.var 0) (.int 1))] [(.ite (.and [(.cmp .ne (.var 4) (.var 5)), (.cmp .notin (.var 3) (.var 1)), (.call 34 [(.var 0), (.comp (.var 6) (.nm 6) .seq [(.var 1)] [(.cmp .lt (.var 6) (.var 3))] [6]), (.var 4), (.var 5)])]) [(.ex (.me .append (.var 2) [(.var 3)]))] [])]),
  (.ret (.bi .tuple [(.var 2)]))]
def f_outer_active : Fn := ⟨2, 7, d_outer_active⟩
def d_levels : List St := [(.set 1 (.bin .mul (.lst [(.int 0)]) (.bin .add (.bin .sub (.bin .fdiv (.bi .sum [(.call 1 [(.var 0)])]) (.int 2)) (.idx (.var 0) (.int 0))) (.int 2)))),
  (.loop (.nm 2) .seq [(.call 24 [(.var 0)])] [(.set 3 (.bi .len [(.call 35 [(.var 0), (.var 2)])])), (.setI (.var 1) (.var 3) (.bin .add (.idx (.var 1) (.var 3)) (.int 1)))]),
  (.ret (.bi .tuple [(.var 1)]))]
def f_levels : Fn := ⟨1, 4, d_levels⟩
def d_recurrent_of : List St := [(.set 3 (.call 1 [(.var 0)])),
  (.set 4 (.bi .tuple [(.comp (.ife (.cmp .ne (.var 5) (.var 1)) (.bin .mul (.int 2) (.var 6)) (.int 0)) (.tp [(.nm 5), (.nm 6)]) .enm [(.var 3)] [] [5, 6])])),
  (.set 7 (.comp (.bin .sub (.var 8) (.var 9)) (.tp [(.nm 8), (.nm 9)]) .zip [(.var 4), (.call 4 [(.var 0), (.var 1), (.var 4)])] [] [8, 9])),
  (.set 10 (.int 1)),
  (.loop (.nm 5) .rng1 [(.idx (.var 0) (.int 0))] [(.ite (.cmp .ne (.var 5) (.var 1)) [(.set 10 (.bi .max2 [(.var 10), (.bin .fdiv (.bin .sub (.bin .add (.bin .sub (.idx (.var 3) (.var 5)) (.idx (.var 2) (.var 5))) (.idx (.var 7) (.var 5))) (.int 1)) (.idx (.var 7) (.var 5)))]))] [])]),
  (.set 11 (.comp (.ife (.cmp .ne (.var 5) (.var 1)) (.bin .add (.idx (.var 2) (.var 5)) (.bin .mul (.var 10) (.idx (.var 7) (.var 5)))) (.int 0)) (.nm 5) .rng1 [(.idx (.var 0) (.int 0))] [] [5])),
  (.ret (.call 4 [(.var 0), (.var 1), (.bi .tuple [(.var 11)])]))]
def f_recurrent_of : Fn := ⟨3, 12, d_recurrent_of⟩
def d_idle_pile : List St := [(.ret (.call 37 [(.var 0), (.var 1), (.bin .mul (.tup [(.int 0)]) (.idx (.var 0) (.int 0)))]))]
def f_idle_pile : Fn := ⟨2, 2, d_idle_pile⟩
def d_need_again : List St := [(.ite (.not (.call 11 [(.var 0), (.var 1), (.var 2)])) [(.rse 1 [])] [])]
def f_need_again : Fn := ⟨3, 3, d_need_again⟩
def d_put_together : List St := [(.ex (.call 39 [(.var 0), (.var 1), (.var 2)])),
  (.ex (.call 39 [(.var 0), (.var 1), (.var 3)])),
  (.ret (.call 4 [(.var 0), (.var 1), (.bi .tuple [(.comp (.bin .add (.var 4) (.var 5)) (.tp [(.nm 4), (.nm 5)]) .zip [(.var 2), (.var 3)] [] [4, 5])])]))]
def f_put_together : Fn := ⟨4, 6, d_put_together⟩
def d_opposite : List St := [(.ex (.call 39 [(.var 0), (.var 1), (.var 2)])),
  (.ret (.call 37 [(.var 0), (.var 1), (.bi .tuple [(.comp (.bin .sub (.int 0) (.var 3)) (.nm 3) .seq [(.call 2 [(.var 0), (.var 1), (.var 2)])] [] [3])])]))]
def f_opposite : Fn := ⟨3, 4, d_opposite⟩
def d_recurrent_list : List St := [(.ret (.bi .sorted [(.comp (.call 32 [(.var 0), (.var 1), (.var 2), (.str "numbers")]) (.nm 2) .seq [(.call 24 [(.var 0)])] [] [2])]))]
def f_recurrent_list : Fn := ⟨2, 3, d_recurrent_list⟩
def d__law_source : List St := [(.set 1 (.int 11)),
  (.loop (.nm 2) .seq [(.var 0)] [(.set 1 (.bin .mod (.bi .int [(.bin .add (.bin .add (.bin .mul (.var 1) (.int 69069)) (.bin .mul (.var 2) (.int 31))) (.int 5))]) (.int 2147483629)))]),
  (.ret (.dct [(.str "cells"), (.bi .rev [(.comp (.bi .abs [(.var 2)]) (.nm 2) .seq [(.var 0)] [] [2])]), (.str "left"), (.int 1), (.str "mixed"), (.var 1), (.str "turn"), (.int 0)]))]
def f__law_source : Fn := ⟨1, 3, d__law_source⟩
def d__law_pick : List St := [(.whl (.and [(.cmp .gt (.var 1) (.int 1)), (.cmp .lt (.idx (.var 0) (.str "left")) (.int 2)), (.cmp .gt (.bi .len [(.idx (.var 0) (.str "cells"))]) (.int 0))]) [(.setI (.var 0) (.str "left") (.me .pop (.idx (.var 0) (.str "cells")) []))]),
  (.set 2 (.idx (.var 0) (.str "left"))),
  (.ite (.or [(.cmp .lt (.var 1) (.int 2)), (.cmp .gt (.var 2) (.int 1))]) [(.setI (.var 0) (.str "left") (.bin .fdiv (.var 2) (.bi .max2 [(.int 1), (.var 1)]))), (.ret (.bin .mod (.bi .int [(.var 2)]) (.bi .max2 [(.int 1), (.var 1)])))] []),
  (.setI (.var 0) (.str "turn") (.bin .add (.idx (.var 0) (.str "turn")) (.int 1))),
  (.set 3 (.bin .mod (.bi .int [(.bin .add (.idx (.var 0) (.str "mixed")) (.bin .mul (.idx (.var 0) (.str "turn")) (.int 104729)))]) (.int 998244353))),
  (.set 3 (.bin .mod (.bi .int [(.bin .add (.bin .mul (.var 3) (.var 3)) (.bin .mul (.idx (.var 0) (.str "turn")) (.int 17)))]) (.int 2147483647))),
  (.setI (.var 0) (.str "mixed") (.var 3)),
  (.ret (.bin .mod (.bi .int [(.bin .fdiv (.var 3) (.int 16))]) (.var 1)))]
def f__law_pick : Fn := ⟨2, 4, d__law_pick⟩
def d__law_ring_right : List St := [(.set 1 (.bi .tuple [(.comp (.tup [(.var 2), (.ife (.cmp .eq (.var 2) (.bin .sub (.var 0) (.int 1))) (.int 0) (.bin .add (.var 2) (.int 1)))]) (.nm 2) .rng1 [(.var 0)] [] [2])])),
  (.set 3 (.tup [(.var 0), (.var 1), (.bi .tuple [(.comp (.tup [(.bin .mul (.int 2) (.var 2)), (.ife (.cmp .eq (.var 2) (.int 0)) (.bin .sub (.bin .mul (.int 2) (.var 0)) (.int 1)) (.bin .sub (.bin .mul (.int 2) (.var 2)) (.int 1)))]) (.nm 2) .rng1 [(.var 0)] [] [2])])])),
  (.set 4 (.bin .add (.tup [(.int 0)]) (.bin .mul (.tup [(.int 1)]) (.bin .sub (.var 0) (.int 1))))),
  (.set 5 (.bi .sorted [(.bin .add (.lst [(.var 4)]) (.comp (.bin .add (.bin .add (.slc (.var 4) none (some (.var 6))) (.tup [(.int 0)])) (.slc (.var 4) (some (.bin .add (.var 6) (.int 1))) none)) (.nm 6) .rng2 [(.int 1), (.var 0)] [] [6]))])),
  (.set 7 (.ife (.cmp .eq (.bin .mod (.bi .int [(.var 0)]) (.int 2)) (.int 1)) (.var 4) (.bin .add (.bin .add (.slc (.var 4) none (some (.bin .fdiv (.var 0) (.int 2)))) (.tup [(.int 0)])) (.slc (.var 4) (some (.bin .add (.bin .fdiv (.var 0) (.int 2)) (.int 1))) none)))),
  (.ite (.or [(.cmp .ne (.bi .repr [(.call 42 [(.var 3), (.int 0)])]) (.bi .repr [(.var 5)])), (.cmp .ne (.bi .repr [(.call 38 [(.var 3), (.int 0)])]) (.bi .repr [(.var 7)]))]) [(.ret (.bl false))] []),
  (.ite (.cmp .ne (.bi .repr [(.lst [(.call 36 [(.var 3)]), (.call 33 [(.var 3), (.int 0), (.var 4)]), (.call 33 [(.var 3), (.int 0), (.idx (.var 5) (.int 0))])])]) (.bi .repr [(.lst [(.tup [(.bin .sub (.var 0) (.int 1)), (.int 1)]), (.int 1), (.int 0)])])) [(.ret (.bl false))] []),
  (.set 8 (.bi .tuple [(.comp (.bi .int [(.cmp .gt (.var 2) (.int 0))]) (.nm 2) .rng1 [(.var 0)] [] [2])])),
  (.set 9 (.bi .tuple [(.comp (.bin .add (.var 10) (.bi .int [(.cmp .isin (.var 2) (.tup [(.int 1), (.bin .sub (.var 0) (.int 1))]))])) (.tp [(.nm 2), (.nm 10)]) .enm [(.var 4)] [] [2, 10])])),
  (.ret (.cmp .eq (.bi .repr [(.lst [(.call 5 [(.var 3), (.int 0), (.var 9)]), (.call 4 [(.var 3), (.int 0), (.var 9)])])]) (.bi .repr [(.lst [(.var 8), (.var 4)])])))]
def f__law_ring_right : Fn := ⟨1, 11, d__law_ring_right⟩
def d__law_many_right : List St := [(.set 1 (.tup [(.int 2), (.bin .mul (.tup [(.tup [(.int 0), (.int 1)])]) (.var 0)), (.tup [(.bi .tuple [(.comp (.bin .mul (.int 2) (.var 2)) (.nm 2) .rng1 [(.var 0)] [] [2])]), (.bi .tuple [(.comp (.bin .add (.bin .mul (.int 2) (.var 2)) (.int 1)) (.nm 2) .rng1 [(.var 0)] [] [2])])])])),
  (.set 3 (.comp (.tup [(.int 0), (.var 4)]) (.nm 4) .rng1 [(.var 0)] [] [4])),
  (.set 5 (.lst [(.call 42 [(.var 1), (.int 0)]), (.call 38 [(.var 1), (.int 0)]), (.call 36 [(.var 1)]), (.call 6 [(.var 1), (.int 0), (.tup [(.int 0), (.bin .add (.bin .mul (.int 7) (.var 0)) (.int 1))])])])),
  (.ite (.cmp .ne (.bi .repr [(.var 5)]) (.bi .repr [(.lst [(.var 3), (.tup [(.int 0), (.int 0)]), (.bin .mul (.tup [(.int 1)]) (.var 0)), (.bin .mul (.bin .fdiv (.bin .add (.bin .mul (.int 7) (.var 0)) (.int 1)) (.var 0)) (.var 0))])])) [(.ret (.bl false))] []),
  (.set 5 (.comp (.call 31 [(.var 1), (.int 0), (.var 6), (.str "numbers")]) (.nm 6) .seq [(.var 3)] [] [6])),
  (.set 5 (.ife (.cmp .gt (.var 0) (.int 1)) (.bin .add (.var 5) (.lst [(.call 40 [(.var 1), (.int 0), (.tup [(.int 0), (.bin .sub (.var 0) (.int 1))]), (.tup [(.int 0), (.int 1)])])])) (.var 5))),
  (.set 7 (.bin .add (.comp (.tup [(.bin .sub (.bin .sub (.var 0) (.int 1)) (.var 4))]) (.nm 4) .rng1 [(.var 0)] [] [4]) (.ife (.cmp .gt (.var 0) (.int 1)) (.lst [(.tup [(.int 0), (.int 0)])]) (.lst [])))),
  (.ret (.and [(.cmp .eq (.bi .repr [(.var 5)]) (.bi .repr [(.var 7)])), (.cmp .eq (.bi .repr [(.call 37 [(.var 1), (.int 0), (.tup [(.int 5), (.neg (.int 5))])])]) (.bi .repr [(.tup [(.int 0), (.bin .mod (.bi .int [(.neg (.int 5))]) (.var 0))])]))]))]
def f__law_many_right : Fn := ⟨1, 8, d__law_many_right⟩
def d_law : List St := [(.set 1 (.call 43 [(.var 0)])),
  (.set 2 (.tup [(.int 3), (.tup [(.tup [(.int 0), (.int 1)]), (.tup [(.int 1), (.int 2)]), (.tup [(.int 0), (.int 2)])]), (.tup [(.tup [(.int 0), (.int 4)]), (.tup [(.int 1), (.int 2)]), (.tup [(.int 3), (.int 5)])])])),
  (.set 3 (.lst [(.call 1 [(.var 2)]), (.call 42 [(.var 2), (.int 0)]), (.call 38 [(.var 2), (.int 0)])])),
  (.set 3 (.bin .add (.var 3) (.lst [(.call 4 [(.var 2), (.int 0), (.tup [(.int 0), (.int 2), (.int 2)])]), (.call 5 [(.var 2), (.int 0), (.tup [(.int 0), (.int 2), (.int 2)])])]))),
  (.set 4 (.lst [(.tup [(.int 2), (.int 2), (.int 2)]), (.lst [(.tup [(.int 0), (.int 0), (.int 1)]), (.tup [(.int 0), (.int 1), (.int 0)]), (.tup [(.int 0), (.int 1), (.int 1)])]), (.tup [(.int 0), (.int 1), (.int 1)]), (.tup [(.int 0), (.int 1), (.int 1)]), (.tup [(.int 0), (.int 1), (.int 1)])])),
  (.ite (.or [(.cmp .ne (.bi .repr [(.var 3)]) (.bi .repr [(.var 4)])), (.cmp .ne (.bi .repr [(.call 10 [(.var 2), (.int 0), (.tup [(.int 0), (.int 0), (.int 0)])])]) (.bi .repr [(.tup [(.str "stuck"), (.tup [(.int 1), (.int 2)])])]))]) [(.ret (.bl false))] []),
  (.set 3 (.comp (.call 31 [(.var 2), (.int 0), (.var 5), (.str "numbers")]) (.nm 5) .seq [(.lst [(.tup [(.int 0), (.int 1), (.int 1)]), (.tup [(.int 0), (.int 1), (.int 0)]), (.tup [(.int 0), (.int 0), (.int 1)])])] [] [5])),
  (.set 3 (.bin .add (.var 3) (.lst [(.call 35 [(.var 2), (.tup [(.int 0), (.int 1)])]), (.call 36 [(.var 2)]), (.call 2 [(.var 2), (.int 0), (.tup [(.int 0), (.int 1), (.int 0)])]), (.call 41 [(.var 2), (.int 0), (.tup [(.int 0), (.int 1), (.int 0)])])]))),
  (.ite (.cmp .ne (.bi .repr [(.var 3)]) (.bi .repr [(.lst [(.tup [(.int 0), (.int 1)]), (.tup [(.int 0), (.int 2)]), (.tup [(.int 1), (.int 2)]), (.tup [(.int 2)]), (.tup [(.int 2), (.int 1)]), (.tup [(.neg (.int 1)), (.int 1), (.int 0)]), (.tup [(.int 0), (.int 0), (.int 1)])])])) [(.ret (.bl false))] []),
  (.set 3 (.lst [(.call 11 [(.var 2), (.int 0), (.tup [(.int 0), (.int 0), (.int 0)])]), (.call 11 [(.var 2), (.int 0), (.tup [(.int 0), (.int 2), (.int 1)])]), (.call 12 [(.var 2), (.int 0), (.tup [(.int 0), (.int 0), (.int 0)])])])),
  (.set 3 (.bin .add (.var 3) (.lst [(.call 12 [(.var 2), (.int 0), (.tup [(.int 0), (.int 1), (.int 1)])]), (.call 15 [(.var 2), (.int 0), (.tup [(.int 0), (.int 0), (.int 1)]), (.tup [(.str "burns"), (.tup [(.int 0), (.int 1), (.int 2)])])])]))),
  (.ite (.cmp .ne (.bi .repr [(.var 3)]) (.bi .repr [(.lst [(.bl false), (.bl false), (.bl true), (.bl false), (.tup [(.str "early"), (.int 1)])])])) [(.ret (.bl false))] []),
  (.setT (.tp [(.nm 6), (.nm 7)]) (.tup [(.tup [(.int 1), (.tup []), (.tup [(.tup [])])]), (.tup [(.int 1), (.tup [(.tup [(.int 0), (.int 0)])]), (.tup [(.tup [(.int 0), (.int 1)])])])])),
  (.loop (.nm 8) .seq [(.tup [(.var 6), (.var 7)])] [(.set 3 (.lst [(.call 42 [(.var 8), (.int 0)]), (.call 38 [(.var 8), (.int 0)]), (.call 36 [(.var 8)]), (.call 31 [(.var 8), (.int 0), (.tup [(.int 0)]), (.str "turns")])])), (.set 3 (.bin .add (.var 3) (.lst [(.call 32 [(.var 8), (.int 0), (.tup []), (.str "numbers")]), (.call 10 [(.var 8), (.int 0), (.tup [(.int 0)])]), (.call 1 [(.var 8)])]))), (.ite (.cmp .ne (.bi .repr [(.var 3)]) (.bi .repr [(.lst [(.lst [(.tup [(.int 0)])]), (.tup [(.int 0)]), (.tup [(.int 1)]), (.tup []), (.tup [(.int 0)]), (.tup [(.str "burns"), (.tup [(.int 0)])]), (.tup [(.int 0)])])])) [(.ret (.bl false))] [])]),
  (.ret (.and [(.call 45 [(.bin .add (.int 3) (.call 44 [(.var 1), (.int 6)]))]), (.call 46 [(.bin .add (.int 1) (.call 44 [(.var 1), (.int 14)]))])]))]
def f_law : Fn := ⟨1, 9, d_law⟩
def tb : List Fn := [f_joins, f_outs, f_stands_for, f_settle, f_settled, f_firings, f_come_home, f_is_steady, f_roads_to, f_burnt, f_burning, f_comes_again, f_is_least_pile, f_is_crossing, f_is_burning_form, f_judge_burning, f_begun, f_ends_at, f_is_integer, f_is_below, f_is_tuple, f_wrong_tree, f_is_tree, f_joined_pieces, f_all_trees, f_tries_by_numbers, f_is_lighting, f_ends_behind, f_tries_by_turns, f_tries, f_tries_of_pile, f_tree_of_pile, f_pile_of_tree, f_level, f_are_joined, f_outer_active, f_levels, f_recurrent_of, f_idle_pile, f_need_again, f_put_together, f_opposite, f_recurrent_list, f__law_source, f__law_pick, f__law_ring_right, f__law_many_right, f_law]
abbrev n_joins : Nat := 0
abbrev n_outs : Nat := 1
abbrev n_stands_for : Nat := 2
abbrev n_settle : Nat := 3
abbrev n_settled : Nat := 4
abbrev n_firings : Nat := 5
abbrev n_come_home : Nat := 6
abbrev n_is_steady : Nat := 7
abbrev n_roads_to : Nat := 8
abbrev n_burnt : Nat := 9
abbrev n_burning : Nat := 10
abbrev n_comes_again : Nat := 11
abbrev n_is_least_pile : Nat := 12
abbrev n_is_crossing : Nat := 13
abbrev n_is_burning_form : Nat := 14
abbrev n_judge_burning : Nat := 15
abbrev n_begun : Nat := 16
abbrev n_ends_at : Nat := 17
abbrev n_is_integer : Nat := 18
abbrev n_is_below : Nat := 19
abbrev n_is_tuple : Nat := 20
abbrev n_wrong_tree : Nat := 21
abbrev n_is_tree : Nat := 22
abbrev n_joined_pieces : Nat := 23
abbrev n_all_trees : Nat := 24
abbrev n_tries_by_numbers : Nat := 25
abbrev n_is_lighting : Nat := 26
abbrev n_ends_behind : Nat := 27
abbrev n_tries_by_turns : Nat := 28
abbrev n_tries : Nat := 29
abbrev n_tries_of_pile : Nat := 30
abbrev n_tree_of_pile : Nat := 31
abbrev n_pile_of_tree : Nat := 32
abbrev n_level : Nat := 33
abbrev n_are_joined : Nat := 34
abbrev n_outer_active : Nat := 35
abbrev n_levels : Nat := 36
abbrev n_recurrent_of : Nat := 37
abbrev n_idle_pile : Nat := 38
abbrev n_need_again : Nat := 39
abbrev n_put_together : Nat := 40
abbrev n_opposite : Nat := 41
abbrev n_recurrent_list : Nat := 42
abbrev n__law_source : Nat := 43
abbrev n__law_pick : Nat := 44
abbrev n__law_ring_right : Nat := 45
abbrev n__law_many_right : Nat := 46
abbrev n_law : Nat := 47
end Ik83
namespace Ik83
open PySem TL L2
def topS (i : Nat) : Stmt := PySem.Challenge.pw_treelattice_k83_piles_by_hand.main.body.getD i (.Pass ⟨0, 0, 0, 0⟩)
abbrev TT : List Str := [("joins" : Str), ("outs" : Str), ("stands_for" : Str), ("settle" : Str), ("settled" : Str), ("firings" : Str), ("come_home" : Str), ("is_steady" : Str), ("roads_to" : Str), ("burnt" : Str), ("burning" : Str), ("comes_again" : Str), ("is_least_pile" : Str), ("is_crossing" : Str), ("is_burning_form" : Str), ("judge_burning" : Str), ("begun" : Str), ("ends_at" : Str), ("is_integer" : Str), ("is_below" : Str), ("is_tuple" : Str), ("wrong_tree" : Str), ("is_tree" : Str), ("joined_pieces" : Str), ("all_trees" : Str), ("tries_by_numbers" : Str), ("is_lighting" : Str), ("ends_behind" : Str), ("tries_by_turns" : Str), ("tries" : Str), ("tries_of_pile" : Str), ("tree_of_pile" : Str), ("pile_of_tree" : Str), ("level" : Str), ("are_joined" : Str), ("outer_active" : Str), ("levels" : Str), ("recurrent_of" : Str), ("idle_pile" : Str), ("need_again" : Str), ("put_together" : Str), ("opposite" : Str), ("recurrent_list" : Str), ("_law_source" : Str), ("_law_pick" : Str), ("_law_ring_right" : Str), ("_law_many_right" : Str), ("law" : Str)]
abbrev s_joins : Stmt := topS 4
theorem sc_joins : FnScope [("web" : Str), ("table" : Str), ("v" : Str), ("one" : Str), ("other" : Str)] [("web" : Str)] (defScope s_joins) := ⟨rfl, rfl, rfl, by decide +kernel, rfl, by decide +kernel, by decide +kernel⟩
theorem mb_joins : mB [("web" : Str), ("table" : Str), ("v" : Str), ("one" : Str), ("other" : Str)] TT rsQ f_joins.body (defScope s_joins) (defBody s_joins) = true := by decide +kernel
abbrev s_outs : Stmt := topS 5
theorem sc_outs : FnScope [("web" : Str), ("row" : Str)] [("web" : Str)] (defScope s_outs) := ⟨rfl, rfl, rfl, by decide +kernel, rfl, by decide +kernel, by decide +kernel⟩
theorem mb_outs : mB [("web" : Str), ("row" : Str)] TT rsQ f_outs.body (defScope s_outs) (defBody s_outs) = true := by decide +kernel
abbrev s_stands_for : Stmt := topS 6
theorem sc_stands_for : FnScope [("web" : Str), ("home" : Str), ("pile" : Str), ("v" : Str), ("number" : Str)] [("web" : Str), ("home" : Str), ("pile" : Str)] (defScope s_stands_for) := ⟨rfl, rfl, rfl, by decide +kernel, rfl, by decide +kernel, by decide +kernel⟩
theorem mb_stands_for : mB [("web" : Str), ("home" : Str), ("pile" : Str), ("v" : Str), ("number" : Str)] TT rsQ f_stands_for.body (defScope s_stands_for) (defBody s_stands_for) = true := by decide +kernel
abbrev s_settle : Stmt := topS 7
theorem sc_settle : FnScope [("web" : Str), ("home" : Str), ("pile" : Str), ("table" : Str), ("out" : Str), ("now" : Str), ("fires" : Str), ("is_going" : Str), ("v" : Str), ("times" : Str), ("u" : Str)] [("web" : Str), ("home" : Str), ("pile" : Str)] (defScope s_settle) := ⟨rfl, rfl, rfl, by decide +kernel, rfl, by decide +kernel, by decide +kernel⟩
theorem mb_settle : mB [("web" : Str), ("home" : Str), ("pile" : Str), ("table" : Str), ("out" : Str), ("now" : Str), ("fires" : Str), ("is_going" : Str), ("v" : Str), ("times" : Str), ("u" : Str)] TT rsQ f_settle.body (defScope s_settle) (defBody s_settle) = true := by decide +kernel
abbrev s_settled : Stmt := topS 8
theorem sc_settled : FnScope [("web" : Str), ("home" : Str), ("pile" : Str)] [("web" : Str), ("home" : Str), ("pile" : Str)] (defScope s_settled) := ⟨rfl, rfl, rfl, by decide +kernel, rfl, by decide +kernel, by decide +kernel⟩
theorem mb_settled : mB [("web" : Str), ("home" : Str), ("pile" : Str)] TT rsQ f_settled.body (defScope s_settled) (defBody s_settled) = true := by decide +kernel
abbrev s_firings : Stmt := topS 9
theorem sc_firings : FnScope [("web" : Str), ("home" : Str), ("pile" : Str)] [("web" : Str), ("home" : Str), ("pile" : Str)] (defScope s_firings) := ⟨rfl, rfl, rfl, by decide +kernel, rfl, by decide +kernel, by decide +kernel⟩
theorem mb_firings : mB [("web" : Str), ("home" : Str), ("pile" : Str)] TT rsQ f_firings.body (defScope s_firings) (defBody s_firings) = true := by decide +kernel
abbrev s_come_home : Stmt := topS 10
theorem sc_come_home : FnScope [("web" : Str), ("home" : Str), ("pile" : Str)] [("web" : Str), ("home" : Str), ("pile" : Str)] (defScope s_come_home) := ⟨rfl, rfl, rfl, by decide +kernel, rfl, by decide +kernel, by decide +kernel⟩
theorem mb_come_home : mB [("web" : Str), ("home" : Str), ("pile" : Str)] TT rsQ f_come_home.body (defScope s_come_home) (defBody s_come_home) = true := by decide +kernel
abbrev s_is_steady : Stmt := topS 11
theorem sc_is_steady : FnScope [("web" : Str), ("home" : Str), ("pile" : Str), ("out" : Str), ("v" : Str)] [("web" : Str), ("home" : Str), ("pile" : Str)] (defScope s_is_steady) := ⟨rfl, rfl, rfl, by decide +kernel, rfl, by decide +kernel, by decide +kernel⟩
theorem mb_is_steady : mB [("web" : Str), ("home" : Str), ("pile" : Str), ("out" : Str), ("v" : Str)] TT rsQ f_is_steady.body (defScope s_is_steady) (defBody s_is_steady) = true := by decide +kernel
abbrev s_roads_to : Stmt := topS 13
theorem sc_roads_to : FnScope [("row" : Str), ("some" : Str), ("u" : Str)] [("row" : Str), ("some" : Str)] (defScope s_roads_to) := ⟨rfl, rfl, rfl, by decide +kernel, rfl, by decide +kernel, by decide +kernel⟩
theorem mb_roads_to : mB [("row" : Str), ("some" : Str), ("u" : Str)] TT rsQ f_roads_to.body (defScope s_roads_to) (defBody s_roads_to) = true := by decide +kernel
abbrev s_burnt : Stmt := topS 14
theorem sc_burnt : FnScope [("web" : Str), ("home" : Str), ("pile" : Str), ("table" : Str), ("out" : Str), ("found" : Str), ("late" : Str), ("rest" : Str), ("v" : Str)] [("web" : Str), ("home" : Str), ("pile" : Str)] (defScope s_burnt) := ⟨rfl, rfl, rfl, by decide +kernel, rfl, by decide +kernel, by decide +kernel⟩
theorem mb_burnt : mB [("web" : Str), ("home" : Str), ("pile" : Str), ("table" : Str), ("out" : Str), ("found" : Str), ("late" : Str), ("rest" : Str), ("v" : Str)] TT rsQ f_burnt.body (defScope s_burnt) (defBody s_burnt) = true := by decide +kernel
abbrev s_burning : Stmt := topS 15
theorem sc_burning : FnScope [("web" : Str), ("home" : Str), ("pile" : Str), ("order" : Str), ("v" : Str)] [("web" : Str), ("home" : Str), ("pile" : Str)] (defScope s_burning) := ⟨rfl, rfl, rfl, by decide +kernel, rfl, by decide +kernel, by decide +kernel⟩
theorem mb_burning : mB [("web" : Str), ("home" : Str), ("pile" : Str), ("order" : Str), ("v" : Str)] TT rsQ f_burning.body (defScope s_burning) (defBody s_burning) = true := by decide +kernel
abbrev s_comes_again : Stmt := topS 16
theorem sc_comes_again : FnScope [("web" : Str), ("home" : Str), ("pile" : Str)] [("web" : Str), ("home" : Str), ("pile" : Str)] (defScope s_comes_again) := ⟨rfl, rfl, rfl, by decide +kernel, rfl, by decide +kernel, by decide +kernel⟩
theorem mb_comes_again : mB [("web" : Str), ("home" : Str), ("pile" : Str)] TT rsQ f_comes_again.body (defScope s_comes_again) (defBody s_comes_again) = true := by decide +kernel
abbrev s_is_least_pile : Stmt := topS 17
theorem sc_is_least_pile : FnScope [("web" : Str), ("home" : Str), ("pile" : Str), ("table" : Str), ("out" : Str), ("late" : Str), ("rest" : Str), ("v" : Str)] [("web" : Str), ("home" : Str), ("pile" : Str)] (defScope s_is_least_pile) := ⟨rfl, rfl, rfl, by decide +kernel, rfl, by decide +kernel, by decide +kernel⟩
theorem mb_is_least_pile : mB [("web" : Str), ("home" : Str), ("pile" : Str), ("table" : Str), ("out" : Str), ("late" : Str), ("rest" : Str), ("v" : Str)] TT rsQ f_is_least_pile.body (defScope s_is_least_pile) (defBody s_is_least_pile) = true := by decide +kernel
abbrev s_is_crossing : Stmt := topS 18
theorem sc_is_crossing : FnScope [("web" : Str), ("value" : Str)] [("web" : Str), ("value" : Str)] (defScope s_is_crossing) := ⟨rfl, rfl, rfl, by decide +kernel, rfl, by decide +kernel, by decide +kernel⟩
theorem mb_is_crossing : mB [("web" : Str), ("value" : Str)] TT rsQ f_is_crossing.body (defScope s_is_crossing) (defBody s_is_crossing) = true := by decide +kernel
abbrev s_is_burning_form : Stmt := topS 19
theorem sc_is_burning_form : FnScope [("web" : Str), ("home" : Str), ("value" : Str), ("word" : Str), ("row" : Str), ("v" : Str), ("k" : Str)] [("web" : Str), ("home" : Str), ("value" : Str)] (defScope s_is_burning_form) := ⟨rfl, rfl, rfl, by decide +kernel, rfl, by decide +kernel, by decide +kernel⟩
theorem mb_is_burning_form : mB [("web" : Str), ("home" : Str), ("value" : Str), ("word" : Str), ("row" : Str), ("v" : Str), ("k" : Str)] TT rsQ f_is_burning_form.body (defScope s_is_burning_form) (defBody s_is_burning_form) = true := by decide +kernel
abbrev s_judge_burning : Stmt := topS 20
theorem sc_judge_burning : FnScope [("web" : Str), ("home" : Str), ("pile" : Str), ("value" : Str), ("table" : Str), ("out" : Str), ("great" : Str), ("v" : Str), ("word" : Str), ("row" : Str), ("free" : Str), ("early" : Str), ("k" : Str)] [("web" : Str), ("home" : Str), ("pile" : Str), ("value" : Str)] (defScope s_judge_burning) := ⟨rfl, rfl, rfl, by decide +kernel, rfl, by decide +kernel, by decide +kernel⟩
theorem mb_judge_burning : mB [("web" : Str), ("home" : Str), ("pile" : Str), ("value" : Str), ("table" : Str), ("out" : Str), ("great" : Str), ("v" : Str), ("word" : Str), ("row" : Str), ("free" : Str), ("early" : Str), ("k" : Str)] TT rsQ f_judge_burning.body (defScope s_judge_burning) (defBody s_judge_burning) = true := by decide +kernel
abbrev s_begun : Stmt := topS 22
theorem sc_begun : FnScope [("turn" : Str), ("k" : Str)] [("turn" : Str)] (defScope s_begun) := ⟨rfl, rfl, rfl, by decide +kernel, rfl, by decide +kernel, by decide +kernel⟩
theorem mb_begun : mB [("turn" : Str), ("k" : Str)] TT rsQ f_begun.body (defScope s_begun) (defBody s_begun) = true := by decide +kernel
abbrev s_ends_at : Stmt := topS 23
theorem sc_ends_at : FnScope [("web" : Str), ("crossing" : Str)] [("web" : Str), ("crossing" : Str)] (defScope s_ends_at) := ⟨rfl, rfl, rfl, by decide +kernel, rfl, by decide +kernel, by decide +kernel⟩
theorem mb_ends_at : mB [("web" : Str), ("crossing" : Str)] TT rsQ f_ends_at.body (defScope s_ends_at) (defBody s_ends_at) = true := by decide +kernel
abbrev s_is_integer : Stmt := topS 25
theorem sc_is_integer : FnScope [("value" : Str)] [("value" : Str)] (defScope s_is_integer) := ⟨rfl, rfl, rfl, by decide +kernel, rfl, by decide +kernel, by decide +kernel⟩
theorem mb_is_integer : mB [("value" : Str)] TT rsQ f_is_integer.body (defScope s_is_integer) (defBody s_is_integer) = true := by decide +kernel
abbrev s_is_below : Stmt := topS 26
theorem sc_is_below : FnScope [("value" : Str), ("many" : Str)] [("value" : Str), ("many" : Str)] (defScope s_is_below) := ⟨rfl, rfl, rfl, by decide +kernel, rfl, by decide +kernel, by decide +kernel⟩
theorem mb_is_below : mB [("value" : Str), ("many" : Str)] TT rsQ f_is_below.body (defScope s_is_below) (defBody s_is_below) = true := by decide +kernel
abbrev s_is_tuple : Stmt := topS 27
theorem sc_is_tuple : FnScope [("value" : Str), ("many" : Str)] [("value" : Str), ("many" : Str)] (defScope s_is_tuple) := ⟨rfl, rfl, rfl, by decide +kernel, rfl, by decide +kernel, by decide +kernel⟩
theorem mb_is_tuple : mB [("value" : Str), ("many" : Str)] TT rsQ f_is_tuple.body (defScope s_is_tuple) (defBody s_is_tuple) = true := by decide +kernel
abbrev s_wrong_tree : Stmt := topS 28
theorem sc_wrong_tree : FnScope [("web" : Str), ("value" : Str), ("lots" : Str), ("k" : Str), ("road" : Str), ("one" : Str), ("other" : Str), ("crossing" : Str), ("lot" : Str)] [("web" : Str), ("value" : Str)] (defScope s_wrong_tree) := ⟨rfl, rfl, rfl, by decide +kernel, rfl, by decide +kernel, by decide +kernel⟩
theorem mb_wrong_tree : mB [("web" : Str), ("value" : Str), ("lots" : Str), ("k" : Str), ("road" : Str), ("one" : Str), ("other" : Str), ("crossing" : Str), ("lot" : Str)] TT rsQ f_wrong_tree.body (defScope s_wrong_tree) (defBody s_wrong_tree) = true := by decide +kernel
abbrev s_is_tree : Stmt := topS 30
theorem sc_is_tree : FnScope [("web" : Str), ("value" : Str)] [("web" : Str), ("value" : Str)] (defScope s_is_tree) := ⟨rfl, rfl, rfl, by decide +kernel, rfl, by decide +kernel, by decide +kernel⟩
theorem mb_is_tree : mB [("web" : Str), ("value" : Str)] TT rsQ f_is_tree.body (defScope s_is_tree) (defBody s_is_tree) = true := by decide +kernel
abbrev s_joined_pieces : Stmt := topS 32
theorem sc_joined_pieces : FnScope [("pieces" : Str), ("one" : Str), ("other" : Str), ("piece" : Str)] [("pieces" : Str), ("one" : Str), ("other" : Str)] (defScope s_joined_pieces) := ⟨rfl, rfl, rfl, by decide +kernel, rfl, by decide +kernel, by decide +kernel⟩
theorem mb_joined_pieces : mB [("pieces" : Str), ("one" : Str), ("other" : Str), ("piece" : Str)] TT rsQ f_joined_pieces.body (defScope s_joined_pieces) (defBody s_joined_pieces) = true := by decide +kernel
abbrev s_all_trees : Stmt := topS 33
theorem sc_all_trees : FnScope [("web" : Str), ("many" : Str), ("roads" : Str), ("turns" : Str), ("found" : Str), ("waiting" : Str), ("tree" : Str), ("pieces" : Str), ("road" : Str), ("one" : Str), ("other" : Str)] [("web" : Str)] (defScope s_all_trees) := ⟨rfl, rfl, rfl, by decide +kernel, rfl, by decide +kernel, by decide +kernel⟩
theorem mb_all_trees : mB [("web" : Str), ("many" : Str), ("roads" : Str), ("turns" : Str), ("found" : Str), ("waiting" : Str), ("tree" : Str), ("pieces" : Str), ("road" : Str), ("one" : Str), ("other" : Str)] TT rsQ f_all_trees.body (defScope s_all_trees) (defBody s_all_trees) = true := by decide +kernel
abbrev s_tries_by_numbers : Stmt := topS 35
theorem sc_tries_by_numbers : FnScope [("web" : Str), ("home" : Str), ("tree" : Str), ("left" : Str), ("lit" : Str), ("tried" : Str), ("found" : Str), ("rest" : Str), ("some" : Str), ("r" : Str), ("a" : Str), ("b" : Str), ("one" : Str), ("other" : Str), ("crossing" : Str)] [("web" : Str), ("home" : Str), ("tree" : Str), ("left" : Str)] (defScope s_tries_by_numbers) := ⟨rfl, rfl, rfl, by decide +kernel, rfl, by decide +kernel, by decide +kernel⟩
theorem mb_tries_by_numbers : mB [("web" : Str), ("home" : Str), ("tree" : Str), ("left" : Str), ("lit" : Str), ("tried" : Str), ("found" : Str), ("rest" : Str), ("some" : Str), ("r" : Str), ("a" : Str), ("b" : Str), ("one" : Str), ("other" : Str), ("crossing" : Str)] TT rsQ f_tries_by_numbers.body (defScope s_tries_by_numbers) (defBody s_tries_by_numbers) = true := by decide +kernel
abbrev s_is_lighting : Stmt := topS 36
theorem sc_is_lighting : FnScope [("road" : Str), ("crossing" : Str), ("tree" : Str), ("rest" : Str)] [("road" : Str), ("crossing" : Str), ("tree" : Str), ("rest" : Str)] (defScope s_is_lighting) := ⟨rfl, rfl, rfl, by decide +kernel, rfl, by decide +kernel, by decide +kernel⟩
theorem mb_is_lighting : mB [("road" : Str), ("crossing" : Str), ("tree" : Str), ("rest" : Str)] TT rsQ f_is_lighting.body (defScope s_is_lighting) (defBody s_is_lighting) = true := by decide +kernel
abbrev s_ends_behind : Stmt := topS 37
theorem sc_ends_behind : FnScope [("web" : Str), ("end" : Str), ("turn" : Str), ("k" : Str)] [("web" : Str), ("end" : Str)] (defScope s_ends_behind) := ⟨rfl, rfl, rfl, by decide +kernel, rfl, by decide +kernel, by decide +kernel⟩
theorem mb_ends_behind : mB [("web" : Str), ("end" : Str), ("turn" : Str), ("k" : Str)] TT rsQ f_ends_behind.body (defScope s_ends_behind) (defBody s_ends_behind) = true := by decide +kernel
abbrev s_tries_by_turns : Stmt := topS 38
theorem sc_tries_by_turns : FnScope [("web" : Str), ("home" : Str), ("tree" : Str), ("left" : Str), ("lit" : Str), ("tried" : Str), ("found" : Str), ("rest" : Str), ("row" : Str), ("end" : Str), ("road" : Str), ("crossing" : Str)] [("web" : Str), ("home" : Str), ("tree" : Str), ("left" : Str)] (defScope s_tries_by_turns) := ⟨rfl, rfl, rfl, by decide +kernel, rfl, by decide +kernel, by decide +kernel⟩
theorem mb_tries_by_turns : mB [("web" : Str), ("home" : Str), ("tree" : Str), ("left" : Str), ("lit" : Str), ("tried" : Str), ("found" : Str), ("rest" : Str), ("row" : Str), ("end" : Str), ("road" : Str), ("crossing" : Str)] TT rsQ f_tries_by_turns.body (defScope s_tries_by_turns) (defBody s_tries_by_turns) = true := by decide +kernel
abbrev s_tries : Stmt := topS 39
theorem sc_tries : FnScope [("web" : Str), ("home" : Str), ("tree" : Str), ("left" : Str), ("rule" : Str)] [("web" : Str), ("home" : Str), ("tree" : Str), ("left" : Str), ("rule" : Str)] (defScope s_tries) := ⟨rfl, rfl, rfl, by decide +kernel, rfl, by decide +kernel, by decide +kernel⟩
theorem mb_tries : mB [("web" : Str), ("home" : Str), ("tree" : Str), ("left" : Str), ("rule" : Str)] TT rsQ f_tries.body (defScope s_tries) (defBody s_tries) = true := by decide +kernel
abbrev s_tries_of_pile : Stmt := topS 40
theorem sc_tries_of_pile : FnScope [("web" : Str), ("home" : Str), ("pile" : Str), ("rule" : Str), ("out" : Str), ("number" : Str)] [("web" : Str), ("home" : Str), ("pile" : Str), ("rule" : Str)] (defScope s_tries_of_pile) := ⟨rfl, rfl, rfl, by decide +kernel, rfl, by decide +kernel, by decide +kernel⟩
theorem mb_tries_of_pile : mB [("web" : Str), ("home" : Str), ("pile" : Str), ("rule" : Str), ("out" : Str), ("number" : Str)] TT rsQ f_tries_of_pile.body (defScope s_tries_of_pile) (defBody s_tries_of_pile) = true := by decide +kernel
abbrev s_tree_of_pile : Stmt := topS 41
theorem sc_tree_of_pile : FnScope [("web" : Str), ("home" : Str), ("pile" : Str), ("rule" : Str), ("road" : Str), ("crossing" : Str), ("is_lit" : Str)] [("web" : Str), ("home" : Str), ("pile" : Str), ("rule" : Str)] (defScope s_tree_of_pile) := ⟨rfl, rfl, rfl, by decide +kernel, rfl, by decide +kernel, by decide +kernel⟩
theorem mb_tree_of_pile : mB [("web" : Str), ("home" : Str), ("pile" : Str), ("rule" : Str), ("road" : Str), ("crossing" : Str), ("is_lit" : Str)] TT rsQ f_tree_of_pile.body (defScope s_tree_of_pile) (defBody s_tree_of_pile) = true := by decide +kernel
abbrev s_pile_of_tree : Stmt := topS 42
theorem sc_pile_of_tree : FnScope [("web" : Str), ("home" : Str), ("tree" : Str), ("rule" : Str), ("found" : Str), ("v" : Str), ("out" : Str), ("_road" : Str), ("crossing" : Str), ("_is_lit" : Str)] [("web" : Str), ("home" : Str), ("tree" : Str), ("rule" : Str)] (defScope s_pile_of_tree) := ⟨rfl, rfl, rfl, by decide +kernel, rfl, by decide +kernel, by decide +kernel⟩
theorem mb_pile_of_tree : mB [("web" : Str), ("home" : Str), ("tree" : Str), ("rule" : Str), ("found" : Str), ("v" : Str), ("out" : Str), ("_road" : Str), ("crossing" : Str), ("_is_lit" : Str)] TT rsQ f_pile_of_tree.body (defScope s_pile_of_tree) (defBody s_pile_of_tree) = true := by decide +kernel
abbrev s_level : Stmt := topS 43
theorem sc_level : FnScope [("web" : Str), ("home" : Str), ("pile" : Str)] [("web" : Str), ("home" : Str), ("pile" : Str)] (defScope s_level) := ⟨rfl, rfl, rfl, by decide +kernel, rfl, by decide +kernel, by decide +kernel⟩
theorem mb_level : mB [("web" : Str), ("home" : Str), ("pile" : Str)] TT rsQ f_level.body (defScope s_level) (defBody s_level) = true := by decide +kernel
abbrev s_are_joined : Stmt := topS 44
theorem sc_are_joined : FnScope [("web" : Str), ("roads" : Str), ("one" : Str), ("other" : Str), ("known" : Str), ("late" : Str), ("here" : Str), ("road" : Str), ("there" : Str)] [("web" : Str), ("roads" : Str), ("one" : Str), ("other" : Str)] (defScope s_are_joined) := ⟨rfl, rfl, rfl, by decide +kernel, rfl, by decide +kernel, by decide +kernel⟩
theorem mb_are_joined : mB [("web" : Str), ("roads" : Str), ("one" : Str), ("other" : Str), ("known" : Str), ("late" : Str), ("here" : Str), ("road" : Str), ("there" : Str)] TT rsQ f_are_joined.body (defScope s_are_joined) (defBody s_are_joined) = true := by decide +kernel
abbrev s_outer_active : Stmt := topS 45
theorem sc_outer_active : FnScope [("web" : Str), ("tree" : Str), ("found" : Str), ("road" : Str), ("one" : Str), ("other" : Str), ("r" : Str)] [("web" : Str), ("tree" : Str)] (defScope s_outer_active) := ⟨rfl, rfl, rfl, by decide +kernel, rfl, by decide +kernel, by decide +kernel⟩
theorem mb_outer_active : mB [("web" : Str), ("tree" : Str), ("found" : Str), ("road" : Str), ("one" : Str), ("other" : Str), ("r" : Str)] TT rsQ f_outer_active.body (defScope s_outer_active) (defBody s_outer_active) = true := by decide +kernel
abbrev s_levels : Stmt := topS 46
theorem sc_levels : FnScope [("web" : Str), ("found" : Str), ("tree" : Str), ("k" : Str)] [("web" : Str)] (defScope s_levels) := ⟨rfl, rfl, rfl, by decide +kernel, rfl, by decide +kernel, by decide +kernel⟩
theorem mb_levels : mB [("web" : Str), ("found" : Str), ("tree" : Str), ("k" : Str)] TT rsQ f_levels.body (defScope s_levels) (defBody s_levels) = true := by decide +kernel
abbrev s_recurrent_of : Stmt := topS 48
theorem sc_recurrent_of : FnScope [("web" : Str), ("home" : Str), ("heap" : Str), ("out" : Str), ("great" : Str), ("v" : Str), ("number" : Str), ("nought" : Str), ("one" : Str), ("other" : Str), ("times" : Str), ("pile" : Str)] [("web" : Str), ("home" : Str), ("heap" : Str)] (defScope s_recurrent_of) := ⟨rfl, rfl, rfl, by decide +kernel, rfl, by decide +kernel, by decide +kernel⟩
theorem mb_recurrent_of : mB [("web" : Str), ("home" : Str), ("heap" : Str), ("out" : Str), ("great" : Str), ("v" : Str), ("number" : Str), ("nought" : Str), ("one" : Str), ("other" : Str), ("times" : Str), ("pile" : Str)] TT rsQ f_recurrent_of.body (defScope s_recurrent_of) (defBody s_recurrent_of) = true := by decide +kernel
abbrev s_idle_pile : Stmt := topS 49
theorem sc_idle_pile : FnScope [("web" : Str), ("home" : Str)] [("web" : Str), ("home" : Str)] (defScope s_idle_pile) := ⟨rfl, rfl, rfl, by decide +kernel, rfl, by decide +kernel, by decide +kernel⟩
theorem mb_idle_pile : mB [("web" : Str), ("home" : Str)] TT rsQ f_idle_pile.body (defScope s_idle_pile) (defBody s_idle_pile) = true := by decide +kernel
abbrev s_need_again : Stmt := topS 50
theorem sc_need_again : FnScope [("web" : Str), ("home" : Str), ("pile" : Str)] [("web" : Str), ("home" : Str), ("pile" : Str)] (defScope s_need_again) := ⟨rfl, rfl, rfl, by decide +kernel, rfl, by decide +kernel, by decide +kernel⟩
theorem mb_need_again : mB [("web" : Str), ("home" : Str), ("pile" : Str)] TT rsQ f_need_again.body (defScope s_need_again) (defBody s_need_again) = true := by decide +kernel
abbrev s_put_together : Stmt := topS 51
theorem sc_put_together : FnScope [("web" : Str), ("home" : Str), ("one" : Str), ("other" : Str), ("a" : Str), ("b" : Str)] [("web" : Str), ("home" : Str), ("one" : Str), ("other" : Str)] (defScope s_put_together) := ⟨rfl, rfl, rfl, by decide +kernel, rfl, by decide +kernel, by decide +kernel⟩
theorem mb_put_together : mB [("web" : Str), ("home" : Str), ("one" : Str), ("other" : Str), ("a" : Str), ("b" : Str)] TT rsQ f_put_together.body (defScope s_put_together) (defBody s_put_together) = true := by decide +kernel
abbrev s_opposite : Stmt := topS 52
theorem sc_opposite : FnScope [("web" : Str), ("home" : Str), ("pile" : Str), ("number" : Str)] [("web" : Str), ("home" : Str), ("pile" : Str)] (defScope s_opposite) := ⟨rfl, rfl, rfl, by decide +kernel, rfl, by decide +kernel, by decide +kernel⟩
theorem mb_opposite : mB [("web" : Str), ("home" : Str), ("pile" : Str), ("number" : Str)] TT rsQ f_opposite.body (defScope s_opposite) (defBody s_opposite) = true := by decide +kernel
abbrev s_recurrent_list : Stmt := topS 53
theorem sc_recurrent_list : FnScope [("web" : Str), ("home" : Str), ("tree" : Str)] [("web" : Str), ("home" : Str)] (defScope s_recurrent_list) := ⟨rfl, rfl, rfl, by decide +kernel, rfl, by decide +kernel, by decide +kernel⟩
theorem mb_recurrent_list : mB [("web" : Str), ("home" : Str), ("tree" : Str)] TT rsQ f_recurrent_list.body (defScope s_recurrent_list) (defBody s_recurrent_list) = true := by decide +kernel
abbrev s__law_source : Stmt := topS 55
theorem sc__law_source : FnScope [("script" : Str), ("mixed" : Str), ("cell" : Str)] [("script" : Str)] (defScope s__law_source) := ⟨rfl, rfl, rfl, by decide +kernel, rfl, by decide +kernel, by decide +kernel⟩
theorem mb__law_source : mB [("script" : Str), ("mixed" : Str), ("cell" : Str)] TT rsQ f__law_source.body (defScope s__law_source) (defBody s__law_source) = true := by decide +kernel
abbrev s__law_pick : Stmt := topS 56
theorem sc__law_pick : FnScope [("source" : Str), ("many" : Str), ("left" : Str), ("mixed" : Str)] [("source" : Str), ("many" : Str)] (defScope s__law_pick) := ⟨rfl, rfl, rfl, by decide +kernel, rfl, by decide +kernel, by decide +kernel⟩
theorem mb__law_pick : mB [("source" : Str), ("many" : Str), ("left" : Str), ("mixed" : Str)] TT rsQ f__law_pick.body (defScope s__law_pick) (defBody s__law_pick) = true := by decide +kernel
abbrev s__law_ring_right : Stmt := topS 57
theorem sc__law_ring_right : FnScope [("many" : Str), ("roads" : Str), ("v" : Str), ("web" : Str), ("full" : Str), ("due" : Str), ("k" : Str), ("idle" : Str), ("ones" : Str), ("more" : Str), ("one" : Str)] [("many" : Str)] (defScope s__law_ring_right) := ⟨rfl, rfl, rfl, by decide +kernel, rfl, by decide +kernel, by decide +kernel⟩
theorem mb__law_ring_right : mB [("many" : Str), ("roads" : Str), ("v" : Str), ("web" : Str), ("full" : Str), ("due" : Str), ("k" : Str), ("idle" : Str), ("ones" : Str), ("more" : Str), ("one" : Str)] TT rsQ f__law_ring_right.body (defScope s__law_ring_right) (defBody s__law_ring_right) = true := by decide +kernel
abbrev s__law_many_right : Stmt := topS 58
theorem sc__law_many_right : FnScope [("many" : Str), ("web" : Str), ("r" : Str), ("piles" : Str), ("k" : Str), ("told" : Str), ("pile" : Str), ("due" : Str)] [("many" : Str)] (defScope s__law_many_right) := ⟨rfl, rfl, rfl, by decide +kernel, rfl, by decide +kernel, by decide +kernel⟩
theorem mb__law_many_right : mB [("many" : Str), ("web" : Str), ("r" : Str), ("piles" : Str), ("k" : Str), ("told" : Str), ("pile" : Str), ("due" : Str)] TT rsQ f__law_many_right.body (defScope s__law_many_right) (defBody s__law_many_right) = true := by decide +kernel
abbrev s_law : Stmt := topS 59
theorem sc_law : FnScope [("script" : Str), ("source" : Str), ("web" : Str), ("told" : Str), ("due" : Str), ("pile" : Str), ("point" : Str), ("loop" : Str), ("one" : Str)] [("script" : Str)] (defScope s_law) := ⟨rfl, rfl, rfl, by decide +kernel, rfl, by decide +kernel, by decide +kernel⟩
theorem mb_law : mB [("script" : Str), ("source" : Str), ("web" : Str), ("told" : Str), ("due" : Str), ("pile" : Str), ("point" : Str), ("loop" : Str), ("one" : Str)] TT rsQ f_law.body (defScope s_law) (defBody s_law) = true := by decide +kernel
end Ik83
namespace Ik83
open PySem TL
def isT1 : R W → Bool
  | .ok (.bl true) _ => true
  | _ => false
theorem isT1_ok {r : R W} (h : isT1 r = true) : ∃ g, r = .ok (.bl true) g := by
  unfold isT1 at h
  split at h
  · exact ⟨_, rfl⟩
  · cases h
theorem src_is : d__law_source = srcIR := rfl
theorem pick_is : d__law_pick = pickIR := rfl
def mid : List St := (d_law.drop 1).take (d_law.length - 2)
def lastE : Ex := .and [(.call n__law_ring_right [(.bin .add (.int 3) (.call n__law_pick [(.var 1), (.int 6)]))]), (.call n__law_many_right [(.bin .add (.int 1) (.call n__law_pick [(.var 1), (.int 14)]))])]
theorem law_is : d_law = .set 1 (.call n__law_source [(.var 0)]) :: (mid ++ [.ret lastE]) := rfl
def chkM : R (TL.Env × Fl) → Option (Option HW × Option HW × Option (Option W))
  | .ok (env, .nx) h => some (h.get 0, h.get 2, env[1]?)
  | _ => none
theorem chkM_ok {r : R (TL.Env × Fl)} {a b : Option HW} {c : Option (Option W)} (h : chkM r = some (a, b, c)) : ∃ env h', r = .ok (env, .nx) h' ∧ h'.get 0 = a ∧ h'.get 2 = b ∧ env[1]? = c := by
  unfold chkM at h
  split at h
  · cases h
    exact ⟨_, _, rfl, rfl, rfl, rfl⟩
  · cases h
abbrev wf : Nat := 100000
abbrev CC : Nat → List W → Hw → R W := callF tb wf 30
theorem mid_ok (xs : List W) (o0 o1 o2 : HW) : chkM (exL CC wf mid (some (.frl xs) :: some (.ref 0) :: List.replicate 7 none) (((Hw.nil.new o0).new o1).new o2)) = some (some o0, some o2, some (some (.ref 0))) := by kernel_rfl
abbrev rr (n : Int) : R W := runF (callF tb wf 29) wf f__law_ring_right [.int n] Hw.nil
abbrev mr (n : Int) : R W := runF (callF tb wf 29) wf f__law_many_right [.int n] Hw.nil
theorem r3 : isT1 (rr 3) = true := by kernel_rfl
theorem r4 : isT1 (rr 4) = true := by kernel_rfl
theorem r5 : isT1 (rr 5) = true := by kernel_rfl
theorem r6 : isT1 (rr 6) = true := by kernel_rfl
def r7A0 : Nat × List W × W := (1, [.tup [.int (7), .tup [.tup [.int (0), .int (1)], .tup [.int (1), .int (2)], .tup [.int (2), .int (3)], .tup [.int (3), .int (4)], .tup [.int (4), .int (5)], .tup [.int (5), .int (6)], .tup [.int (6), .int (0)]], .tup [.tup [.int (0), .int (13)], .tup [.int (2), .int (1)], .tup [.int (4), .int (3)], .tup [.int (6), .int (5)], .tup [.int (8), .int (7)], .tup [.int (10), .int (9)], .tup [.int (12), .int (11)]]]], .tup [.int (2), .int (2), .int (2), .int (2), .int (2), .int (2), .int (2)])
theorem r7A0_ok : chkE tb wf [] 15 0 r7A0 = true := by kernel_rfl
def r7A1 : Nat × List W × W := (22, [.tup [.int (7), .tup [.tup [.int (0), .int (1)], .tup [.int (1), .int (2)], .tup [.int (2), .int (3)], .tup [.int (3), .int (4)], .tup [.int (4), .int (5)], .tup [.int (5), .int (6)], .tup [.int (6), .int (0)]], .tup [.tup [.int (0), .int (13)], .tup [.int (2), .int (1)], .tup [.int (4), .int (3)], .tup [.int (6), .int (5)], .tup [.int (8), .int (7)], .tup [.int (10), .int (9)], .tup [.int (12), .int (11)]]], .tup [.int (0), .int (1), .int (2), .int (3), .int (4), .int (5)]], .bl true)
theorem r7A1_ok : chkE tb wf [] 15 0 r7A1 = true := by kernel_rfl
def r7A2 : Nat × List W × W := (22, [.tup [.int (7), .tup [.tup [.int (0), .int (1)], .tup [.int (1), .int (2)], .tup [.int (2), .int (3)], .tup [.int (3), .int (4)], .tup [.int (4), .int (5)], .tup [.int (5), .int (6)], .tup [.int (6), .int (0)]], .tup [.tup [.int (0), .int (13)], .tup [.int (2), .int (1)], .tup [.int (4), .int (3)], .tup [.int (6), .int (5)], .tup [.int (8), .int (7)], .tup [.int (10), .int (9)], .tup [.int (12), .int (11)]]], .tup [.int (0), .int (1), .int (2), .int (3), .int (4), .int (6)]], .bl true)
theorem r7A2_ok : chkE tb wf [] 15 0 r7A2 = true := by kernel_rfl
def r7A3 : Nat × List W × W := (22, [.tup [.int (7), .tup [.tup [.int (0), .int (1)], .tup [.int (1), .int (2)], .tup [.int (2), .int (3)], .tup [.int (3), .int (4)], .tup [.int (4), .int (5)], .tup [.int (5), .int (6)], .tup [.int (6), .int (0)]], .tup [.tup [.int (0), .int (13)], .tup [.int (2), .int (1)], .tup [.int (4), .int (3)], .tup [.int (6), .int (5)], .tup [.int (8), .int (7)], .tup [.int (10), .int (9)], .tup [.int (12), .int (11)]]], .tup [.int (0), .int (1), .int (2), .int (3), .int (5), .int (6)]], .bl true)
theorem r7A3_ok : chkE tb wf [] 15 0 r7A3 = true := by kernel_rfl
def r7A4 : Nat × List W × W := (22, [.tup [.int (7), .tup [.tup [.int (0), .int (1)], .tup [.int (1), .int (2)], .tup [.int (2), .int (3)], .tup [.int (3), .int (4)], .tup [.int (4), .int (5)], .tup [.int (5), .int (6)], .tup [.int (6), .int (0)]], .tup [.tup [.int (0), .int (13)], .tup [.int (2), .int (1)], .tup [.int (4), .int (3)], .tup [.int (6), .int (5)], .tup [.int (8), .int (7)], .tup [.int (10), .int (9)], .tup [.int (12), .int (11)]]], .tup [.int (0), .int (1), .int (2), .int (4), .int (5), .int (6)]], .bl true)
theorem r7A4_ok : chkE tb wf [] 15 0 r7A4 = true := by kernel_rfl
def r7A5 : Nat × List W × W := (22, [.tup [.int (7), .tup [.tup [.int (0), .int (1)], .tup [.int (1), .int (2)], .tup [.int (2), .int (3)], .tup [.int (3), .int (4)], .tup [.int (4), .int (5)], .tup [.int (5), .int (6)], .tup [.int (6), .int (0)]], .tup [.tup [.int (0), .int (13)], .tup [.int (2), .int (1)], .tup [.int (4), .int (3)], .tup [.int (6), .int (5)], .tup [.int (8), .int (7)], .tup [.int (10), .int (9)], .tup [.int (12), .int (11)]]], .tup [.int (0), .int (1), .int (3), .int (4), .int (5), .int (6)]], .bl true)
theorem r7A5_ok : chkE tb wf [] 15 0 r7A5 = true := by kernel_rfl
def r7A6 : Nat × List W × W := (22, [.tup [.int (7), .tup [.tup [.int (0), .int (1)], .tup [.int (1), .int (2)], .tup [.int (2), .int (3)], .tup [.int (3), .int (4)], .tup [.int (4), .int (5)], .tup [.int (5), .int (6)], .tup [.int (6), .int (0)]], .tup [.tup [.int (0), .int (13)], .tup [.int (2), .int (1)], .tup [.int (4), .int (3)], .tup [.int (6), .int (5)], .tup [.int (8), .int (7)], .tup [.int (10), .int (9)], .tup [.int (12), .int (11)]]], .tup [.int (0), .int (2), .int (3), .int (4), .int (5), .int (6)]], .bl true)
theorem r7A6_ok : chkE tb wf [] 15 0 r7A6 = true := by kernel_rfl
def r7A7 : Nat × List W × W := (22, [.tup [.int (7), .tup [.tup [.int (0), .int (1)], .tup [.int (1), .int (2)], .tup [.int (2), .int (3)], .tup [.int (3), .int (4)], .tup [.int (4), .int (5)], .tup [.int (5), .int (6)], .tup [.int (6), .int (0)]], .tup [.tup [.int (0), .int (13)], .tup [.int (2), .int (1)], .tup [.int (4), .int (3)], .tup [.int (6), .int (5)], .tup [.int (8), .int (7)], .tup [.int (10), .int (9)], .tup [.int (12), .int (11)]]], .tup [.int (1), .int (2), .int (3), .int (4), .int (5), .int (6)]], .bl true)
theorem r7A7_ok : chkE tb wf [] 15 0 r7A7 = true := by kernel_rfl
def r7A8 : Nat × List W × W := (3, [.tup [.int (7), .tup [.tup [.int (0), .int (1)], .tup [.int (1), .int (2)], .tup [.int (2), .int (3)], .tup [.int (3), .int (4)], .tup [.int (4), .int (5)], .tup [.int (5), .int (6)], .tup [.int (6), .int (0)]], .tup [.tup [.int (0), .int (13)], .tup [.int (2), .int (1)], .tup [.int (4), .int (3)], .tup [.int (6), .int (5)], .tup [.int (8), .int (7)], .tup [.int (10), .int (9)], .tup [.int (12), .int (11)]]], .int (0), .tup [.int (0), .int (4), .int (4), .int (4), .int (4), .int (4), .int (4)]], .tup [.tup [.int (0), .int (1), .int (1), .int (1), .int (1), .int (1), .int (1)], .tup [.int (0), .int (9), .int (15), .int (18), .int (18), .int (15), .int (9)]])
theorem r7A8_ok : chkE tb wf [] 15 0 r7A8 = true := by kernel_rfl
def r7A9 : Nat × List W × W := (3, [.tup [.int (7), .tup [.tup [.int (0), .int (1)], .tup [.int (1), .int (2)], .tup [.int (2), .int (3)], .tup [.int (3), .int (4)], .tup [.int (4), .int (5)], .tup [.int (5), .int (6)], .tup [.int (6), .int (0)]], .tup [.tup [.int (0), .int (13)], .tup [.int (2), .int (1)], .tup [.int (4), .int (3)], .tup [.int (6), .int (5)], .tup [.int (8), .int (7)], .tup [.int (10), .int (9)], .tup [.int (12), .int (11)]]], .int (0), .tup [.int (0), .int (3), .int (3), .int (3), .int (3), .int (3), .int (3)]], .tup [.tup [.int (0), .int (1), .int (1), .int (1), .int (1), .int (1), .int (1)], .tup [.int (0), .int (6), .int (10), .int (12), .int (12), .int (10), .int (6)]])
theorem r7A9_ok : chkE tb wf [] 15 0 r7A9 = true := by kernel_rfl
def r7A10 : Nat × List W × W := (3, [.tup [.int (7), .tup [.tup [.int (0), .int (1)], .tup [.int (1), .int (2)], .tup [.int (2), .int (3)], .tup [.int (3), .int (4)], .tup [.int (4), .int (5)], .tup [.int (5), .int (6)], .tup [.int (6), .int (0)]], .tup [.tup [.int (0), .int (13)], .tup [.int (2), .int (1)], .tup [.int (4), .int (3)], .tup [.int (6), .int (5)], .tup [.int (8), .int (7)], .tup [.int (10), .int (9)], .tup [.int (12), .int (11)]]], .int (0), .tup [.int (0), .int (2), .int (1), .int (1), .int (1), .int (1), .int (2)]], .tup [.tup [.int (0), .int (1), .int (1), .int (1), .int (1), .int (1), .int (1)], .tup [.int (0), .int (1), .int (1), .int (1), .int (1), .int (1), .int (1)]])
theorem r7A10_ok : chkE tb wf [] 15 0 r7A10 = true := by kernel_rfl
def r7A11 : Nat × List W × W := (35, [.tup [.int (7), .tup [.tup [.int (0), .int (1)], .tup [.int (1), .int (2)], .tup [.int (2), .int (3)], .tup [.int (3), .int (4)], .tup [.int (4), .int (5)], .tup [.int (5), .int (6)], .tup [.int (6), .int (0)]], .tup [.tup [.int (0), .int (13)], .tup [.int (2), .int (1)], .tup [.int (4), .int (3)], .tup [.int (6), .int (5)], .tup [.int (8), .int (7)], .tup [.int (10), .int (9)], .tup [.int (12), .int (11)]]], .tup [.int (0), .int (1), .int (2), .int (3), .int (4), .int (5)]], .tup [.int (6)])
theorem r7A11_ok : chkE tb wf [] 15 0 r7A11 = true := by kernel_rfl
def r7A12 : Nat × List W × W := (35, [.tup [.int (7), .tup [.tup [.int (0), .int (1)], .tup [.int (1), .int (2)], .tup [.int (2), .int (3)], .tup [.int (3), .int (4)], .tup [.int (4), .int (5)], .tup [.int (5), .int (6)], .tup [.int (6), .int (0)]], .tup [.tup [.int (0), .int (13)], .tup [.int (2), .int (1)], .tup [.int (4), .int (3)], .tup [.int (6), .int (5)], .tup [.int (8), .int (7)], .tup [.int (10), .int (9)], .tup [.int (12), .int (11)]]], .tup [.int (0), .int (1), .int (2), .int (3), .int (4), .int (6)]], .tup [])
theorem r7A12_ok : chkE tb wf [] 15 0 r7A12 = true := by kernel_rfl
def r7A13 : Nat × List W × W := (35, [.tup [.int (7), .tup [.tup [.int (0), .int (1)], .tup [.int (1), .int (2)], .tup [.int (2), .int (3)], .tup [.int (3), .int (4)], .tup [.int (4), .int (5)], .tup [.int (5), .int (6)], .tup [.int (6), .int (0)]], .tup [.tup [.int (0), .int (13)], .tup [.int (2), .int (1)], .tup [.int (4), .int (3)], .tup [.int (6), .int (5)], .tup [.int (8), .int (7)], .tup [.int (10), .int (9)], .tup [.int (12), .int (11)]]], .tup [.int (0), .int (1), .int (2), .int (3), .int (5), .int (6)]], .tup [])
theorem r7A13_ok : chkE tb wf [] 15 0 r7A13 = true := by kernel_rfl
def r7A14 : Nat × List W × W := (35, [.tup [.int (7), .tup [.tup [.int (0), .int (1)], .tup [.int (1), .int (2)], .tup [.int (2), .int (3)], .tup [.int (3), .int (4)], .tup [.int (4), .int (5)], .tup [.int (5), .int (6)], .tup [.int (6), .int (0)]], .tup [.tup [.int (0), .int (13)], .tup [.int (2), .int (1)], .tup [.int (4), .int (3)], .tup [.int (6), .int (5)], .tup [.int (8), .int (7)], .tup [.int (10), .int (9)], .tup [.int (12), .int (11)]]], .tup [.int (0), .int (1), .int (2), .int (4), .int (5), .int (6)]], .tup [])
theorem r7A14_ok : chkE tb wf [] 15 0 r7A14 = true := by kernel_rfl
def r7A15 : Nat × List W × W := (35, [.tup [.int (7), .tup [.tup [.int (0), .int (1)], .tup [.int (1), .int (2)], .tup [.int (2), .int (3)], .tup [.int (3), .int (4)], .tup [.int (4), .int (5)], .tup [.int (5), .int (6)], .tup [.int (6), .int (0)]], .tup [.tup [.int (0), .int (13)], .tup [.int (2), .int (1)], .tup [.int (4), .int (3)], .tup [.int (6), .int (5)], .tup [.int (8), .int (7)], .tup [.int (10), .int (9)], .tup [.int (12), .int (11)]]], .tup [.int (0), .int (1), .int (3), .int (4), .int (5), .int (6)]], .tup [])
theorem r7A15_ok : chkE tb wf [] 15 0 r7A15 = true := by kernel_rfl
def r7A16 : Nat × List W × W := (35, [.tup [.int (7), .tup [.tup [.int (0), .int (1)], .tup [.int (1), .int (2)], .tup [.int (2), .int (3)], .tup [.int (3), .int (4)], .tup [.int (4), .int (5)], .tup [.int (5), .int (6)], .tup [.int (6), .int (0)]], .tup [.tup [.int (0), .int (13)], .tup [.int (2), .int (1)], .tup [.int (4), .int (3)], .tup [.int (6), .int (5)], .tup [.int (8), .int (7)], .tup [.int (10), .int (9)], .tup [.int (12), .int (11)]]], .tup [.int (0), .int (2), .int (3), .int (4), .int (5), .int (6)]], .tup [])
theorem r7A16_ok : chkE tb wf [] 15 0 r7A16 = true := by kernel_rfl
def r7A17 : Nat × List W × W := (35, [.tup [.int (7), .tup [.tup [.int (0), .int (1)], .tup [.int (1), .int (2)], .tup [.int (2), .int (3)], .tup [.int (3), .int (4)], .tup [.int (4), .int (5)], .tup [.int (5), .int (6)], .tup [.int (6), .int (0)]], .tup [.tup [.int (0), .int (13)], .tup [.int (2), .int (1)], .tup [.int (4), .int (3)], .tup [.int (6), .int (5)], .tup [.int (8), .int (7)], .tup [.int (10), .int (9)], .tup [.int (12), .int (11)]]], .tup [.int (1), .int (2), .int (3), .int (4), .int (5), .int (6)]], .tup [])
theorem r7A17_ok : chkE tb wf [] 15 0 r7A17 = true := by kernel_rfl
def r7A18 : Nat × List W × W := (11, [.tup [.int (7), .tup [.tup [.int (0), .int (1)], .tup [.int (1), .int (2)], .tup [.int (2), .int (3)], .tup [.int (3), .int (4)], .tup [.int (4), .int (5)], .tup [.int (5), .int (6)], .tup [.int (6), .int (0)]], .tup [.tup [.int (0), .int (13)], .tup [.int (2), .int (1)], .tup [.int (4), .int (3)], .tup [.int (6), .int (5)], .tup [.int (8), .int (7)], .tup [.int (10), .int (9)], .tup [.int (12), .int (11)]]], .int (0), .tup [.int (0), .int (1), .int (1), .int (1), .int (1), .int (1), .int (1)]], .bl true)
theorem r7A18_ok : chkE tb wf [] 15 0 r7A18 = true := by kernel_rfl
def r7A19 : Nat × List W × W := (11, [.tup [.int (7), .tup [.tup [.int (0), .int (1)], .tup [.int (1), .int (2)], .tup [.int (2), .int (3)], .tup [.int (3), .int (4)], .tup [.int (4), .int (5)], .tup [.int (5), .int (6)], .tup [.int (6), .int (0)]], .tup [.tup [.int (0), .int (13)], .tup [.int (2), .int (1)], .tup [.int (4), .int (3)], .tup [.int (6), .int (5)], .tup [.int (8), .int (7)], .tup [.int (10), .int (9)], .tup [.int (12), .int (11)]]], .int (0), .tup [.int (0), .int (0), .int (1), .int (1), .int (1), .int (1), .int (1)]], .bl true)
theorem r7A19_ok : chkE tb wf [] 15 0 r7A19 = true := by kernel_rfl
def r7TA : List (Nat × List W × W) := [r7A0, r7A1, r7A2, r7A3, r7A4, r7A5, r7A6, r7A7, r7A8, r7A9, r7A10, r7A11, r7A12, r7A13, r7A14, r7A15, r7A16, r7A17, r7A18, r7A19]
theorem r7TA_ok : Val tb wf r7TA 16 := Val.put (k := 0) rfl (Val.nil tb wf 15) r7A0_ok (Val.put (k := 0) rfl (Val.nil tb wf 15) r7A1_ok (Val.put (k := 0) rfl (Val.nil tb wf 15) r7A2_ok (Val.put (k := 0) rfl (Val.nil tb wf 15) r7A3_ok (Val.put (k := 0) rfl (Val.nil tb wf 15) r7A4_ok (Val.put (k := 0) rfl (Val.nil tb wf 15) r7A5_ok (Val.put (k := 0) rfl (Val.nil tb wf 15) r7A6_ok (Val.put (k := 0) rfl (Val.nil tb wf 15) r7A7_ok (Val.put (k := 0) rfl (Val.nil tb wf 15) r7A8_ok (Val.put (k := 0) rfl (Val.nil tb wf 15) r7A9_ok (Val.put (k := 0) rfl (Val.nil tb wf 15) r7A10_ok (Val.put (k := 0) rfl (Val.nil tb wf 15) r7A11_ok (Val.put (k := 0) rfl (Val.nil tb wf 15) r7A12_ok (Val.put (k := 0) rfl (Val.nil tb wf 15) r7A13_ok (Val.put (k := 0) rfl (Val.nil tb wf 15) r7A14_ok (Val.put (k := 0) rfl (Val.nil tb wf 15) r7A15_ok (Val.put (k := 0) rfl (Val.nil tb wf 15) r7A16_ok (Val.put (k := 0) rfl (Val.nil tb wf 15) r7A17_ok (Val.put (k := 0) rfl (Val.nil tb wf 15) r7A18_ok (Val.put (k := 0) rfl (Val.nil tb wf 15) r7A19_ok (Val.nil tb wf 16))))))))))))))))))))
def r7B0 : Nat × List W × W := (32, [.tup [.int (7), .tup [.tup [.int (0), .int (1)], .tup [.int (1), .int (2)], .tup [.int (2), .int (3)], .tup [.int (3), .int (4)], .tup [.int (4), .int (5)], .tup [.int (5), .int (6)], .tup [.int (6), .int (0)]], .tup [.tup [.int (0), .int (13)], .tup [.int (2), .int (1)], .tup [.int (4), .int (3)], .tup [.int (6), .int (5)], .tup [.int (8), .int (7)], .tup [.int (10), .int (9)], .tup [.int (12), .int (11)]]], .int (0), .tup [.int (0), .int (1), .int (2), .int (3), .int (4), .int (5)], .str "numbers"], .tup [.int (0), .int (1), .int (1), .int (1), .int (1), .int (1), .int (1)])
theorem r7B0_ok : chkE tb wf r7TA 16 8 r7B0 = true := by kernel_rfl
def r7B1 : Nat × List W × W := (32, [.tup [.int (7), .tup [.tup [.int (0), .int (1)], .tup [.int (1), .int (2)], .tup [.int (2), .int (3)], .tup [.int (3), .int (4)], .tup [.int (4), .int (5)], .tup [.int (5), .int (6)], .tup [.int (6), .int (0)]], .tup [.tup [.int (0), .int (13)], .tup [.int (2), .int (1)], .tup [.int (4), .int (3)], .tup [.int (6), .int (5)], .tup [.int (8), .int (7)], .tup [.int (10), .int (9)], .tup [.int (12), .int (11)]]], .int (0), .tup [.int (0), .int (1), .int (2), .int (3), .int (4), .int (6)], .str "numbers"], .tup [.int (0), .int (1), .int (1), .int (1), .int (1), .int (1), .int (0)])
theorem r7B1_ok : chkE tb wf r7TA 16 8 r7B1 = true := by kernel_rfl
def r7B2 : Nat × List W × W := (32, [.tup [.int (7), .tup [.tup [.int (0), .int (1)], .tup [.int (1), .int (2)], .tup [.int (2), .int (3)], .tup [.int (3), .int (4)], .tup [.int (4), .int (5)], .tup [.int (5), .int (6)], .tup [.int (6), .int (0)]], .tup [.tup [.int (0), .int (13)], .tup [.int (2), .int (1)], .tup [.int (4), .int (3)], .tup [.int (6), .int (5)], .tup [.int (8), .int (7)], .tup [.int (10), .int (9)], .tup [.int (12), .int (11)]]], .int (0), .tup [.int (0), .int (1), .int (2), .int (3), .int (5), .int (6)], .str "numbers"], .tup [.int (0), .int (1), .int (1), .int (1), .int (1), .int (0), .int (1)])
theorem r7B2_ok : chkE tb wf r7TA 16 8 r7B2 = true := by kernel_rfl
def r7B3 : Nat × List W × W := (32, [.tup [.int (7), .tup [.tup [.int (0), .int (1)], .tup [.int (1), .int (2)], .tup [.int (2), .int (3)], .tup [.int (3), .int (4)], .tup [.int (4), .int (5)], .tup [.int (5), .int (6)], .tup [.int (6), .int (0)]], .tup [.tup [.int (0), .int (13)], .tup [.int (2), .int (1)], .tup [.int (4), .int (3)], .tup [.int (6), .int (5)], .tup [.int (8), .int (7)], .tup [.int (10), .int (9)], .tup [.int (12), .int (11)]]], .int (0), .tup [.int (0), .int (1), .int (2), .int (4), .int (5), .int (6)], .str "numbers"], .tup [.int (0), .int (1), .int (1), .int (1), .int (0), .int (1), .int (1)])
theorem r7B3_ok : chkE tb wf r7TA 16 8 r7B3 = true := by kernel_rfl
def r7B4 : Nat × List W × W := (32, [.tup [.int (7), .tup [.tup [.int (0), .int (1)], .tup [.int (1), .int (2)], .tup [.int (2), .int (3)], .tup [.int (3), .int (4)], .tup [.int (4), .int (5)], .tup [.int (5), .int (6)], .tup [.int (6), .int (0)]], .tup [.tup [.int (0), .int (13)], .tup [.int (2), .int (1)], .tup [.int (4), .int (3)], .tup [.int (6), .int (5)], .tup [.int (8), .int (7)], .tup [.int (10), .int (9)], .tup [.int (12), .int (11)]]], .int (0), .tup [.int (0), .int (1), .int (3), .int (4), .int (5), .int (6)], .str "numbers"], .tup [.int (0), .int (1), .int (1), .int (0), .int (1), .int (1), .int (1)])
theorem r7B4_ok : chkE tb wf r7TA 16 8 r7B4 = true := by kernel_rfl
def r7B5 : Nat × List W × W := (32, [.tup [.int (7), .tup [.tup [.int (0), .int (1)], .tup [.int (1), .int (2)], .tup [.int (2), .int (3)], .tup [.int (3), .int (4)], .tup [.int (4), .int (5)], .tup [.int (5), .int (6)], .tup [.int (6), .int (0)]], .tup [.tup [.int (0), .int (13)], .tup [.int (2), .int (1)], .tup [.int (4), .int (3)], .tup [.int (6), .int (5)], .tup [.int (8), .int (7)], .tup [.int (10), .int (9)], .tup [.int (12), .int (11)]]], .int (0), .tup [.int (0), .int (2), .int (3), .int (4), .int (5), .int (6)], .str "numbers"], .tup [.int (0), .int (1), .int (0), .int (1), .int (1), .int (1), .int (1)])
theorem r7B5_ok : chkE tb wf r7TA 16 8 r7B5 = true := by kernel_rfl
def r7B6 : Nat × List W × W := (32, [.tup [.int (7), .tup [.tup [.int (0), .int (1)], .tup [.int (1), .int (2)], .tup [.int (2), .int (3)], .tup [.int (3), .int (4)], .tup [.int (4), .int (5)], .tup [.int (5), .int (6)], .tup [.int (6), .int (0)]], .tup [.tup [.int (0), .int (13)], .tup [.int (2), .int (1)], .tup [.int (4), .int (3)], .tup [.int (6), .int (5)], .tup [.int (8), .int (7)], .tup [.int (10), .int (9)], .tup [.int (12), .int (11)]]], .int (0), .tup [.int (1), .int (2), .int (3), .int (4), .int (5), .int (6)], .str "numbers"], .tup [.int (0), .int (0), .int (1), .int (1), .int (1), .int (1), .int (1)])
theorem r7B6_ok : chkE tb wf r7TA 16 8 r7B6 = true := by kernel_rfl
def r7B7 : Nat × List W × W := (38, [.tup [.int (7), .tup [.tup [.int (0), .int (1)], .tup [.int (1), .int (2)], .tup [.int (2), .int (3)], .tup [.int (3), .int (4)], .tup [.int (4), .int (5)], .tup [.int (5), .int (6)], .tup [.int (6), .int (0)]], .tup [.tup [.int (0), .int (13)], .tup [.int (2), .int (1)], .tup [.int (4), .int (3)], .tup [.int (6), .int (5)], .tup [.int (8), .int (7)], .tup [.int (10), .int (9)], .tup [.int (12), .int (11)]]], .int (0)], .tup [.int (0), .int (1), .int (1), .int (1), .int (1), .int (1), .int (1)])
theorem r7B7_ok : chkE tb wf r7TA 16 8 r7B7 = true := by kernel_rfl
def r7B8 : Nat × List W × W := (36, [.tup [.int (7), .tup [.tup [.int (0), .int (1)], .tup [.int (1), .int (2)], .tup [.int (2), .int (3)], .tup [.int (3), .int (4)], .tup [.int (4), .int (5)], .tup [.int (5), .int (6)], .tup [.int (6), .int (0)]], .tup [.tup [.int (0), .int (13)], .tup [.int (2), .int (1)], .tup [.int (4), .int (3)], .tup [.int (6), .int (5)], .tup [.int (8), .int (7)], .tup [.int (10), .int (9)], .tup [.int (12), .int (11)]]]], .tup [.int (6), .int (1)])
theorem r7B8_ok : chkE tb wf r7TA 16 8 r7B8 = true := by kernel_rfl
def r7B9 : Nat × List W × W := (33, [.tup [.int (7), .tup [.tup [.int (0), .int (1)], .tup [.int (1), .int (2)], .tup [.int (2), .int (3)], .tup [.int (3), .int (4)], .tup [.int (4), .int (5)], .tup [.int (5), .int (6)], .tup [.int (6), .int (0)]], .tup [.tup [.int (0), .int (13)], .tup [.int (2), .int (1)], .tup [.int (4), .int (3)], .tup [.int (6), .int (5)], .tup [.int (8), .int (7)], .tup [.int (10), .int (9)], .tup [.int (12), .int (11)]]], .int (0), .tup [.int (0), .int (1), .int (1), .int (1), .int (1), .int (1), .int (1)]], .int (1))
theorem r7B9_ok : chkE tb wf r7TA 16 8 r7B9 = true := by kernel_rfl
def r7B10 : Nat × List W × W := (33, [.tup [.int (7), .tup [.tup [.int (0), .int (1)], .tup [.int (1), .int (2)], .tup [.int (2), .int (3)], .tup [.int (3), .int (4)], .tup [.int (4), .int (5)], .tup [.int (5), .int (6)], .tup [.int (6), .int (0)]], .tup [.tup [.int (0), .int (13)], .tup [.int (2), .int (1)], .tup [.int (4), .int (3)], .tup [.int (6), .int (5)], .tup [.int (8), .int (7)], .tup [.int (10), .int (9)], .tup [.int (12), .int (11)]]], .int (0), .tup [.int (0), .int (0), .int (1), .int (1), .int (1), .int (1), .int (1)]], .int (0))
theorem r7B10_ok : chkE tb wf r7TA 16 8 r7B10 = true := by kernel_rfl
def r7B11 : Nat × List W × W := (5, [.tup [.int (7), .tup [.tup [.int (0), .int (1)], .tup [.int (1), .int (2)], .tup [.int (2), .int (3)], .tup [.int (3), .int (4)], .tup [.int (4), .int (5)], .tup [.int (5), .int (6)], .tup [.int (6), .int (0)]], .tup [.tup [.int (0), .int (13)], .tup [.int (2), .int (1)], .tup [.int (4), .int (3)], .tup [.int (6), .int (5)], .tup [.int (8), .int (7)], .tup [.int (10), .int (9)], .tup [.int (12), .int (11)]]], .int (0), .tup [.int (0), .int (2), .int (1), .int (1), .int (1), .int (1), .int (2)]], .tup [.int (0), .int (1), .int (1), .int (1), .int (1), .int (1), .int (1)])
theorem r7B11_ok : chkE tb wf r7TA 16 8 r7B11 = true := by kernel_rfl
def r7B12 : Nat × List W × W := (4, [.tup [.int (7), .tup [.tup [.int (0), .int (1)], .tup [.int (1), .int (2)], .tup [.int (2), .int (3)], .tup [.int (3), .int (4)], .tup [.int (4), .int (5)], .tup [.int (5), .int (6)], .tup [.int (6), .int (0)]], .tup [.tup [.int (0), .int (13)], .tup [.int (2), .int (1)], .tup [.int (4), .int (3)], .tup [.int (6), .int (5)], .tup [.int (8), .int (7)], .tup [.int (10), .int (9)], .tup [.int (12), .int (11)]]], .int (0), .tup [.int (0), .int (4), .int (4), .int (4), .int (4), .int (4), .int (4)]], .tup [.int (0), .int (1), .int (1), .int (1), .int (1), .int (1), .int (1)])
theorem r7B12_ok : chkE tb wf r7TA 16 8 r7B12 = true := by kernel_rfl
def r7B13 : Nat × List W × W := (4, [.tup [.int (7), .tup [.tup [.int (0), .int (1)], .tup [.int (1), .int (2)], .tup [.int (2), .int (3)], .tup [.int (3), .int (4)], .tup [.int (4), .int (5)], .tup [.int (5), .int (6)], .tup [.int (6), .int (0)]], .tup [.tup [.int (0), .int (13)], .tup [.int (2), .int (1)], .tup [.int (4), .int (3)], .tup [.int (6), .int (5)], .tup [.int (8), .int (7)], .tup [.int (10), .int (9)], .tup [.int (12), .int (11)]]], .int (0), .tup [.int (0), .int (3), .int (3), .int (3), .int (3), .int (3), .int (3)]], .tup [.int (0), .int (1), .int (1), .int (1), .int (1), .int (1), .int (1)])
theorem r7B13_ok : chkE tb wf r7TA 16 8 r7B13 = true := by kernel_rfl
def r7B14 : Nat × List W × W := (4, [.tup [.int (7), .tup [.tup [.int (0), .int (1)], .tup [.int (1), .int (2)], .tup [.int (2), .int (3)], .tup [.int (3), .int (4)], .tup [.int (4), .int (5)], .tup [.int (5), .int (6)], .tup [.int (6), .int (0)]], .tup [.tup [.int (0), .int (13)], .tup [.int (2), .int (1)], .tup [.int (4), .int (3)], .tup [.int (6), .int (5)], .tup [.int (8), .int (7)], .tup [.int (10), .int (9)], .tup [.int (12), .int (11)]]], .int (0), .tup [.int (0), .int (2), .int (1), .int (1), .int (1), .int (1), .int (2)]], .tup [.int (0), .int (1), .int (1), .int (1), .int (1), .int (1), .int (1)])
theorem r7B14_ok : chkE tb wf r7TA 16 8 r7B14 = true := by kernel_rfl
def r7B15 : Nat × List W × W := (37, [.tup [.int (7), .tup [.tup [.int (0), .int (1)], .tup [.int (1), .int (2)], .tup [.int (2), .int (3)], .tup [.int (3), .int (4)], .tup [.int (4), .int (5)], .tup [.int (5), .int (6)], .tup [.int (6), .int (0)]], .tup [.tup [.int (0), .int (13)], .tup [.int (2), .int (1)], .tup [.int (4), .int (3)], .tup [.int (6), .int (5)], .tup [.int (8), .int (7)], .tup [.int (10), .int (9)], .tup [.int (12), .int (11)]]], .int (0), .tup [.int (0), .int (0), .int (0), .int (0), .int (0), .int (0), .int (0)]], .tup [.int (0), .int (1), .int (1), .int (1), .int (1), .int (1), .int (1)])
theorem r7B15_ok : chkE tb wf r7TA 16 8 r7B15 = true := by kernel_rfl
def r7TB : List (Nat × List W × W) := r7B0 :: r7B1 :: r7B2 :: r7B3 :: r7B4 :: r7B5 :: r7B6 :: r7B7 :: r7B8 :: r7B9 :: r7B10 :: r7B11 :: r7B12 :: r7B13 :: r7B14 :: r7B15 :: r7TA
theorem r7TB_ok : Val tb wf r7TB 25 := Val.put (k := 8) rfl r7TA_ok r7B0_ok (Val.put (k := 8) rfl r7TA_ok r7B1_ok (Val.put (k := 8) rfl r7TA_ok r7B2_ok (Val.put (k := 8) rfl r7TA_ok r7B3_ok (Val.put (k := 8) rfl r7TA_ok r7B4_ok (Val.put (k := 8) rfl r7TA_ok r7B5_ok (Val.put (k := 8) rfl r7TA_ok r7B6_ok (Val.put (k := 8) rfl r7TA_ok r7B7_ok (Val.put (k := 8) rfl r7TA_ok r7B8_ok (Val.put (k := 8) rfl r7TA_ok r7B9_ok (Val.put (k := 8) rfl r7TA_ok r7B10_ok (Val.put (k := 8) rfl r7TA_ok r7B11_ok (Val.put (k := 8) rfl r7TA_ok r7B12_ok (Val.put (k := 8) rfl r7TA_ok r7B13_ok (Val.put (k := 8) rfl r7TA_ok r7B14_ok (Val.put (k := 8) rfl r7TA_ok r7B15_ok (r7TA_ok.add 9))))))))))))))))
theorem r7O : isT1 (runF (callO tb wf r7TB 25 4) wf f__law_ring_right [.int 7] Hw.nil) = true := by kernel_rfl
theorem r7 : isT1 (rr 7) = true := by
  obtain ⟨g, e⟩ := isT1_ok r7O
  rw [show rr 7 = _ from (leF (callO_le r7TB_ok 4) wf f__law_ring_right [.int 7] Hw.nil).ok e]
  rfl
def r8A0 : Nat × List W × W := (1, [.tup [.int (8), .tup [.tup [.int (0), .int (1)], .tup [.int (1), .int (2)], .tup [.int (2), .int (3)], .tup [.int (3), .int (4)], .tup [.int (4), .int (5)], .tup [.int (5), .int (6)], .tup [.int (6), .int (7)], .tup [.int (7), .int (0)]], .tup [.tup [.int (0), .int (15)], .tup [.int (2), .int (1)], .tup [.int (4), .int (3)], .tup [.int (6), .int (5)], .tup [.int (8), .int (7)], .tup [.int (10), .int (9)], .tup [.int (12), .int (11)], .tup [.int (14), .int (13)]]]], .tup [.int (2), .int (2), .int (2), .int (2), .int (2), .int (2), .int (2), .int (2)])
theorem r8A0_ok : chkE tb wf [] 15 0 r8A0 = true := by kernel_rfl
def r8A1 : Nat × List W × W := (22, [.tup [.int (8), .tup [.tup [.int (0), .int (1)], .tup [.int (1), .int (2)], .tup [.int (2), .int (3)], .tup [.int (3), .int (4)], .tup [.int (4), .int (5)], .tup [.int (5), .int (6)], .tup [.int (6), .int (7)], .tup [.int (7), .int (0)]], .tup [.tup [.int (0), .int (15)], .tup [.int (2), .int (1)], .tup [.int (4), .int (3)], .tup [.int (6), .int (5)], .tup [.int (8), .int (7)], .tup [.int (10), .int (9)], .tup [.int (12), .int (11)], .tup [.int (14), .int (13)]]], .tup [.int (0), .int (1), .int (2), .int (3), .int (4), .int (5), .int (6)]], .bl true)
theorem r8A1_ok : chkE tb wf [] 15 0 r8A1 = true := by kernel_rfl
def r8A2 : Nat × List W × W := (22, [.tup [.int (8), .tup [.tup [.int (0), .int (1)], .tup [.int (1), .int (2)], .tup [.int (2), .int (3)], .tup [.int (3), .int (4)], .tup [.int (4), .int (5)], .tup [.int (5), .int (6)], .tup [.int (6), .int (7)], .tup [.int (7), .int (0)]], .tup [.tup [.int (0), .int (15)], .tup [.int (2), .int (1)], .tup [.int (4), .int (3)], .tup [.int (6), .int (5)], .tup [.int (8), .int (7)], .tup [.int (10), .int (9)], .tup [.int (12), .int (11)], .tup [.int (14), .int (13)]]], .tup [.int (0), .int (1), .int (2), .int (3), .int (4), .int (5), .int (7)]], .bl true)
theorem r8A2_ok : chkE tb wf [] 15 0 r8A2 = true := by kernel_rfl
def r8A3 : Nat × List W × W := (22, [.tup [.int (8), .tup [.tup [.int (0), .int (1)], .tup [.int (1), .int (2)], .tup [.int (2), .int (3)], .tup [.int (3), .int (4)], .tup [.int (4), .int (5)], .tup [.int (5), .int (6)], .tup [.int (6), .int (7)], .tup [.int (7), .int (0)]], .tup [.tup [.int (0), .int (15)], .tup [.int (2), .int (1)], .tup [.int (4), .int (3)], .tup [.int (6), .int (5)], .tup [.int (8), .int (7)], .tup [.int (10), .int (9)], .tup [.int (12), .int (11)], .tup [.int (14), .int (13)]]], .tup [.int (0), .int (1), .int (2), .int (3), .int (4), .int (6), .int (7)]], .bl true)
theorem r8A3_ok : chkE tb wf [] 15 0 r8A3 = true := by kernel_rfl
def r8A4 : Nat × List W × W := (22, [.tup [.int (8), .tup [.tup [.int (0), .int (1)], .tup [.int (1), .int (2)], .tup [.int (2), .int (3)], .tup [.int (3), .int (4)], .tup [.int (4), .int (5)], .tup [.int (5), .int (6)], .tup [.int (6), .int (7)], .tup [.int (7), .int (0)]], .tup [.tup [.int (0), .int (15)], .tup [.int (2), .int (1)], .tup [.int (4), .int (3)], .tup [.int (6), .int (5)], .tup [.int (8), .int (7)], .tup [.int (10), .int (9)], .tup [.int (12), .int (11)], .tup [.int (14), .int (13)]]], .tup [.int (0), .int (1), .int (2), .int (3), .int (5), .int (6), .int (7)]], .bl true)
theorem r8A4_ok : chkE tb wf [] 15 0 r8A4 = true := by kernel_rfl
def r8A5 : Nat × List W × W := (22, [.tup [.int (8), .tup [.tup [.int (0), .int (1)], .tup [.int (1), .int (2)], .tup [.int (2), .int (3)], .tup [.int (3), .int (4)], .tup [.int (4), .int (5)], .tup [.int (5), .int (6)], .tup [.int (6), .int (7)], .tup [.int (7), .int (0)]], .tup [.tup [.int (0), .int (15)], .tup [.int (2), .int (1)], .tup [.int (4), .int (3)], .tup [.int (6), .int (5)], .tup [.int (8), .int (7)], .tup [.int (10), .int (9)], .tup [.int (12), .int (11)], .tup [.int (14), .int (13)]]], .tup [.int (0), .int (1), .int (2), .int (4), .int (5), .int (6), .int (7)]], .bl true)
theorem r8A5_ok : chkE tb wf [] 15 0 r8A5 = true := by kernel_rfl
def r8A6 : Nat × List W × W := (22, [.tup [.int (8), .tup [.tup [.int (0), .int (1)], .tup [.int (1), .int (2)], .tup [.int (2), .int (3)], .tup [.int (3), .int (4)], .tup [.int (4), .int (5)], .tup [.int (5), .int (6)], .tup [.int (6), .int (7)], .tup [.int (7), .int (0)]], .tup [.tup [.int (0), .int (15)], .tup [.int (2), .int (1)], .tup [.int (4), .int (3)], .tup [.int (6), .int (5)], .tup [.int (8), .int (7)], .tup [.int (10), .int (9)], .tup [.int (12), .int (11)], .tup [.int (14), .int (13)]]], .tup [.int (0), .int (1), .int (3), .int (4), .int (5), .int (6), .int (7)]], .bl true)
theorem r8A6_ok : chkE tb wf [] 15 0 r8A6 = true := by kernel_rfl
def r8A7 : Nat × List W × W := (22, [.tup [.int (8), .tup [.tup [.int (0), .int (1)], .tup [.int (1), .int (2)], .tup [.int (2), .int (3)], .tup [.int (3), .int (4)], .tup [.int (4), .int (5)], .tup [.int (5), .int (6)], .tup [.int (6), .int (7)], .tup [.int (7), .int (0)]], .tup [.tup [.int (0), .int (15)], .tup [.int (2), .int (1)], .tup [.int (4), .int (3)], .tup [.int (6), .int (5)], .tup [.int (8), .int (7)], .tup [.int (10), .int (9)], .tup [.int (12), .int (11)], .tup [.int (14), .int (13)]]], .tup [.int (0), .int (2), .int (3), .int (4), .int (5), .int (6), .int (7)]], .bl true)
theorem r8A7_ok : chkE tb wf [] 15 0 r8A7 = true := by kernel_rfl
def r8A8 : Nat × List W × W := (22, [.tup [.int (8), .tup [.tup [.int (0), .int (1)], .tup [.int (1), .int (2)], .tup [.int (2), .int (3)], .tup [.int (3), .int (4)], .tup [.int (4), .int (5)], .tup [.int (5), .int (6)], .tup [.int (6), .int (7)], .tup [.int (7), .int (0)]], .tup [.tup [.int (0), .int (15)], .tup [.int (2), .int (1)], .tup [.int (4), .int (3)], .tup [.int (6), .int (5)], .tup [.int (8), .int (7)], .tup [.int (10), .int (9)], .tup [.int (12), .int (11)], .tup [.int (14), .int (13)]]], .tup [.int (1), .int (2), .int (3), .int (4), .int (5), .int (6), .int (7)]], .bl true)
theorem r8A8_ok : chkE tb wf [] 15 0 r8A8 = true := by kernel_rfl
def r8A9 : Nat × List W × W := (3, [.tup [.int (8), .tup [.tup [.int (0), .int (1)], .tup [.int (1), .int (2)], .tup [.int (2), .int (3)], .tup [.int (3), .int (4)], .tup [.int (4), .int (5)], .tup [.int (5), .int (6)], .tup [.int (6), .int (7)], .tup [.int (7), .int (0)]], .tup [.tup [.int (0), .int (15)], .tup [.int (2), .int (1)], .tup [.int (4), .int (3)], .tup [.int (6), .int (5)], .tup [.int (8), .int (7)], .tup [.int (10), .int (9)], .tup [.int (12), .int (11)], .tup [.int (14), .int (13)]]], .int (0), .tup [.int (0), .int (4), .int (4), .int (4), .int (4), .int (4), .int (4), .int (4)]], .tup [.tup [.int (0), .int (1), .int (1), .int (1), .int (0), .int (1), .int (1), .int (1)], .tup [.int (0), .int (11), .int (19), .int (24), .int (26), .int (24), .int (19), .int (11)]])
theorem r8A9_ok : chkE tb wf [] 15 0 r8A9 = true := by kernel_rfl
def r8A10 : Nat × List W × W := (3, [.tup [.int (8), .tup [.tup [.int (0), .int (1)], .tup [.int (1), .int (2)], .tup [.int (2), .int (3)], .tup [.int (3), .int (4)], .tup [.int (4), .int (5)], .tup [.int (5), .int (6)], .tup [.int (6), .int (7)], .tup [.int (7), .int (0)]], .tup [.tup [.int (0), .int (15)], .tup [.int (2), .int (1)], .tup [.int (4), .int (3)], .tup [.int (6), .int (5)], .tup [.int (8), .int (7)], .tup [.int (10), .int (9)], .tup [.int (12), .int (11)], .tup [.int (14), .int (13)]]], .int (0), .tup [.int (0), .int (3), .int (3), .int (3), .int (4), .int (3), .int (3), .int (3)]], .tup [.tup [.int (0), .int (1), .int (1), .int (1), .int (0), .int (1), .int (1), .int (1)], .tup [.int (0), .int (8), .int (14), .int (18), .int (20), .int (18), .int (14), .int (8)]])
theorem r8A10_ok : chkE tb wf [] 15 0 r8A10 = true := by kernel_rfl
def r8A11 : Nat × List W × W := (3, [.tup [.int (8), .tup [.tup [.int (0), .int (1)], .tup [.int (1), .int (2)], .tup [.int (2), .int (3)], .tup [.int (3), .int (4)], .tup [.int (4), .int (5)], .tup [.int (5), .int (6)], .tup [.int (6), .int (7)], .tup [.int (7), .int (0)]], .tup [.tup [.int (0), .int (15)], .tup [.int (2), .int (1)], .tup [.int (4), .int (3)], .tup [.int (6), .int (5)], .tup [.int (8), .int (7)], .tup [.int (10), .int (9)], .tup [.int (12), .int (11)], .tup [.int (14), .int (13)]]], .int (0), .tup [.int (0), .int (2), .int (1), .int (1), .int (1), .int (1), .int (1), .int (2)]], .tup [.tup [.int (0), .int (1), .int (1), .int (1), .int (1), .int (1), .int (1), .int (1)], .tup [.int (0), .int (1), .int (1), .int (1), .int (1), .int (1), .int (1), .int (1)]])
theorem r8A11_ok : chkE tb wf [] 15 0 r8A11 = true := by kernel_rfl
def r8A12 : Nat × List W × W := (35, [.tup [.int (8), .tup [.tup [.int (0), .int (1)], .tup [.int (1), .int (2)], .tup [.int (2), .int (3)], .tup [.int (3), .int (4)], .tup [.int (4), .int (5)], .tup [.int (5), .int (6)], .tup [.int (6), .int (7)], .tup [.int (7), .int (0)]], .tup [.tup [.int (0), .int (15)], .tup [.int (2), .int (1)], .tup [.int (4), .int (3)], .tup [.int (6), .int (5)], .tup [.int (8), .int (7)], .tup [.int (10), .int (9)], .tup [.int (12), .int (11)], .tup [.int (14), .int (13)]]], .tup [.int (0), .int (1), .int (2), .int (3), .int (4), .int (5), .int (6)]], .tup [.int (7)])
theorem r8A12_ok : chkE tb wf [] 15 0 r8A12 = true := by kernel_rfl
def r8A13 : Nat × List W × W := (35, [.tup [.int (8), .tup [.tup [.int (0), .int (1)], .tup [.int (1), .int (2)], .tup [.int (2), .int (3)], .tup [.int (3), .int (4)], .tup [.int (4), .int (5)], .tup [.int (5), .int (6)], .tup [.int (6), .int (7)], .tup [.int (7), .int (0)]], .tup [.tup [.int (0), .int (15)], .tup [.int (2), .int (1)], .tup [.int (4), .int (3)], .tup [.int (6), .int (5)], .tup [.int (8), .int (7)], .tup [.int (10), .int (9)], .tup [.int (12), .int (11)], .tup [.int (14), .int (13)]]], .tup [.int (0), .int (1), .int (2), .int (3), .int (4), .int (5), .int (7)]], .tup [])
theorem r8A13_ok : chkE tb wf [] 15 0 r8A13 = true := by kernel_rfl
def r8A14 : Nat × List W × W := (35, [.tup [.int (8), .tup [.tup [.int (0), .int (1)], .tup [.int (1), .int (2)], .tup [.int (2), .int (3)], .tup [.int (3), .int (4)], .tup [.int (4), .int (5)], .tup [.int (5), .int (6)], .tup [.int (6), .int (7)], .tup [.int (7), .int (0)]], .tup [.tup [.int (0), .int (15)], .tup [.int (2), .int (1)], .tup [.int (4), .int (3)], .tup [.int (6), .int (5)], .tup [.int (8), .int (7)], .tup [.int (10), .int (9)], .tup [.int (12), .int (11)], .tup [.int (14), .int (13)]]], .tup [.int (0), .int (1), .int (2), .int (3), .int (4), .int (6), .int (7)]], .tup [])
theorem r8A14_ok : chkE tb wf [] 15 0 r8A14 = true := by kernel_rfl
def r8A15 : Nat × List W × W := (35, [.tup [.int (8), .tup [.tup [.int (0), .int (1)], .tup [.int (1), .int (2)], .tup [.int (2), .int (3)], .tup [.int (3), .int (4)], .tup [.int (4), .int (5)], .tup [.int (5), .int (6)], .tup [.int (6), .int (7)], .tup [.int (7), .int (0)]], .tup [.tup [.int (0), .int (15)], .tup [.int (2), .int (1)], .tup [.int (4), .int (3)], .tup [.int (6), .int (5)], .tup [.int (8), .int (7)], .tup [.int (10), .int (9)], .tup [.int (12), .int (11)], .tup [.int (14), .int (13)]]], .tup [.int (0), .int (1), .int (2), .int (3), .int (5), .int (6), .int (7)]], .tup [])
theorem r8A15_ok : chkE tb wf [] 15 0 r8A15 = true := by kernel_rfl
def r8A16 : Nat × List W × W := (35, [.tup [.int (8), .tup [.tup [.int (0), .int (1)], .tup [.int (1), .int (2)], .tup [.int (2), .int (3)], .tup [.int (3), .int (4)], .tup [.int (4), .int (5)], .tup [.int (5), .int (6)], .tup [.int (6), .int (7)], .tup [.int (7), .int (0)]], .tup [.tup [.int (0), .int (15)], .tup [.int (2), .int (1)], .tup [.int (4), .int (3)], .tup [.int (6), .int (5)], .tup [.int (8), .int (7)], .tup [.int (10), .int (9)], .tup [.int (12), .int (11)], .tup [.int (14), .int (13)]]], .tup [.int (0), .int (1), .int (2), .int (4), .int (5), .int (6), .int (7)]], .tup [])
theorem r8A16_ok : chkE tb wf [] 15 0 r8A16 = true := by kernel_rfl
def r8A17 : Nat × List W × W := (35, [.tup [.int (8), .tup [.tup [.int (0), .int (1)], .tup [.int (1), .int (2)], .tup [.int (2), .int (3)], .tup [.int (3), .int (4)], .tup [.int (4), .int (5)], .tup [.int (5), .int (6)], .tup [.int (6), .int (7)], .tup [.int (7), .int (0)]], .tup [.tup [.int (0), .int (15)], .tup [.int (2), .int (1)], .tup [.int (4), .int (3)], .tup [.int (6), .int (5)], .tup [.int (8), .int (7)], .tup [.int (10), .int (9)], .tup [.int (12), .int (11)], .tup [.int (14), .int (13)]]], .tup [.int (0), .int (1), .int (3), .int (4), .int (5), .int (6), .int (7)]], .tup [])
theorem r8A17_ok : chkE tb wf [] 15 0 r8A17 = true := by kernel_rfl
def r8A18 : Nat × List W × W := (35, [.tup [.int (8), .tup [.tup [.int (0), .int (1)], .tup [.int (1), .int (2)], .tup [.int (2), .int (3)], .tup [.int (3), .int (4)], .tup [.int (4), .int (5)], .tup [.int (5), .int (6)], .tup [.int (6), .int (7)], .tup [.int (7), .int (0)]], .tup [.tup [.int (0), .int (15)], .tup [.int (2), .int (1)], .tup [.int (4), .int (3)], .tup [.int (6), .int (5)], .tup [.int (8), .int (7)], .tup [.int (10), .int (9)], .tup [.int (12), .int (11)], .tup [.int (14), .int (13)]]], .tup [.int (0), .int (2), .int (3), .int (4), .int (5), .int (6), .int (7)]], .tup [])
theorem r8A18_ok : chkE tb wf [] 15 0 r8A18 = true := by kernel_rfl
def r8A19 : Nat × List W × W := (35, [.tup [.int (8), .tup [.tup [.int (0), .int (1)], .tup [.int (1), .int (2)], .tup [.int (2), .int (3)], .tup [.int (3), .int (4)], .tup [.int (4), .int (5)], .tup [.int (5), .int (6)], .tup [.int (6), .int (7)], .tup [.int (7), .int (0)]], .tup [.tup [.int (0), .int (15)], .tup [.int (2), .int (1)], .tup [.int (4), .int (3)], .tup [.int (6), .int (5)], .tup [.int (8), .int (7)], .tup [.int (10), .int (9)], .tup [.int (12), .int (11)], .tup [.int (14), .int (13)]]], .tup [.int (1), .int (2), .int (3), .int (4), .int (5), .int (6), .int (7)]], .tup [])
theorem r8A19_ok : chkE tb wf [] 15 0 r8A19 = true := by kernel_rfl
def r8A20 : Nat × List W × W := (11, [.tup [.int (8), .tup [.tup [.int (0), .int (1)], .tup [.int (1), .int (2)], .tup [.int (2), .int (3)], .tup [.int (3), .int (4)], .tup [.int (4), .int (5)], .tup [.int (5), .int (6)], .tup [.int (6), .int (7)], .tup [.int (7), .int (0)]], .tup [.tup [.int (0), .int (15)], .tup [.int (2), .int (1)], .tup [.int (4), .int (3)], .tup [.int (6), .int (5)], .tup [.int (8), .int (7)], .tup [.int (10), .int (9)], .tup [.int (12), .int (11)], .tup [.int (14), .int (13)]]], .int (0), .tup [.int (0), .int (1), .int (1), .int (1), .int (1), .int (1), .int (1), .int (1)]], .bl true)
theorem r8A20_ok : chkE tb wf [] 15 0 r8A20 = true := by kernel_rfl
def r8A21 : Nat × List W × W := (11, [.tup [.int (8), .tup [.tup [.int (0), .int (1)], .tup [.int (1), .int (2)], .tup [.int (2), .int (3)], .tup [.int (3), .int (4)], .tup [.int (4), .int (5)], .tup [.int (5), .int (6)], .tup [.int (6), .int (7)], .tup [.int (7), .int (0)]], .tup [.tup [.int (0), .int (15)], .tup [.int (2), .int (1)], .tup [.int (4), .int (3)], .tup [.int (6), .int (5)], .tup [.int (8), .int (7)], .tup [.int (10), .int (9)], .tup [.int (12), .int (11)], .tup [.int (14), .int (13)]]], .int (0), .tup [.int (0), .int (0), .int (1), .int (1), .int (1), .int (1), .int (1), .int (1)]], .bl true)
theorem r8A21_ok : chkE tb wf [] 15 0 r8A21 = true := by kernel_rfl
def r8TA : List (Nat × List W × W) := [r8A0, r8A1, r8A2, r8A3, r8A4, r8A5, r8A6, r8A7, r8A8, r8A9, r8A10, r8A11, r8A12, r8A13, r8A14, r8A15, r8A16, r8A17, r8A18, r8A19, r8A20, r8A21]
theorem r8TA_ok : Val tb wf r8TA 16 := Val.put (k := 0) rfl (Val.nil tb wf 15) r8A0_ok (Val.put (k := 0) rfl (Val.nil tb wf 15) r8A1_ok (Val.put (k := 0) rfl (Val.nil tb wf 15) r8A2_ok (Val.put (k := 0) rfl (Val.nil tb wf 15) r8A3_ok (Val.put (k := 0) rfl (Val.nil tb wf 15) r8A4_ok (Val.put (k := 0) rfl (Val.nil tb wf 15) r8A5_ok (Val.put (k := 0) rfl (Val.nil tb wf 15) r8A6_ok (Val.put (k := 0) rfl (Val.nil tb wf 15) r8A7_ok (Val.put (k := 0) rfl (Val.nil tb wf 15) r8A8_ok (Val.put (k := 0) rfl (Val.nil tb wf 15) r8A9_ok (Val.put (k := 0) rfl (Val.nil tb wf 15) r8A10_ok (Val.put (k := 0) rfl (Val.nil tb wf 15) r8A11_ok (Val.put (k := 0) rfl (Val.nil tb wf 15) r8A12_ok (Val.put (k := 0) rfl (Val.nil tb wf 15) r8A13_ok (Val.put (k := 0) rfl (Val.nil tb wf 15) r8A14_ok (Val.put (k := 0) rfl (Val.nil tb wf 15) r8A15_ok (Val.put (k := 0) rfl (Val.nil tb wf 15) r8A16_ok (Val.put (k := 0) rfl (Val.nil tb wf 15) r8A17_ok (Val.put (k := 0) rfl (Val.nil tb wf 15) r8A18_ok (Val.put (k := 0) rfl (Val.nil tb wf 15) r8A19_ok (Val.put (k := 0) rfl (Val.nil tb wf 15) r8A20_ok (Val.put (k := 0) rfl (Val.nil tb wf 15) r8A21_ok (Val.nil tb wf 16))))))))))))))))))))))
def r8B0 : Nat × List W × W := (32, [.tup [.int (8), .tup [.tup [.int (0), .int (1)], .tup [.int (1), .int (2)], .tup [.int (2), .int (3)], .tup [.int (3), .int (4)], .tup [.int (4), .int (5)], .tup [.int (5), .int (6)], .tup [.int (6), .int (7)], .tup [.int (7), .int (0)]], .tup [.tup [.int (0), .int (15)], .tup [.int (2), .int (1)], .tup [.int (4), .int (3)], .tup [.int (6), .int (5)], .tup [.int (8), .int (7)], .tup [.int (10), .int (9)], .tup [.int (12), .int (11)], .tup [.int (14), .int (13)]]], .int (0), .tup [.int (0), .int (1), .int (2), .int (3), .int (4), .int (5), .int (6)], .str "numbers"], .tup [.int (0), .int (1), .int (1), .int (1), .int (1), .int (1), .int (1), .int (1)])
theorem r8B0_ok : chkE tb wf r8TA 16 8 r8B0 = true := by kernel_rfl
def r8B1 : Nat × List W × W := (32, [.tup [.int (8), .tup [.tup [.int (0), .int (1)], .tup [.int (1), .int (2)], .tup [.int (2), .int (3)], .tup [.int (3), .int (4)], .tup [.int (4), .int (5)], .tup [.int (5), .int (6)], .tup [.int (6), .int (7)], .tup [.int (7), .int (0)]], .tup [.tup [.int (0), .int (15)], .tup [.int (2), .int (1)], .tup [.int (4), .int (3)], .tup [.int (6), .int (5)], .tup [.int (8), .int (7)], .tup [.int (10), .int (9)], .tup [.int (12), .int (11)], .tup [.int (14), .int (13)]]], .int (0), .tup [.int (0), .int (1), .int (2), .int (3), .int (4), .int (5), .int (7)], .str "numbers"], .tup [.int (0), .int (1), .int (1), .int (1), .int (1), .int (1), .int (1), .int (0)])
theorem r8B1_ok : chkE tb wf r8TA 16 8 r8B1 = true := by kernel_rfl
def r8B2 : Nat × List W × W := (32, [.tup [.int (8), .tup [.tup [.int (0), .int (1)], .tup [.int (1), .int (2)], .tup [.int (2), .int (3)], .tup [.int (3), .int (4)], .tup [.int (4), .int (5)], .tup [.int (5), .int (6)], .tup [.int (6), .int (7)], .tup [.int (7), .int (0)]], .tup [.tup [.int (0), .int (15)], .tup [.int (2), .int (1)], .tup [.int (4), .int (3)], .tup [.int (6), .int (5)], .tup [.int (8), .int (7)], .tup [.int (10), .int (9)], .tup [.int (12), .int (11)], .tup [.int (14), .int (13)]]], .int (0), .tup [.int (0), .int (1), .int (2), .int (3), .int (4), .int (6), .int (7)], .str "numbers"], .tup [.int (0), .int (1), .int (1), .int (1), .int (1), .int (1), .int (0), .int (1)])
theorem r8B2_ok : chkE tb wf r8TA 16 8 r8B2 = true := by kernel_rfl
def r8B3 : Nat × List W × W := (32, [.tup [.int (8), .tup [.tup [.int (0), .int (1)], .tup [.int (1), .int (2)], .tup [.int (2), .int (3)], .tup [.int (3), .int (4)], .tup [.int (4), .int (5)], .tup [.int (5), .int (6)], .tup [.int (6), .int (7)], .tup [.int (7), .int (0)]], .tup [.tup [.int (0), .int (15)], .tup [.int (2), .int (1)], .tup [.int (4), .int (3)], .tup [.int (6), .int (5)], .tup [.int (8), .int (7)], .tup [.int (10), .int (9)], .tup [.int (12), .int (11)], .tup [.int (14), .int (13)]]], .int (0), .tup [.int (0), .int (1), .int (2), .int (3), .int (5), .int (6), .int (7)], .str "numbers"], .tup [.int (0), .int (1), .int (1), .int (1), .int (1), .int (0), .int (1), .int (1)])
theorem r8B3_ok : chkE tb wf r8TA 16 8 r8B3 = true := by kernel_rfl
def r8B4 : Nat × List W × W := (32, [.tup [.int (8), .tup [.tup [.int (0), .int (1)], .tup [.int (1), .int (2)], .tup [.int (2), .int (3)], .tup [.int (3), .int (4)], .tup [.int (4), .int (5)], .tup [.int (5), .int (6)], .tup [.int (6), .int (7)], .tup [.int (7), .int (0)]], .tup [.tup [.int (0), .int (15)], .tup [.int (2), .int (1)], .tup [.int (4), .int (3)], .tup [.int (6), .int (5)], .tup [.int (8), .int (7)], .tup [.int (10), .int (9)], .tup [.int (12), .int (11)], .tup [.int (14), .int (13)]]], .int (0), .tup [.int (0), .int (1), .int (2), .int (4), .int (5), .int (6), .int (7)], .str "numbers"], .tup [.int (0), .int (1), .int (1), .int (1), .int (0), .int (1), .int (1), .int (1)])
theorem r8B4_ok : chkE tb wf r8TA 16 8 r8B4 = true := by kernel_rfl
def r8B5 : Nat × List W × W := (32, [.tup [.int (8), .tup [.tup [.int (0), .int (1)], .tup [.int (1), .int (2)], .tup [.int (2), .int (3)], .tup [.int (3), .int (4)], .tup [.int (4), .int (5)], .tup [.int (5), .int (6)], .tup [.int (6), .int (7)], .tup [.int (7), .int (0)]], .tup [.tup [.int (0), .int (15)], .tup [.int (2), .int (1)], .tup [.int (4), .int (3)], .tup [.int (6), .int (5)], .tup [.int (8), .int (7)], .tup [.int (10), .int (9)], .tup [.int (12), .int (11)], .tup [.int (14), .int (13)]]], .int (0), .tup [.int (0), .int (1), .int (3), .int (4), .int (5), .int (6), .int (7)], .str "numbers"], .tup [.int (0), .int (1), .int (1), .int (0), .int (1), .int (1), .int (1), .int (1)])
theorem r8B5_ok : chkE tb wf r8TA 16 8 r8B5 = true := by kernel_rfl
def r8B6 : Nat × List W × W := (32, [.tup [.int (8), .tup [.tup [.int (0), .int (1)], .tup [.int (1), .int (2)], .tup [.int (2), .int (3)], .tup [.int (3), .int (4)], .tup [.int (4), .int (5)], .tup [.int (5), .int (6)], .tup [.int (6), .int (7)], .tup [.int (7), .int (0)]], .tup [.tup [.int (0), .int (15)], .tup [.int (2), .int (1)], .tup [.int (4), .int (3)], .tup [.int (6), .int (5)], .tup [.int (8), .int (7)], .tup [.int (10), .int (9)], .tup [.int (12), .int (11)], .tup [.int (14), .int (13)]]], .int (0), .tup [.int (0), .int (2), .int (3), .int (4), .int (5), .int (6), .int (7)], .str "numbers"], .tup [.int (0), .int (1), .int (0), .int (1), .int (1), .int (1), .int (1), .int (1)])
theorem r8B6_ok : chkE tb wf r8TA 16 8 r8B6 = true := by kernel_rfl
def r8B7 : Nat × List W × W := (32, [.tup [.int (8), .tup [.tup [.int (0), .int (1)], .tup [.int (1), .int (2)], .tup [.int (2), .int (3)], .tup [.int (3), .int (4)], .tup [.int (4), .int (5)], .tup [.int (5), .int (6)], .tup [.int (6), .int (7)], .tup [.int (7), .int (0)]], .tup [.tup [.int (0), .int (15)], .tup [.int (2), .int (1)], .tup [.int (4), .int (3)], .tup [.int (6), .int (5)], .tup [.int (8), .int (7)], .tup [.int (10), .int (9)], .tup [.int (12), .int (11)], .tup [.int (14), .int (13)]]], .int (0), .tup [.int (1), .int (2), .int (3), .int (4), .int (5), .int (6), .int (7)], .str "numbers"], .tup [.int (0), .int (0), .int (1), .int (1), .int (1), .int (1), .int (1), .int (1)])
theorem r8B7_ok : chkE tb wf r8TA 16 8 r8B7 = true := by kernel_rfl
def r8B8 : Nat × List W × W := (38, [.tup [.int (8), .tup [.tup [.int (0), .int (1)], .tup [.int (1), .int (2)], .tup [.int (2), .int (3)], .tup [.int (3), .int (4)], .tup [.int (4), .int (5)], .tup [.int (5), .int (6)], .tup [.int (6), .int (7)], .tup [.int (7), .int (0)]], .tup [.tup [.int (0), .int (15)], .tup [.int (2), .int (1)], .tup [.int (4), .int (3)], .tup [.int (6), .int (5)], .tup [.int (8), .int (7)], .tup [.int (10), .int (9)], .tup [.int (12), .int (11)], .tup [.int (14), .int (13)]]], .int (0)], .tup [.int (0), .int (1), .int (1), .int (1), .int (0), .int (1), .int (1), .int (1)])
theorem r8B8_ok : chkE tb wf r8TA 16 8 r8B8 = true := by kernel_rfl
def r8B9 : Nat × List W × W := (36, [.tup [.int (8), .tup [.tup [.int (0), .int (1)], .tup [.int (1), .int (2)], .tup [.int (2), .int (3)], .tup [.int (3), .int (4)], .tup [.int (4), .int (5)], .tup [.int (5), .int (6)], .tup [.int (6), .int (7)], .tup [.int (7), .int (0)]], .tup [.tup [.int (0), .int (15)], .tup [.int (2), .int (1)], .tup [.int (4), .int (3)], .tup [.int (6), .int (5)], .tup [.int (8), .int (7)], .tup [.int (10), .int (9)], .tup [.int (12), .int (11)], .tup [.int (14), .int (13)]]]], .tup [.int (7), .int (1)])
theorem r8B9_ok : chkE tb wf r8TA 16 8 r8B9 = true := by kernel_rfl
def r8B10 : Nat × List W × W := (33, [.tup [.int (8), .tup [.tup [.int (0), .int (1)], .tup [.int (1), .int (2)], .tup [.int (2), .int (3)], .tup [.int (3), .int (4)], .tup [.int (4), .int (5)], .tup [.int (5), .int (6)], .tup [.int (6), .int (7)], .tup [.int (7), .int (0)]], .tup [.tup [.int (0), .int (15)], .tup [.int (2), .int (1)], .tup [.int (4), .int (3)], .tup [.int (6), .int (5)], .tup [.int (8), .int (7)], .tup [.int (10), .int (9)], .tup [.int (12), .int (11)], .tup [.int (14), .int (13)]]], .int (0), .tup [.int (0), .int (1), .int (1), .int (1), .int (1), .int (1), .int (1), .int (1)]], .int (1))
theorem r8B10_ok : chkE tb wf r8TA 16 8 r8B10 = true := by kernel_rfl
def r8B11 : Nat × List W × W := (33, [.tup [.int (8), .tup [.tup [.int (0), .int (1)], .tup [.int (1), .int (2)], .tup [.int (2), .int (3)], .tup [.int (3), .int (4)], .tup [.int (4), .int (5)], .tup [.int (5), .int (6)], .tup [.int (6), .int (7)], .tup [.int (7), .int (0)]], .tup [.tup [.int (0), .int (15)], .tup [.int (2), .int (1)], .tup [.int (4), .int (3)], .tup [.int (6), .int (5)], .tup [.int (8), .int (7)], .tup [.int (10), .int (9)], .tup [.int (12), .int (11)], .tup [.int (14), .int (13)]]], .int (0), .tup [.int (0), .int (0), .int (1), .int (1), .int (1), .int (1), .int (1), .int (1)]], .int (0))
theorem r8B11_ok : chkE tb wf r8TA 16 8 r8B11 = true := by kernel_rfl
def r8B12 : Nat × List W × W := (5, [.tup [.int (8), .tup [.tup [.int (0), .int (1)], .tup [.int (1), .int (2)], .tup [.int (2), .int (3)], .tup [.int (3), .int (4)], .tup [.int (4), .int (5)], .tup [.int (5), .int (6)], .tup [.int (6), .int (7)], .tup [.int (7), .int (0)]], .tup [.tup [.int (0), .int (15)], .tup [.int (2), .int (1)], .tup [.int (4), .int (3)], .tup [.int (6), .int (5)], .tup [.int (8), .int (7)], .tup [.int (10), .int (9)], .tup [.int (12), .int (11)], .tup [.int (14), .int (13)]]], .int (0), .tup [.int (0), .int (2), .int (1), .int (1), .int (1), .int (1), .int (1), .int (2)]], .tup [.int (0), .int (1), .int (1), .int (1), .int (1), .int (1), .int (1), .int (1)])
theorem r8B12_ok : chkE tb wf r8TA 16 8 r8B12 = true := by kernel_rfl
def r8B13 : Nat × List W × W := (4, [.tup [.int (8), .tup [.tup [.int (0), .int (1)], .tup [.int (1), .int (2)], .tup [.int (2), .int (3)], .tup [.int (3), .int (4)], .tup [.int (4), .int (5)], .tup [.int (5), .int (6)], .tup [.int (6), .int (7)], .tup [.int (7), .int (0)]], .tup [.tup [.int (0), .int (15)], .tup [.int (2), .int (1)], .tup [.int (4), .int (3)], .tup [.int (6), .int (5)], .tup [.int (8), .int (7)], .tup [.int (10), .int (9)], .tup [.int (12), .int (11)], .tup [.int (14), .int (13)]]], .int (0), .tup [.int (0), .int (4), .int (4), .int (4), .int (4), .int (4), .int (4), .int (4)]], .tup [.int (0), .int (1), .int (1), .int (1), .int (0), .int (1), .int (1), .int (1)])
theorem r8B13_ok : chkE tb wf r8TA 16 8 r8B13 = true := by kernel_rfl
def r8B14 : Nat × List W × W := (4, [.tup [.int (8), .tup [.tup [.int (0), .int (1)], .tup [.int (1), .int (2)], .tup [.int (2), .int (3)], .tup [.int (3), .int (4)], .tup [.int (4), .int (5)], .tup [.int (5), .int (6)], .tup [.int (6), .int (7)], .tup [.int (7), .int (0)]], .tup [.tup [.int (0), .int (15)], .tup [.int (2), .int (1)], .tup [.int (4), .int (3)], .tup [.int (6), .int (5)], .tup [.int (8), .int (7)], .tup [.int (10), .int (9)], .tup [.int (12), .int (11)], .tup [.int (14), .int (13)]]], .int (0), .tup [.int (0), .int (3), .int (3), .int (3), .int (4), .int (3), .int (3), .int (3)]], .tup [.int (0), .int (1), .int (1), .int (1), .int (0), .int (1), .int (1), .int (1)])
theorem r8B14_ok : chkE tb wf r8TA 16 8 r8B14 = true := by kernel_rfl
def r8B15 : Nat × List W × W := (4, [.tup [.int (8), .tup [.tup [.int (0), .int (1)], .tup [.int (1), .int (2)], .tup [.int (2), .int (3)], .tup [.int (3), .int (4)], .tup [.int (4), .int (5)], .tup [.int (5), .int (6)], .tup [.int (6), .int (7)], .tup [.int (7), .int (0)]], .tup [.tup [.int (0), .int (15)], .tup [.int (2), .int (1)], .tup [.int (4), .int (3)], .tup [.int (6), .int (5)], .tup [.int (8), .int (7)], .tup [.int (10), .int (9)], .tup [.int (12), .int (11)], .tup [.int (14), .int (13)]]], .int (0), .tup [.int (0), .int (2), .int (1), .int (1), .int (1), .int (1), .int (1), .int (2)]], .tup [.int (0), .int (1), .int (1), .int (1), .int (1), .int (1), .int (1), .int (1)])
theorem r8B15_ok : chkE tb wf r8TA 16 8 r8B15 = true := by kernel_rfl
def r8B16 : Nat × List W × W := (37, [.tup [.int (8), .tup [.tup [.int (0), .int (1)], .tup [.int (1), .int (2)], .tup [.int (2), .int (3)], .tup [.int (3), .int (4)], .tup [.int (4), .int (5)], .tup [.int (5), .int (6)], .tup [.int (6), .int (7)], .tup [.int (7), .int (0)]], .tup [.tup [.int (0), .int (15)], .tup [.int (2), .int (1)], .tup [.int (4), .int (3)], .tup [.int (6), .int (5)], .tup [.int (8), .int (7)], .tup [.int (10), .int (9)], .tup [.int (12), .int (11)], .tup [.int (14), .int (13)]]], .int (0), .tup [.int (0), .int (0), .int (0), .int (0), .int (0), .int (0), .int (0), .int (0)]], .tup [.int (0), .int (1), .int (1), .int (1), .int (0), .int (1), .int (1), .int (1)])
theorem r8B16_ok : chkE tb wf r8TA 16 8 r8B16 = true := by kernel_rfl
def r8TB : List (Nat × List W × W) := r8B0 :: r8B1 :: r8B2 :: r8B3 :: r8B4 :: r8B5 :: r8B6 :: r8B7 :: r8B8 :: r8B9 :: r8B10 :: r8B11 :: r8B12 :: r8B13 :: r8B14 :: r8B15 :: r8B16 :: r8TA
theorem r8TB_ok : Val tb wf r8TB 25 := Val.put (k := 8) rfl r8TA_ok r8B0_ok (Val.put (k := 8) rfl r8TA_ok r8B1_ok (Val.put (k := 8) rfl r8TA_ok r8B2_ok (Val.put (k := 8) rfl r8TA_ok r8B3_ok (Val.put (k := 8) rfl r8TA_ok r8B4_ok (Val.put (k := 8) rfl r8TA_ok r8B5_ok (Val.put (k := 8) rfl r8TA_ok r8B6_ok (Val.put (k := 8) rfl r8TA_ok r8B7_ok (Val.put (k := 8) rfl r8TA_ok r8B8_ok (Val.put (k := 8) rfl r8TA_ok r8B9_ok (Val.put (k := 8) rfl r8TA_ok r8B10_ok (Val.put (k := 8) rfl r8TA_ok r8B11_ok (Val.put (k := 8) rfl r8TA_ok r8B12_ok (Val.put (k := 8) rfl r8TA_ok r8B13_ok (Val.put (k := 8) rfl r8TA_ok r8B14_ok (Val.put (k := 8) rfl r8TA_ok r8B15_ok (Val.put (k := 8) rfl r8TA_ok r8B16_ok (r8TA_ok.add 9)))))))))))))))))
theorem r8O : isT1 (runF (callO tb wf r8TB 25 4) wf f__law_ring_right [.int 8] Hw.nil) = true := by kernel_rfl
theorem r8 : isT1 (rr 8) = true := by
  obtain ⟨g, e⟩ := isT1_ok r8O
  rw [show rr 8 = _ from (leF (callO_le r8TB_ok 4) wf f__law_ring_right [.int 8] Hw.nil).ok e]
  rfl
theorem m1 : isT1 (mr 1) = true := by kernel_rfl
theorem m2 : isT1 (mr 2) = true := by kernel_rfl
theorem m3 : isT1 (mr 3) = true := by kernel_rfl
theorem m4 : isT1 (mr 4) = true := by kernel_rfl
theorem m5 : isT1 (mr 5) = true := by kernel_rfl
theorem m6 : isT1 (mr 6) = true := by kernel_rfl
theorem m7 : isT1 (mr 7) = true := by kernel_rfl
theorem m8 : isT1 (mr 8) = true := by kernel_rfl
def m9A0 : Nat × List W × W := (1, [.tup [.int (2), .tup [.tup [.int (0), .int (1)], .tup [.int (0), .int (1)], .tup [.int (0), .int (1)], .tup [.int (0), .int (1)], .tup [.int (0), .int (1)], .tup [.int (0), .int (1)], .tup [.int (0), .int (1)], .tup [.int (0), .int (1)], .tup [.int (0), .int (1)]], .tup [.tup [.int (0), .int (2), .int (4), .int (6), .int (8), .int (10), .int (12), .int (14), .int (16)], .tup [.int (1), .int (3), .int (5), .int (7), .int (9), .int (11), .int (13), .int (15), .int (17)]]]], .tup [.int (9), .int (9)])
theorem m9A0_ok : chkE tb wf [] 15 0 m9A0 = true := by kernel_rfl
def m9A1 : Nat × List W × W := (22, [.tup [.int (2), .tup [.tup [.int (0), .int (1)], .tup [.int (0), .int (1)], .tup [.int (0), .int (1)], .tup [.int (0), .int (1)], .tup [.int (0), .int (1)], .tup [.int (0), .int (1)], .tup [.int (0), .int (1)], .tup [.int (0), .int (1)], .tup [.int (0), .int (1)]], .tup [.tup [.int (0), .int (2), .int (4), .int (6), .int (8), .int (10), .int (12), .int (14), .int (16)], .tup [.int (1), .int (3), .int (5), .int (7), .int (9), .int (11), .int (13), .int (15), .int (17)]]], .tup [.int (0)]], .bl true)
theorem m9A1_ok : chkE tb wf [] 15 0 m9A1 = true := by kernel_rfl
def m9A2 : Nat × List W × W := (22, [.tup [.int (2), .tup [.tup [.int (0), .int (1)], .tup [.int (0), .int (1)], .tup [.int (0), .int (1)], .tup [.int (0), .int (1)], .tup [.int (0), .int (1)], .tup [.int (0), .int (1)], .tup [.int (0), .int (1)], .tup [.int (0), .int (1)], .tup [.int (0), .int (1)]], .tup [.tup [.int (0), .int (2), .int (4), .int (6), .int (8), .int (10), .int (12), .int (14), .int (16)], .tup [.int (1), .int (3), .int (5), .int (7), .int (9), .int (11), .int (13), .int (15), .int (17)]]], .tup [.int (1)]], .bl true)
theorem m9A2_ok : chkE tb wf [] 15 0 m9A2 = true := by kernel_rfl
def m9A3 : Nat × List W × W := (22, [.tup [.int (2), .tup [.tup [.int (0), .int (1)], .tup [.int (0), .int (1)], .tup [.int (0), .int (1)], .tup [.int (0), .int (1)], .tup [.int (0), .int (1)], .tup [.int (0), .int (1)], .tup [.int (0), .int (1)], .tup [.int (0), .int (1)], .tup [.int (0), .int (1)]], .tup [.tup [.int (0), .int (2), .int (4), .int (6), .int (8), .int (10), .int (12), .int (14), .int (16)], .tup [.int (1), .int (3), .int (5), .int (7), .int (9), .int (11), .int (13), .int (15), .int (17)]]], .tup [.int (2)]], .bl true)
theorem m9A3_ok : chkE tb wf [] 15 0 m9A3 = true := by kernel_rfl
def m9A4 : Nat × List W × W := (22, [.tup [.int (2), .tup [.tup [.int (0), .int (1)], .tup [.int (0), .int (1)], .tup [.int (0), .int (1)], .tup [.int (0), .int (1)], .tup [.int (0), .int (1)], .tup [.int (0), .int (1)], .tup [.int (0), .int (1)], .tup [.int (0), .int (1)], .tup [.int (0), .int (1)]], .tup [.tup [.int (0), .int (2), .int (4), .int (6), .int (8), .int (10), .int (12), .int (14), .int (16)], .tup [.int (1), .int (3), .int (5), .int (7), .int (9), .int (11), .int (13), .int (15), .int (17)]]], .tup [.int (3)]], .bl true)
theorem m9A4_ok : chkE tb wf [] 15 0 m9A4 = true := by kernel_rfl
def m9A5 : Nat × List W × W := (22, [.tup [.int (2), .tup [.tup [.int (0), .int (1)], .tup [.int (0), .int (1)], .tup [.int (0), .int (1)], .tup [.int (0), .int (1)], .tup [.int (0), .int (1)], .tup [.int (0), .int (1)], .tup [.int (0), .int (1)], .tup [.int (0), .int (1)], .tup [.int (0), .int (1)]], .tup [.tup [.int (0), .int (2), .int (4), .int (6), .int (8), .int (10), .int (12), .int (14), .int (16)], .tup [.int (1), .int (3), .int (5), .int (7), .int (9), .int (11), .int (13), .int (15), .int (17)]]], .tup [.int (4)]], .bl true)
theorem m9A5_ok : chkE tb wf [] 15 0 m9A5 = true := by kernel_rfl
def m9A6 : Nat × List W × W := (22, [.tup [.int (2), .tup [.tup [.int (0), .int (1)], .tup [.int (0), .int (1)], .tup [.int (0), .int (1)], .tup [.int (0), .int (1)], .tup [.int (0), .int (1)], .tup [.int (0), .int (1)], .tup [.int (0), .int (1)], .tup [.int (0), .int (1)], .tup [.int (0), .int (1)]], .tup [.tup [.int (0), .int (2), .int (4), .int (6), .int (8), .int (10), .int (12), .int (14), .int (16)], .tup [.int (1), .int (3), .int (5), .int (7), .int (9), .int (11), .int (13), .int (15), .int (17)]]], .tup [.int (5)]], .bl true)
theorem m9A6_ok : chkE tb wf [] 15 0 m9A6 = true := by kernel_rfl
def m9A7 : Nat × List W × W := (22, [.tup [.int (2), .tup [.tup [.int (0), .int (1)], .tup [.int (0), .int (1)], .tup [.int (0), .int (1)], .tup [.int (0), .int (1)], .tup [.int (0), .int (1)], .tup [.int (0), .int (1)], .tup [.int (0), .int (1)], .tup [.int (0), .int (1)], .tup [.int (0), .int (1)]], .tup [.tup [.int (0), .int (2), .int (4), .int (6), .int (8), .int (10), .int (12), .int (14), .int (16)], .tup [.int (1), .int (3), .int (5), .int (7), .int (9), .int (11), .int (13), .int (15), .int (17)]]], .tup [.int (6)]], .bl true)
theorem m9A7_ok : chkE tb wf [] 15 0 m9A7 = true := by kernel_rfl
def m9A8 : Nat × List W × W := (22, [.tup [.int (2), .tup [.tup [.int (0), .int (1)], .tup [.int (0), .int (1)], .tup [.int (0), .int (1)], .tup [.int (0), .int (1)], .tup [.int (0), .int (1)], .tup [.int (0), .int (1)], .tup [.int (0), .int (1)], .tup [.int (0), .int (1)], .tup [.int (0), .int (1)]], .tup [.tup [.int (0), .int (2), .int (4), .int (6), .int (8), .int (10), .int (12), .int (14), .int (16)], .tup [.int (1), .int (3), .int (5), .int (7), .int (9), .int (11), .int (13), .int (15), .int (17)]]], .tup [.int (7)]], .bl true)
theorem m9A8_ok : chkE tb wf [] 15 0 m9A8 = true := by kernel_rfl
def m9A9 : Nat × List W × W := (22, [.tup [.int (2), .tup [.tup [.int (0), .int (1)], .tup [.int (0), .int (1)], .tup [.int (0), .int (1)], .tup [.int (0), .int (1)], .tup [.int (0), .int (1)], .tup [.int (0), .int (1)], .tup [.int (0), .int (1)], .tup [.int (0), .int (1)], .tup [.int (0), .int (1)]], .tup [.tup [.int (0), .int (2), .int (4), .int (6), .int (8), .int (10), .int (12), .int (14), .int (16)], .tup [.int (1), .int (3), .int (5), .int (7), .int (9), .int (11), .int (13), .int (15), .int (17)]]], .tup [.int (8)]], .bl true)
theorem m9A9_ok : chkE tb wf [] 15 0 m9A9 = true := by kernel_rfl
def m9A10 : Nat × List W × W := (3, [.tup [.int (2), .tup [.tup [.int (0), .int (1)], .tup [.int (0), .int (1)], .tup [.int (0), .int (1)], .tup [.int (0), .int (1)], .tup [.int (0), .int (1)], .tup [.int (0), .int (1)], .tup [.int (0), .int (1)], .tup [.int (0), .int (1)], .tup [.int (0), .int (1)]], .tup [.tup [.int (0), .int (2), .int (4), .int (6), .int (8), .int (10), .int (12), .int (14), .int (16)], .tup [.int (1), .int (3), .int (5), .int (7), .int (9), .int (11), .int (13), .int (15), .int (17)]]], .int (0), .tup [.int (0), .int (18)]], .tup [.tup [.int (0), .int (0)], .tup [.int (0), .int (2)]])
theorem m9A10_ok : chkE tb wf [] 15 0 m9A10 = true := by kernel_rfl
def m9A11 : Nat × List W × W := (3, [.tup [.int (2), .tup [.tup [.int (0), .int (1)], .tup [.int (0), .int (1)], .tup [.int (0), .int (1)], .tup [.int (0), .int (1)], .tup [.int (0), .int (1)], .tup [.int (0), .int (1)], .tup [.int (0), .int (1)], .tup [.int (0), .int (1)], .tup [.int (0), .int (1)]], .tup [.tup [.int (0), .int (2), .int (4), .int (6), .int (8), .int (10), .int (12), .int (14), .int (16)], .tup [.int (1), .int (3), .int (5), .int (7), .int (9), .int (11), .int (13), .int (15), .int (17)]]], .int (0), .tup [.int (0), .int (64)]], .tup [.tup [.int (0), .int (1)], .tup [.int (0), .int (7)]])
theorem m9A11_ok : chkE tb wf [] 15 0 m9A11 = true := by kernel_rfl
def m9A12 : Nat × List W × W := (3, [.tup [.int (2), .tup [.tup [.int (0), .int (1)], .tup [.int (0), .int (1)], .tup [.int (0), .int (1)], .tup [.int (0), .int (1)], .tup [.int (0), .int (1)], .tup [.int (0), .int (1)], .tup [.int (0), .int (1)], .tup [.int (0), .int (1)], .tup [.int (0), .int (1)]], .tup [.tup [.int (0), .int (2), .int (4), .int (6), .int (8), .int (10), .int (12), .int (14), .int (16)], .tup [.int (1), .int (3), .int (5), .int (7), .int (9), .int (11), .int (13), .int (15), .int (17)]]], .int (0), .tup [.int (0), .int (9)]], .tup [.tup [.int (0), .int (0)], .tup [.int (0), .int (1)]])
theorem m9A12_ok : chkE tb wf [] 15 0 m9A12 = true := by kernel_rfl
def m9A13 : Nat × List W × W := (3, [.tup [.int (2), .tup [.tup [.int (0), .int (1)], .tup [.int (0), .int (1)], .tup [.int (0), .int (1)], .tup [.int (0), .int (1)], .tup [.int (0), .int (1)], .tup [.int (0), .int (1)], .tup [.int (0), .int (1)], .tup [.int (0), .int (1)], .tup [.int (0), .int (1)]], .tup [.tup [.int (0), .int (2), .int (4), .int (6), .int (8), .int (10), .int (12), .int (14), .int (16)], .tup [.int (1), .int (3), .int (5), .int (7), .int (9), .int (11), .int (13), .int (15), .int (17)]]], .int (0), .tup [.int (0), .int (13)]], .tup [.tup [.int (0), .int (4)], .tup [.int (0), .int (1)]])
theorem m9A13_ok : chkE tb wf [] 15 0 m9A13 = true := by kernel_rfl
def m9A14 : Nat × List W × W := (35, [.tup [.int (2), .tup [.tup [.int (0), .int (1)], .tup [.int (0), .int (1)], .tup [.int (0), .int (1)], .tup [.int (0), .int (1)], .tup [.int (0), .int (1)], .tup [.int (0), .int (1)], .tup [.int (0), .int (1)], .tup [.int (0), .int (1)], .tup [.int (0), .int (1)]], .tup [.tup [.int (0), .int (2), .int (4), .int (6), .int (8), .int (10), .int (12), .int (14), .int (16)], .tup [.int (1), .int (3), .int (5), .int (7), .int (9), .int (11), .int (13), .int (15), .int (17)]]], .tup [.int (0)]], .tup [.int (1), .int (2), .int (3), .int (4), .int (5), .int (6), .int (7), .int (8)])
theorem m9A14_ok : chkE tb wf [] 15 0 m9A14 = true := by kernel_rfl
def m9A15 : Nat × List W × W := (35, [.tup [.int (2), .tup [.tup [.int (0), .int (1)], .tup [.int (0), .int (1)], .tup [.int (0), .int (1)], .tup [.int (0), .int (1)], .tup [.int (0), .int (1)], .tup [.int (0), .int (1)], .tup [.int (0), .int (1)], .tup [.int (0), .int (1)], .tup [.int (0), .int (1)]], .tup [.tup [.int (0), .int (2), .int (4), .int (6), .int (8), .int (10), .int (12), .int (14), .int (16)], .tup [.int (1), .int (3), .int (5), .int (7), .int (9), .int (11), .int (13), .int (15), .int (17)]]], .tup [.int (1)]], .tup [.int (2), .int (3), .int (4), .int (5), .int (6), .int (7), .int (8)])
theorem m9A15_ok : chkE tb wf [] 15 0 m9A15 = true := by kernel_rfl
def m9A16 : Nat × List W × W := (35, [.tup [.int (2), .tup [.tup [.int (0), .int (1)], .tup [.int (0), .int (1)], .tup [.int (0), .int (1)], .tup [.int (0), .int (1)], .tup [.int (0), .int (1)], .tup [.int (0), .int (1)], .tup [.int (0), .int (1)], .tup [.int (0), .int (1)], .tup [.int (0), .int (1)]], .tup [.tup [.int (0), .int (2), .int (4), .int (6), .int (8), .int (10), .int (12), .int (14), .int (16)], .tup [.int (1), .int (3), .int (5), .int (7), .int (9), .int (11), .int (13), .int (15), .int (17)]]], .tup [.int (2)]], .tup [.int (3), .int (4), .int (5), .int (6), .int (7), .int (8)])
theorem m9A16_ok : chkE tb wf [] 15 0 m9A16 = true := by kernel_rfl
def m9A17 : Nat × List W × W := (35, [.tup [.int (2), .tup [.tup [.int (0), .int (1)], .tup [.int (0), .int (1)], .tup [.int (0), .int (1)], .tup [.int (0), .int (1)], .tup [.int (0), .int (1)], .tup [.int (0), .int (1)], .tup [.int (0), .int (1)], .tup [.int (0), .int (1)], .tup [.int (0), .int (1)]], .tup [.tup [.int (0), .int (2), .int (4), .int (6), .int (8), .int (10), .int (12), .int (14), .int (16)], .tup [.int (1), .int (3), .int (5), .int (7), .int (9), .int (11), .int (13), .int (15), .int (17)]]], .tup [.int (3)]], .tup [.int (4), .int (5), .int (6), .int (7), .int (8)])
theorem m9A17_ok : chkE tb wf [] 15 0 m9A17 = true := by kernel_rfl
def m9A18 : Nat × List W × W := (35, [.tup [.int (2), .tup [.tup [.int (0), .int (1)], .tup [.int (0), .int (1)], .tup [.int (0), .int (1)], .tup [.int (0), .int (1)], .tup [.int (0), .int (1)], .tup [.int (0), .int (1)], .tup [.int (0), .int (1)], .tup [.int (0), .int (1)], .tup [.int (0), .int (1)]], .tup [.tup [.int (0), .int (2), .int (4), .int (6), .int (8), .int (10), .int (12), .int (14), .int (16)], .tup [.int (1), .int (3), .int (5), .int (7), .int (9), .int (11), .int (13), .int (15), .int (17)]]], .tup [.int (4)]], .tup [.int (5), .int (6), .int (7), .int (8)])
theorem m9A18_ok : chkE tb wf [] 15 0 m9A18 = true := by kernel_rfl
def m9A19 : Nat × List W × W := (35, [.tup [.int (2), .tup [.tup [.int (0), .int (1)], .tup [.int (0), .int (1)], .tup [.int (0), .int (1)], .tup [.int (0), .int (1)], .tup [.int (0), .int (1)], .tup [.int (0), .int (1)], .tup [.int (0), .int (1)], .tup [.int (0), .int (1)], .tup [.int (0), .int (1)]], .tup [.tup [.int (0), .int (2), .int (4), .int (6), .int (8), .int (10), .int (12), .int (14), .int (16)], .tup [.int (1), .int (3), .int (5), .int (7), .int (9), .int (11), .int (13), .int (15), .int (17)]]], .tup [.int (5)]], .tup [.int (6), .int (7), .int (8)])
theorem m9A19_ok : chkE tb wf [] 15 0 m9A19 = true := by kernel_rfl
def m9A20 : Nat × List W × W := (35, [.tup [.int (2), .tup [.tup [.int (0), .int (1)], .tup [.int (0), .int (1)], .tup [.int (0), .int (1)], .tup [.int (0), .int (1)], .tup [.int (0), .int (1)], .tup [.int (0), .int (1)], .tup [.int (0), .int (1)], .tup [.int (0), .int (1)], .tup [.int (0), .int (1)]], .tup [.tup [.int (0), .int (2), .int (4), .int (6), .int (8), .int (10), .int (12), .int (14), .int (16)], .tup [.int (1), .int (3), .int (5), .int (7), .int (9), .int (11), .int (13), .int (15), .int (17)]]], .tup [.int (6)]], .tup [.int (7), .int (8)])
theorem m9A20_ok : chkE tb wf [] 15 0 m9A20 = true := by kernel_rfl
def m9A21 : Nat × List W × W := (35, [.tup [.int (2), .tup [.tup [.int (0), .int (1)], .tup [.int (0), .int (1)], .tup [.int (0), .int (1)], .tup [.int (0), .int (1)], .tup [.int (0), .int (1)], .tup [.int (0), .int (1)], .tup [.int (0), .int (1)], .tup [.int (0), .int (1)], .tup [.int (0), .int (1)]], .tup [.tup [.int (0), .int (2), .int (4), .int (6), .int (8), .int (10), .int (12), .int (14), .int (16)], .tup [.int (1), .int (3), .int (5), .int (7), .int (9), .int (11), .int (13), .int (15), .int (17)]]], .tup [.int (7)]], .tup [.int (8)])
theorem m9A21_ok : chkE tb wf [] 15 0 m9A21 = true := by kernel_rfl
def m9A22 : Nat × List W × W := (35, [.tup [.int (2), .tup [.tup [.int (0), .int (1)], .tup [.int (0), .int (1)], .tup [.int (0), .int (1)], .tup [.int (0), .int (1)], .tup [.int (0), .int (1)], .tup [.int (0), .int (1)], .tup [.int (0), .int (1)], .tup [.int (0), .int (1)], .tup [.int (0), .int (1)]], .tup [.tup [.int (0), .int (2), .int (4), .int (6), .int (8), .int (10), .int (12), .int (14), .int (16)], .tup [.int (1), .int (3), .int (5), .int (7), .int (9), .int (11), .int (13), .int (15), .int (17)]]], .tup [.int (8)]], .tup [])
theorem m9A22_ok : chkE tb wf [] 15 0 m9A22 = true := by kernel_rfl
def m9A23 : Nat × List W × W := (11, [.tup [.int (2), .tup [.tup [.int (0), .int (1)], .tup [.int (0), .int (1)], .tup [.int (0), .int (1)], .tup [.int (0), .int (1)], .tup [.int (0), .int (1)], .tup [.int (0), .int (1)], .tup [.int (0), .int (1)], .tup [.int (0), .int (1)], .tup [.int (0), .int (1)]], .tup [.tup [.int (0), .int (2), .int (4), .int (6), .int (8), .int (10), .int (12), .int (14), .int (16)], .tup [.int (1), .int (3), .int (5), .int (7), .int (9), .int (11), .int (13), .int (15), .int (17)]]], .int (0), .tup [.int (0), .int (0)]], .bl true)
theorem m9A23_ok : chkE tb wf [] 15 0 m9A23 = true := by kernel_rfl
def m9A24 : Nat × List W × W := (11, [.tup [.int (2), .tup [.tup [.int (0), .int (1)], .tup [.int (0), .int (1)], .tup [.int (0), .int (1)], .tup [.int (0), .int (1)], .tup [.int (0), .int (1)], .tup [.int (0), .int (1)], .tup [.int (0), .int (1)], .tup [.int (0), .int (1)], .tup [.int (0), .int (1)]], .tup [.tup [.int (0), .int (2), .int (4), .int (6), .int (8), .int (10), .int (12), .int (14), .int (16)], .tup [.int (1), .int (3), .int (5), .int (7), .int (9), .int (11), .int (13), .int (15), .int (17)]]], .int (0), .tup [.int (0), .int (1)]], .bl true)
theorem m9A24_ok : chkE tb wf [] 15 0 m9A24 = true := by kernel_rfl
def m9A25 : Nat × List W × W := (11, [.tup [.int (2), .tup [.tup [.int (0), .int (1)], .tup [.int (0), .int (1)], .tup [.int (0), .int (1)], .tup [.int (0), .int (1)], .tup [.int (0), .int (1)], .tup [.int (0), .int (1)], .tup [.int (0), .int (1)], .tup [.int (0), .int (1)], .tup [.int (0), .int (1)]], .tup [.tup [.int (0), .int (2), .int (4), .int (6), .int (8), .int (10), .int (12), .int (14), .int (16)], .tup [.int (1), .int (3), .int (5), .int (7), .int (9), .int (11), .int (13), .int (15), .int (17)]]], .int (0), .tup [.int (0), .int (2)]], .bl true)
theorem m9A25_ok : chkE tb wf [] 15 0 m9A25 = true := by kernel_rfl
def m9A26 : Nat × List W × W := (11, [.tup [.int (2), .tup [.tup [.int (0), .int (1)], .tup [.int (0), .int (1)], .tup [.int (0), .int (1)], .tup [.int (0), .int (1)], .tup [.int (0), .int (1)], .tup [.int (0), .int (1)], .tup [.int (0), .int (1)], .tup [.int (0), .int (1)], .tup [.int (0), .int (1)]], .tup [.tup [.int (0), .int (2), .int (4), .int (6), .int (8), .int (10), .int (12), .int (14), .int (16)], .tup [.int (1), .int (3), .int (5), .int (7), .int (9), .int (11), .int (13), .int (15), .int (17)]]], .int (0), .tup [.int (0), .int (3)]], .bl true)
theorem m9A26_ok : chkE tb wf [] 15 0 m9A26 = true := by kernel_rfl
def m9A27 : Nat × List W × W := (11, [.tup [.int (2), .tup [.tup [.int (0), .int (1)], .tup [.int (0), .int (1)], .tup [.int (0), .int (1)], .tup [.int (0), .int (1)], .tup [.int (0), .int (1)], .tup [.int (0), .int (1)], .tup [.int (0), .int (1)], .tup [.int (0), .int (1)], .tup [.int (0), .int (1)]], .tup [.tup [.int (0), .int (2), .int (4), .int (6), .int (8), .int (10), .int (12), .int (14), .int (16)], .tup [.int (1), .int (3), .int (5), .int (7), .int (9), .int (11), .int (13), .int (15), .int (17)]]], .int (0), .tup [.int (0), .int (4)]], .bl true)
theorem m9A27_ok : chkE tb wf [] 15 0 m9A27 = true := by kernel_rfl
def m9A28 : Nat × List W × W := (11, [.tup [.int (2), .tup [.tup [.int (0), .int (1)], .tup [.int (0), .int (1)], .tup [.int (0), .int (1)], .tup [.int (0), .int (1)], .tup [.int (0), .int (1)], .tup [.int (0), .int (1)], .tup [.int (0), .int (1)], .tup [.int (0), .int (1)], .tup [.int (0), .int (1)]], .tup [.tup [.int (0), .int (2), .int (4), .int (6), .int (8), .int (10), .int (12), .int (14), .int (16)], .tup [.int (1), .int (3), .int (5), .int (7), .int (9), .int (11), .int (13), .int (15), .int (17)]]], .int (0), .tup [.int (0), .int (5)]], .bl true)
theorem m9A28_ok : chkE tb wf [] 15 0 m9A28 = true := by kernel_rfl
def m9A29 : Nat × List W × W := (11, [.tup [.int (2), .tup [.tup [.int (0), .int (1)], .tup [.int (0), .int (1)], .tup [.int (0), .int (1)], .tup [.int (0), .int (1)], .tup [.int (0), .int (1)], .tup [.int (0), .int (1)], .tup [.int (0), .int (1)], .tup [.int (0), .int (1)], .tup [.int (0), .int (1)]], .tup [.tup [.int (0), .int (2), .int (4), .int (6), .int (8), .int (10), .int (12), .int (14), .int (16)], .tup [.int (1), .int (3), .int (5), .int (7), .int (9), .int (11), .int (13), .int (15), .int (17)]]], .int (0), .tup [.int (0), .int (6)]], .bl true)
theorem m9A29_ok : chkE tb wf [] 15 0 m9A29 = true := by kernel_rfl
def m9A30 : Nat × List W × W := (11, [.tup [.int (2), .tup [.tup [.int (0), .int (1)], .tup [.int (0), .int (1)], .tup [.int (0), .int (1)], .tup [.int (0), .int (1)], .tup [.int (0), .int (1)], .tup [.int (0), .int (1)], .tup [.int (0), .int (1)], .tup [.int (0), .int (1)], .tup [.int (0), .int (1)]], .tup [.tup [.int (0), .int (2), .int (4), .int (6), .int (8), .int (10), .int (12), .int (14), .int (16)], .tup [.int (1), .int (3), .int (5), .int (7), .int (9), .int (11), .int (13), .int (15), .int (17)]]], .int (0), .tup [.int (0), .int (7)]], .bl true)
theorem m9A30_ok : chkE tb wf [] 15 0 m9A30 = true := by kernel_rfl
def m9A31 : Nat × List W × W := (11, [.tup [.int (2), .tup [.tup [.int (0), .int (1)], .tup [.int (0), .int (1)], .tup [.int (0), .int (1)], .tup [.int (0), .int (1)], .tup [.int (0), .int (1)], .tup [.int (0), .int (1)], .tup [.int (0), .int (1)], .tup [.int (0), .int (1)], .tup [.int (0), .int (1)]], .tup [.tup [.int (0), .int (2), .int (4), .int (6), .int (8), .int (10), .int (12), .int (14), .int (16)], .tup [.int (1), .int (3), .int (5), .int (7), .int (9), .int (11), .int (13), .int (15), .int (17)]]], .int (0), .tup [.int (0), .int (8)]], .bl true)
theorem m9A31_ok : chkE tb wf [] 15 0 m9A31 = true := by kernel_rfl
def m9TA : List (Nat × List W × W) := [m9A0, m9A1, m9A2, m9A3, m9A4, m9A5, m9A6, m9A7, m9A8, m9A9, m9A10, m9A11, m9A12, m9A13, m9A14, m9A15, m9A16, m9A17, m9A18, m9A19, m9A20, m9A21, m9A22, m9A23, m9A24, m9A25, m9A26, m9A27, m9A28, m9A29, m9A30, m9A31]
theorem m9TA_ok : Val tb wf m9TA 16 := Val.put (k := 0) rfl (Val.nil tb wf 15) m9A0_ok (Val.put (k := 0) rfl (Val.nil tb wf 15) m9A1_ok (Val.put (k := 0) rfl (Val.nil tb wf 15) m9A2_ok (Val.put (k := 0) rfl (Val.nil tb wf 15) m9A3_ok (Val.put (k := 0) rfl (Val.nil tb wf 15) m9A4_ok (Val.put (k := 0) rfl (Val.nil tb wf 15) m9A5_ok (Val.put (k := 0) rfl (Val.nil tb wf 15) m9A6_ok (Val.put (k := 0) rfl (Val.nil tb wf 15) m9A7_ok (Val.put (k := 0) rfl (Val.nil tb wf 15) m9A8_ok (Val.put (k := 0) rfl (Val.nil tb wf 15) m9A9_ok (Val.put (k := 0) rfl (Val.nil tb wf 15) m9A10_ok (Val.put (k := 0) rfl (Val.nil tb wf 15) m9A11_ok (Val.put (k := 0) rfl (Val.nil tb wf 15) m9A12_ok (Val.put (k := 0) rfl (Val.nil tb wf 15) m9A13_ok (Val.put (k := 0) rfl (Val.nil tb wf 15) m9A14_ok (Val.put (k := 0) rfl (Val.nil tb wf 15) m9A15_ok (Val.put (k := 0) rfl (Val.nil tb wf 15) m9A16_ok (Val.put (k := 0) rfl (Val.nil tb wf 15) m9A17_ok (Val.put (k := 0) rfl (Val.nil tb wf 15) m9A18_ok (Val.put (k := 0) rfl (Val.nil tb wf 15) m9A19_ok (Val.put (k := 0) rfl (Val.nil tb wf 15) m9A20_ok (Val.put (k := 0) rfl (Val.nil tb wf 15) m9A21_ok (Val.put (k := 0) rfl (Val.nil tb wf 15) m9A22_ok (Val.put (k := 0) rfl (Val.nil tb wf 15) m9A23_ok (Val.put (k := 0) rfl (Val.nil tb wf 15) m9A24_ok (Val.put (k := 0) rfl (Val.nil tb wf 15) m9A25_ok (Val.put (k := 0) rfl (Val.nil tb wf 15) m9A26_ok (Val.put (k := 0) rfl (Val.nil tb wf 15) m9A27_ok (Val.put (k := 0) rfl (Val.nil tb wf 15) m9A28_ok (Val.put (k := 0) rfl (Val.nil tb wf 15) m9A29_ok (Val.put (k := 0) rfl (Val.nil tb wf 15) m9A30_ok (Val.put (k := 0) rfl (Val.nil tb wf 15) m9A31_ok (Val.nil tb wf 16))))))))))))))))))))))))))))))))
def m9B0 : Nat × List W × W := (32, [.tup [.int (2), .tup [.tup [.int (0), .int (1)], .tup [.int (0), .int (1)], .tup [.int (0), .int (1)], .tup [.int (0), .int (1)], .tup [.int (0), .int (1)], .tup [.int (0), .int (1)], .tup [.int (0), .int (1)], .tup [.int (0), .int (1)], .tup [.int (0), .int (1)]], .tup [.tup [.int (0), .int (2), .int (4), .int (6), .int (8), .int (10), .int (12), .int (14), .int (16)], .tup [.int (1), .int (3), .int (5), .int (7), .int (9), .int (11), .int (13), .int (15), .int (17)]]], .int (0), .tup [.int (0)], .str "numbers"], .tup [.int (0), .int (8)])
theorem m9B0_ok : chkE tb wf m9TA 16 8 m9B0 = true := by kernel_rfl
def m9B1 : Nat × List W × W := (32, [.tup [.int (2), .tup [.tup [.int (0), .int (1)], .tup [.int (0), .int (1)], .tup [.int (0), .int (1)], .tup [.int (0), .int (1)], .tup [.int (0), .int (1)], .tup [.int (0), .int (1)], .tup [.int (0), .int (1)], .tup [.int (0), .int (1)], .tup [.int (0), .int (1)]], .tup [.tup [.int (0), .int (2), .int (4), .int (6), .int (8), .int (10), .int (12), .int (14), .int (16)], .tup [.int (1), .int (3), .int (5), .int (7), .int (9), .int (11), .int (13), .int (15), .int (17)]]], .int (0), .tup [.int (1)], .str "numbers"], .tup [.int (0), .int (7)])
theorem m9B1_ok : chkE tb wf m9TA 16 8 m9B1 = true := by kernel_rfl
def m9B2 : Nat × List W × W := (32, [.tup [.int (2), .tup [.tup [.int (0), .int (1)], .tup [.int (0), .int (1)], .tup [.int (0), .int (1)], .tup [.int (0), .int (1)], .tup [.int (0), .int (1)], .tup [.int (0), .int (1)], .tup [.int (0), .int (1)], .tup [.int (0), .int (1)], .tup [.int (0), .int (1)]], .tup [.tup [.int (0), .int (2), .int (4), .int (6), .int (8), .int (10), .int (12), .int (14), .int (16)], .tup [.int (1), .int (3), .int (5), .int (7), .int (9), .int (11), .int (13), .int (15), .int (17)]]], .int (0), .tup [.int (2)], .str "numbers"], .tup [.int (0), .int (6)])
theorem m9B2_ok : chkE tb wf m9TA 16 8 m9B2 = true := by kernel_rfl
def m9B3 : Nat × List W × W := (32, [.tup [.int (2), .tup [.tup [.int (0), .int (1)], .tup [.int (0), .int (1)], .tup [.int (0), .int (1)], .tup [.int (0), .int (1)], .tup [.int (0), .int (1)], .tup [.int (0), .int (1)], .tup [.int (0), .int (1)], .tup [.int (0), .int (1)], .tup [.int (0), .int (1)]], .tup [.tup [.int (0), .int (2), .int (4), .int (6), .int (8), .int (10), .int (12), .int (14), .int (16)], .tup [.int (1), .int (3), .int (5), .int (7), .int (9), .int (11), .int (13), .int (15), .int (17)]]], .int (0), .tup [.int (3)], .str "numbers"], .tup [.int (0), .int (5)])
theorem m9B3_ok : chkE tb wf m9TA 16 8 m9B3 = true := by kernel_rfl
def m9B4 : Nat × List W × W := (32, [.tup [.int (2), .tup [.tup [.int (0), .int (1)], .tup [.int (0), .int (1)], .tup [.int (0), .int (1)], .tup [.int (0), .int (1)], .tup [.int (0), .int (1)], .tup [.int (0), .int (1)], .tup [.int (0), .int (1)], .tup [.int (0), .int (1)], .tup [.int (0), .int (1)]], .tup [.tup [.int (0), .int (2), .int (4), .int (6), .int (8), .int (10), .int (12), .int (14), .int (16)], .tup [.int (1), .int (3), .int (5), .int (7), .int (9), .int (11), .int (13), .int (15), .int (17)]]], .int (0), .tup [.int (4)], .str "numbers"], .tup [.int (0), .int (4)])
theorem m9B4_ok : chkE tb wf m9TA 16 8 m9B4 = true := by kernel_rfl
def m9B5 : Nat × List W × W := (32, [.tup [.int (2), .tup [.tup [.int (0), .int (1)], .tup [.int (0), .int (1)], .tup [.int (0), .int (1)], .tup [.int (0), .int (1)], .tup [.int (0), .int (1)], .tup [.int (0), .int (1)], .tup [.int (0), .int (1)], .tup [.int (0), .int (1)], .tup [.int (0), .int (1)]], .tup [.tup [.int (0), .int (2), .int (4), .int (6), .int (8), .int (10), .int (12), .int (14), .int (16)], .tup [.int (1), .int (3), .int (5), .int (7), .int (9), .int (11), .int (13), .int (15), .int (17)]]], .int (0), .tup [.int (5)], .str "numbers"], .tup [.int (0), .int (3)])
theorem m9B5_ok : chkE tb wf m9TA 16 8 m9B5 = true := by kernel_rfl
def m9B6 : Nat × List W × W := (32, [.tup [.int (2), .tup [.tup [.int (0), .int (1)], .tup [.int (0), .int (1)], .tup [.int (0), .int (1)], .tup [.int (0), .int (1)], .tup [.int (0), .int (1)], .tup [.int (0), .int (1)], .tup [.int (0), .int (1)], .tup [.int (0), .int (1)], .tup [.int (0), .int (1)]], .tup [.tup [.int (0), .int (2), .int (4), .int (6), .int (8), .int (10), .int (12), .int (14), .int (16)], .tup [.int (1), .int (3), .int (5), .int (7), .int (9), .int (11), .int (13), .int (15), .int (17)]]], .int (0), .tup [.int (6)], .str "numbers"], .tup [.int (0), .int (2)])
theorem m9B6_ok : chkE tb wf m9TA 16 8 m9B6 = true := by kernel_rfl
def m9B7 : Nat × List W × W := (32, [.tup [.int (2), .tup [.tup [.int (0), .int (1)], .tup [.int (0), .int (1)], .tup [.int (0), .int (1)], .tup [.int (0), .int (1)], .tup [.int (0), .int (1)], .tup [.int (0), .int (1)], .tup [.int (0), .int (1)], .tup [.int (0), .int (1)], .tup [.int (0), .int (1)]], .tup [.tup [.int (0), .int (2), .int (4), .int (6), .int (8), .int (10), .int (12), .int (14), .int (16)], .tup [.int (1), .int (3), .int (5), .int (7), .int (9), .int (11), .int (13), .int (15), .int (17)]]], .int (0), .tup [.int (7)], .str "numbers"], .tup [.int (0), .int (1)])
theorem m9B7_ok : chkE tb wf m9TA 16 8 m9B7 = true := by kernel_rfl
def m9B8 : Nat × List W × W := (32, [.tup [.int (2), .tup [.tup [.int (0), .int (1)], .tup [.int (0), .int (1)], .tup [.int (0), .int (1)], .tup [.int (0), .int (1)], .tup [.int (0), .int (1)], .tup [.int (0), .int (1)], .tup [.int (0), .int (1)], .tup [.int (0), .int (1)], .tup [.int (0), .int (1)]], .tup [.tup [.int (0), .int (2), .int (4), .int (6), .int (8), .int (10), .int (12), .int (14), .int (16)], .tup [.int (1), .int (3), .int (5), .int (7), .int (9), .int (11), .int (13), .int (15), .int (17)]]], .int (0), .tup [.int (8)], .str "numbers"], .tup [.int (0), .int (0)])
theorem m9B8_ok : chkE tb wf m9TA 16 8 m9B8 = true := by kernel_rfl
def m9B9 : Nat × List W × W := (38, [.tup [.int (2), .tup [.tup [.int (0), .int (1)], .tup [.int (0), .int (1)], .tup [.int (0), .int (1)], .tup [.int (0), .int (1)], .tup [.int (0), .int (1)], .tup [.int (0), .int (1)], .tup [.int (0), .int (1)], .tup [.int (0), .int (1)], .tup [.int (0), .int (1)]], .tup [.tup [.int (0), .int (2), .int (4), .int (6), .int (8), .int (10), .int (12), .int (14), .int (16)], .tup [.int (1), .int (3), .int (5), .int (7), .int (9), .int (11), .int (13), .int (15), .int (17)]]], .int (0)], .tup [.int (0), .int (0)])
theorem m9B9_ok : chkE tb wf m9TA 16 8 m9B9 = true := by kernel_rfl
def m9B10 : Nat × List W × W := (36, [.tup [.int (2), .tup [.tup [.int (0), .int (1)], .tup [.int (0), .int (1)], .tup [.int (0), .int (1)], .tup [.int (0), .int (1)], .tup [.int (0), .int (1)], .tup [.int (0), .int (1)], .tup [.int (0), .int (1)], .tup [.int (0), .int (1)], .tup [.int (0), .int (1)]], .tup [.tup [.int (0), .int (2), .int (4), .int (6), .int (8), .int (10), .int (12), .int (14), .int (16)], .tup [.int (1), .int (3), .int (5), .int (7), .int (9), .int (11), .int (13), .int (15), .int (17)]]]], .tup [.int (1), .int (1), .int (1), .int (1), .int (1), .int (1), .int (1), .int (1), .int (1)])
theorem m9B10_ok : chkE tb wf m9TA 16 8 m9B10 = true := by kernel_rfl
def m9B11 : Nat × List W × W := (4, [.tup [.int (2), .tup [.tup [.int (0), .int (1)], .tup [.int (0), .int (1)], .tup [.int (0), .int (1)], .tup [.int (0), .int (1)], .tup [.int (0), .int (1)], .tup [.int (0), .int (1)], .tup [.int (0), .int (1)], .tup [.int (0), .int (1)], .tup [.int (0), .int (1)]], .tup [.tup [.int (0), .int (2), .int (4), .int (6), .int (8), .int (10), .int (12), .int (14), .int (16)], .tup [.int (1), .int (3), .int (5), .int (7), .int (9), .int (11), .int (13), .int (15), .int (17)]]], .int (0), .tup [.int (0), .int (18)]], .tup [.int (0), .int (0)])
theorem m9B11_ok : chkE tb wf m9TA 16 8 m9B11 = true := by kernel_rfl
def m9B12 : Nat × List W × W := (4, [.tup [.int (2), .tup [.tup [.int (0), .int (1)], .tup [.int (0), .int (1)], .tup [.int (0), .int (1)], .tup [.int (0), .int (1)], .tup [.int (0), .int (1)], .tup [.int (0), .int (1)], .tup [.int (0), .int (1)], .tup [.int (0), .int (1)], .tup [.int (0), .int (1)]], .tup [.tup [.int (0), .int (2), .int (4), .int (6), .int (8), .int (10), .int (12), .int (14), .int (16)], .tup [.int (1), .int (3), .int (5), .int (7), .int (9), .int (11), .int (13), .int (15), .int (17)]]], .int (0), .tup [.int (0), .int (64)]], .tup [.int (0), .int (1)])
theorem m9B12_ok : chkE tb wf m9TA 16 8 m9B12 = true := by kernel_rfl
def m9B13 : Nat × List W × W := (4, [.tup [.int (2), .tup [.tup [.int (0), .int (1)], .tup [.int (0), .int (1)], .tup [.int (0), .int (1)], .tup [.int (0), .int (1)], .tup [.int (0), .int (1)], .tup [.int (0), .int (1)], .tup [.int (0), .int (1)], .tup [.int (0), .int (1)], .tup [.int (0), .int (1)]], .tup [.tup [.int (0), .int (2), .int (4), .int (6), .int (8), .int (10), .int (12), .int (14), .int (16)], .tup [.int (1), .int (3), .int (5), .int (7), .int (9), .int (11), .int (13), .int (15), .int (17)]]], .int (0), .tup [.int (0), .int (9)]], .tup [.int (0), .int (0)])
theorem m9B13_ok : chkE tb wf m9TA 16 8 m9B13 = true := by kernel_rfl
def m9B14 : Nat × List W × W := (4, [.tup [.int (2), .tup [.tup [.int (0), .int (1)], .tup [.int (0), .int (1)], .tup [.int (0), .int (1)], .tup [.int (0), .int (1)], .tup [.int (0), .int (1)], .tup [.int (0), .int (1)], .tup [.int (0), .int (1)], .tup [.int (0), .int (1)], .tup [.int (0), .int (1)]], .tup [.tup [.int (0), .int (2), .int (4), .int (6), .int (8), .int (10), .int (12), .int (14), .int (16)], .tup [.int (1), .int (3), .int (5), .int (7), .int (9), .int (11), .int (13), .int (15), .int (17)]]], .int (0), .tup [.int (0), .int (13)]], .tup [.int (0), .int (4)])
theorem m9B14_ok : chkE tb wf m9TA 16 8 m9B14 = true := by kernel_rfl
def m9B15 : Nat × List W × W := (31, [.tup [.int (2), .tup [.tup [.int (0), .int (1)], .tup [.int (0), .int (1)], .tup [.int (0), .int (1)], .tup [.int (0), .int (1)], .tup [.int (0), .int (1)], .tup [.int (0), .int (1)], .tup [.int (0), .int (1)], .tup [.int (0), .int (1)], .tup [.int (0), .int (1)]], .tup [.tup [.int (0), .int (2), .int (4), .int (6), .int (8), .int (10), .int (12), .int (14), .int (16)], .tup [.int (1), .int (3), .int (5), .int (7), .int (9), .int (11), .int (13), .int (15), .int (17)]]], .int (0), .tup [.int (0), .int (0)], .str "numbers"], .tup [.int (8)])
theorem m9B15_ok : chkE tb wf m9TA 16 8 m9B15 = true := by kernel_rfl
def m9B16 : Nat × List W × W := (31, [.tup [.int (2), .tup [.tup [.int (0), .int (1)], .tup [.int (0), .int (1)], .tup [.int (0), .int (1)], .tup [.int (0), .int (1)], .tup [.int (0), .int (1)], .tup [.int (0), .int (1)], .tup [.int (0), .int (1)], .tup [.int (0), .int (1)], .tup [.int (0), .int (1)]], .tup [.tup [.int (0), .int (2), .int (4), .int (6), .int (8), .int (10), .int (12), .int (14), .int (16)], .tup [.int (1), .int (3), .int (5), .int (7), .int (9), .int (11), .int (13), .int (15), .int (17)]]], .int (0), .tup [.int (0), .int (1)], .str "numbers"], .tup [.int (7)])
theorem m9B16_ok : chkE tb wf m9TA 16 8 m9B16 = true := by kernel_rfl
def m9B17 : Nat × List W × W := (31, [.tup [.int (2), .tup [.tup [.int (0), .int (1)], .tup [.int (0), .int (1)], .tup [.int (0), .int (1)], .tup [.int (0), .int (1)], .tup [.int (0), .int (1)], .tup [.int (0), .int (1)], .tup [.int (0), .int (1)], .tup [.int (0), .int (1)], .tup [.int (0), .int (1)]], .tup [.tup [.int (0), .int (2), .int (4), .int (6), .int (8), .int (10), .int (12), .int (14), .int (16)], .tup [.int (1), .int (3), .int (5), .int (7), .int (9), .int (11), .int (13), .int (15), .int (17)]]], .int (0), .tup [.int (0), .int (2)], .str "numbers"], .tup [.int (6)])
theorem m9B17_ok : chkE tb wf m9TA 16 8 m9B17 = true := by kernel_rfl
def m9B18 : Nat × List W × W := (31, [.tup [.int (2), .tup [.tup [.int (0), .int (1)], .tup [.int (0), .int (1)], .tup [.int (0), .int (1)], .tup [.int (0), .int (1)], .tup [.int (0), .int (1)], .tup [.int (0), .int (1)], .tup [.int (0), .int (1)], .tup [.int (0), .int (1)], .tup [.int (0), .int (1)]], .tup [.tup [.int (0), .int (2), .int (4), .int (6), .int (8), .int (10), .int (12), .int (14), .int (16)], .tup [.int (1), .int (3), .int (5), .int (7), .int (9), .int (11), .int (13), .int (15), .int (17)]]], .int (0), .tup [.int (0), .int (3)], .str "numbers"], .tup [.int (5)])
theorem m9B18_ok : chkE tb wf m9TA 16 8 m9B18 = true := by kernel_rfl
def m9B19 : Nat × List W × W := (31, [.tup [.int (2), .tup [.tup [.int (0), .int (1)], .tup [.int (0), .int (1)], .tup [.int (0), .int (1)], .tup [.int (0), .int (1)], .tup [.int (0), .int (1)], .tup [.int (0), .int (1)], .tup [.int (0), .int (1)], .tup [.int (0), .int (1)], .tup [.int (0), .int (1)]], .tup [.tup [.int (0), .int (2), .int (4), .int (6), .int (8), .int (10), .int (12), .int (14), .int (16)], .tup [.int (1), .int (3), .int (5), .int (7), .int (9), .int (11), .int (13), .int (15), .int (17)]]], .int (0), .tup [.int (0), .int (4)], .str "numbers"], .tup [.int (4)])
theorem m9B19_ok : chkE tb wf m9TA 16 8 m9B19 = true := by kernel_rfl
def m9B20 : Nat × List W × W := (31, [.tup [.int (2), .tup [.tup [.int (0), .int (1)], .tup [.int (0), .int (1)], .tup [.int (0), .int (1)], .tup [.int (0), .int (1)], .tup [.int (0), .int (1)], .tup [.int (0), .int (1)], .tup [.int (0), .int (1)], .tup [.int (0), .int (1)], .tup [.int (0), .int (1)]], .tup [.tup [.int (0), .int (2), .int (4), .int (6), .int (8), .int (10), .int (12), .int (14), .int (16)], .tup [.int (1), .int (3), .int (5), .int (7), .int (9), .int (11), .int (13), .int (15), .int (17)]]], .int (0), .tup [.int (0), .int (5)], .str "numbers"], .tup [.int (3)])
theorem m9B20_ok : chkE tb wf m9TA 16 8 m9B20 = true := by kernel_rfl
def m9B21 : Nat × List W × W := (31, [.tup [.int (2), .tup [.tup [.int (0), .int (1)], .tup [.int (0), .int (1)], .tup [.int (0), .int (1)], .tup [.int (0), .int (1)], .tup [.int (0), .int (1)], .tup [.int (0), .int (1)], .tup [.int (0), .int (1)], .tup [.int (0), .int (1)], .tup [.int (0), .int (1)]], .tup [.tup [.int (0), .int (2), .int (4), .int (6), .int (8), .int (10), .int (12), .int (14), .int (16)], .tup [.int (1), .int (3), .int (5), .int (7), .int (9), .int (11), .int (13), .int (15), .int (17)]]], .int (0), .tup [.int (0), .int (6)], .str "numbers"], .tup [.int (2)])
theorem m9B21_ok : chkE tb wf m9TA 16 8 m9B21 = true := by kernel_rfl
def m9B22 : Nat × List W × W := (31, [.tup [.int (2), .tup [.tup [.int (0), .int (1)], .tup [.int (0), .int (1)], .tup [.int (0), .int (1)], .tup [.int (0), .int (1)], .tup [.int (0), .int (1)], .tup [.int (0), .int (1)], .tup [.int (0), .int (1)], .tup [.int (0), .int (1)], .tup [.int (0), .int (1)]], .tup [.tup [.int (0), .int (2), .int (4), .int (6), .int (8), .int (10), .int (12), .int (14), .int (16)], .tup [.int (1), .int (3), .int (5), .int (7), .int (9), .int (11), .int (13), .int (15), .int (17)]]], .int (0), .tup [.int (0), .int (7)], .str "numbers"], .tup [.int (1)])
theorem m9B22_ok : chkE tb wf m9TA 16 8 m9B22 = true := by kernel_rfl
def m9B23 : Nat × List W × W := (31, [.tup [.int (2), .tup [.tup [.int (0), .int (1)], .tup [.int (0), .int (1)], .tup [.int (0), .int (1)], .tup [.int (0), .int (1)], .tup [.int (0), .int (1)], .tup [.int (0), .int (1)], .tup [.int (0), .int (1)], .tup [.int (0), .int (1)], .tup [.int (0), .int (1)]], .tup [.tup [.int (0), .int (2), .int (4), .int (6), .int (8), .int (10), .int (12), .int (14), .int (16)], .tup [.int (1), .int (3), .int (5), .int (7), .int (9), .int (11), .int (13), .int (15), .int (17)]]], .int (0), .tup [.int (0), .int (8)], .str "numbers"], .tup [.int (0)])
theorem m9B23_ok : chkE tb wf m9TA 16 8 m9B23 = true := by kernel_rfl
def m9B24 : Nat × List W × W := (37, [.tup [.int (2), .tup [.tup [.int (0), .int (1)], .tup [.int (0), .int (1)], .tup [.int (0), .int (1)], .tup [.int (0), .int (1)], .tup [.int (0), .int (1)], .tup [.int (0), .int (1)], .tup [.int (0), .int (1)], .tup [.int (0), .int (1)], .tup [.int (0), .int (1)]], .tup [.tup [.int (0), .int (2), .int (4), .int (6), .int (8), .int (10), .int (12), .int (14), .int (16)], .tup [.int (1), .int (3), .int (5), .int (7), .int (9), .int (11), .int (13), .int (15), .int (17)]]], .int (0), .tup [.int (0), .int (0)]], .tup [.int (0), .int (0)])
theorem m9B24_ok : chkE tb wf m9TA 16 8 m9B24 = true := by kernel_rfl
def m9B25 : Nat × List W × W := (37, [.tup [.int (2), .tup [.tup [.int (0), .int (1)], .tup [.int (0), .int (1)], .tup [.int (0), .int (1)], .tup [.int (0), .int (1)], .tup [.int (0), .int (1)], .tup [.int (0), .int (1)], .tup [.int (0), .int (1)], .tup [.int (0), .int (1)], .tup [.int (0), .int (1)]], .tup [.tup [.int (0), .int (2), .int (4), .int (6), .int (8), .int (10), .int (12), .int (14), .int (16)], .tup [.int (1), .int (3), .int (5), .int (7), .int (9), .int (11), .int (13), .int (15), .int (17)]]], .int (0), .tup [.int (5), .int (-5)]], .tup [.int (0), .int (4)])
theorem m9B25_ok : chkE tb wf m9TA 16 8 m9B25 = true := by kernel_rfl
def m9B26 : Nat × List W × W := (40, [.tup [.int (2), .tup [.tup [.int (0), .int (1)], .tup [.int (0), .int (1)], .tup [.int (0), .int (1)], .tup [.int (0), .int (1)], .tup [.int (0), .int (1)], .tup [.int (0), .int (1)], .tup [.int (0), .int (1)], .tup [.int (0), .int (1)], .tup [.int (0), .int (1)]], .tup [.tup [.int (0), .int (2), .int (4), .int (6), .int (8), .int (10), .int (12), .int (14), .int (16)], .tup [.int (1), .int (3), .int (5), .int (7), .int (9), .int (11), .int (13), .int (15), .int (17)]]], .int (0), .tup [.int (0), .int (8)], .tup [.int (0), .int (1)]], .tup [.int (0), .int (0)])
theorem m9B26_ok : chkE tb wf m9TA 16 8 m9B26 = true := by kernel_rfl
def m9B27 : Nat × List W × W := (6, [.tup [.int (2), .tup [.tup [.int (0), .int (1)], .tup [.int (0), .int (1)], .tup [.int (0), .int (1)], .tup [.int (0), .int (1)], .tup [.int (0), .int (1)], .tup [.int (0), .int (1)], .tup [.int (0), .int (1)], .tup [.int (0), .int (1)], .tup [.int (0), .int (1)]], .tup [.tup [.int (0), .int (2), .int (4), .int (6), .int (8), .int (10), .int (12), .int (14), .int (16)], .tup [.int (1), .int (3), .int (5), .int (7), .int (9), .int (11), .int (13), .int (15), .int (17)]]], .int (0), .tup [.int (0), .int (64)]], .int (63))
theorem m9B27_ok : chkE tb wf m9TA 16 8 m9B27 = true := by kernel_rfl
def m9TB : List (Nat × List W × W) := m9B0 :: m9B1 :: m9B2 :: m9B3 :: m9B4 :: m9B5 :: m9B6 :: m9B7 :: m9B8 :: m9B9 :: m9B10 :: m9B11 :: m9B12 :: m9B13 :: m9B14 :: m9B15 :: m9B16 :: m9B17 :: m9B18 :: m9B19 :: m9B20 :: m9B21 :: m9B22 :: m9B23 :: m9B24 :: m9B25 :: m9B26 :: m9B27 :: m9TA
theorem m9TB_ok : Val tb wf m9TB 25 := Val.put (k := 8) rfl m9TA_ok m9B0_ok (Val.put (k := 8) rfl m9TA_ok m9B1_ok (Val.put (k := 8) rfl m9TA_ok m9B2_ok (Val.put (k := 8) rfl m9TA_ok m9B3_ok (Val.put (k := 8) rfl m9TA_ok m9B4_ok (Val.put (k := 8) rfl m9TA_ok m9B5_ok (Val.put (k := 8) rfl m9TA_ok m9B6_ok (Val.put (k := 8) rfl m9TA_ok m9B7_ok (Val.put (k := 8) rfl m9TA_ok m9B8_ok (Val.put (k := 8) rfl m9TA_ok m9B9_ok (Val.put (k := 8) rfl m9TA_ok m9B10_ok (Val.put (k := 8) rfl m9TA_ok m9B11_ok (Val.put (k := 8) rfl m9TA_ok m9B12_ok (Val.put (k := 8) rfl m9TA_ok m9B13_ok (Val.put (k := 8) rfl m9TA_ok m9B14_ok (Val.put (k := 8) rfl m9TA_ok m9B15_ok (Val.put (k := 8) rfl m9TA_ok m9B16_ok (Val.put (k := 8) rfl m9TA_ok m9B17_ok (Val.put (k := 8) rfl m9TA_ok m9B18_ok (Val.put (k := 8) rfl m9TA_ok m9B19_ok (Val.put (k := 8) rfl m9TA_ok m9B20_ok (Val.put (k := 8) rfl m9TA_ok m9B21_ok (Val.put (k := 8) rfl m9TA_ok m9B22_ok (Val.put (k := 8) rfl m9TA_ok m9B23_ok (Val.put (k := 8) rfl m9TA_ok m9B24_ok (Val.put (k := 8) rfl m9TA_ok m9B25_ok (Val.put (k := 8) rfl m9TA_ok m9B26_ok (Val.put (k := 8) rfl m9TA_ok m9B27_ok (m9TA_ok.add 9))))))))))))))))))))))))))))
theorem m9O : isT1 (runF (callO tb wf m9TB 25 4) wf f__law_many_right [.int 9] Hw.nil) = true := by kernel_rfl
theorem m9 : isT1 (mr 9) = true := by
  obtain ⟨g, e⟩ := isT1_ok m9O
  rw [show mr 9 = _ from (leF (callO_le m9TB_ok 4) wf f__law_many_right [.int 9] Hw.nil).ok e]
  rfl
def m10A0 : Nat × List W × W := (1, [.tup [.int (2), .tup [.tup [.int (0), .int (1)], .tup [.int (0), .int (1)], .tup [.int (0), .int (1)], .tup [.int (0), .int (1)], .tup [.int (0), .int (1)], .tup [.int (0), .int (1)], .tup [.int (0), .int (1)], .tup [.int (0), .int (1)], .tup [.int (0), .int (1)], .tup [.int (0), .int (1)]], .tup [.tup [.int (0), .int (2), .int (4), .int (6), .int (8), .int (10), .int (12), .int (14), .int (16), .int (18)], .tup [.int (1), .int (3), .int (5), .int (7), .int (9), .int (11), .int (13), .int (15), .int (17), .int (19)]]]], .tup [.int (10), .int (10)])
theorem m10A0_ok : chkE tb wf [] 15 0 m10A0 = true := by kernel_rfl
def m10A1 : Nat × List W × W := (22, [.tup [.int (2), .tup [.tup [.int (0), .int (1)], .tup [.int (0), .int (1)], .tup [.int (0), .int (1)], .tup [.int (0), .int (1)], .tup [.int (0), .int (1)], .tup [.int (0), .int (1)], .tup [.int (0), .int (1)], .tup [.int (0), .int (1)], .tup [.int (0), .int (1)], .tup [.int (0), .int (1)]], .tup [.tup [.int (0), .int (2), .int (4), .int (6), .int (8), .int (10), .int (12), .int (14), .int (16), .int (18)], .tup [.int (1), .int (3), .int (5), .int (7), .int (9), .int (11), .int (13), .int (15), .int (17), .int (19)]]], .tup [.int (0)]], .bl true)
theorem m10A1_ok : chkE tb wf [] 15 0 m10A1 = true := by kernel_rfl
def m10A2 : Nat × List W × W := (22, [.tup [.int (2), .tup [.tup [.int (0), .int (1)], .tup [.int (0), .int (1)], .tup [.int (0), .int (1)], .tup [.int (0), .int (1)], .tup [.int (0), .int (1)], .tup [.int (0), .int (1)], .tup [.int (0), .int (1)], .tup [.int (0), .int (1)], .tup [.int (0), .int (1)], .tup [.int (0), .int (1)]], .tup [.tup [.int (0), .int (2), .int (4), .int (6), .int (8), .int (10), .int (12), .int (14), .int (16), .int (18)], .tup [.int (1), .int (3), .int (5), .int (7), .int (9), .int (11), .int (13), .int (15), .int (17), .int (19)]]], .tup [.int (1)]], .bl true)
theorem m10A2_ok : chkE tb wf [] 15 0 m10A2 = true := by kernel_rfl
def m10A3 : Nat × List W × W := (22, [.tup [.int (2), .tup [.tup [.int (0), .int (1)], .tup [.int (0), .int (1)], .tup [.int (0), .int (1)], .tup [.int (0), .int (1)], .tup [.int (0), .int (1)], .tup [.int (0), .int (1)], .tup [.int (0), .int (1)], .tup [.int (0), .int (1)], .tup [.int (0), .int (1)], .tup [.int (0), .int (1)]], .tup [.tup [.int (0), .int (2), .int (4), .int (6), .int (8), .int (10), .int (12), .int (14), .int (16), .int (18)], .tup [.int (1), .int (3), .int (5), .int (7), .int (9), .int (11), .int (13), .int (15), .int (17), .int (19)]]], .tup [.int (2)]], .bl true)
theorem m10A3_ok : chkE tb wf [] 15 0 m10A3 = true := by kernel_rfl
def m10A4 : Nat × List W × W := (22, [.tup [.int (2), .tup [.tup [.int (0), .int (1)], .tup [.int (0), .int (1)], .tup [.int (0), .int (1)], .tup [.int (0), .int (1)], .tup [.int (0), .int (1)], .tup [.int (0), .int (1)], .tup [.int (0), .int (1)], .tup [.int (0), .int (1)], .tup [.int (0), .int (1)], .tup [.int (0), .int (1)]], .tup [.tup [.int (0), .int (2), .int (4), .int (6), .int (8), .int (10), .int (12), .int (14), .int (16), .int (18)], .tup [.int (1), .int (3), .int (5), .int (7), .int (9), .int (11), .int (13), .int (15), .int (17), .int (19)]]], .tup [.int (3)]], .bl true)
theorem m10A4_ok : chkE tb wf [] 15 0 m10A4 = true := by kernel_rfl
def m10A5 : Nat × List W × W := (22, [.tup [.int (2), .tup [.tup [.int (0), .int (1)], .tup [.int (0), .int (1)], .tup [.int (0), .int (1)], .tup [.int (0), .int (1)], .tup [.int (0), .int (1)], .tup [.int (0), .int (1)], .tup [.int (0), .int (1)], .tup [.int (0), .int (1)], .tup [.int (0), .int (1)], .tup [.int (0), .int (1)]], .tup [.tup [.int (0), .int (2), .int (4), .int (6), .int (8), .int (10), .int (12), .int (14), .int (16), .int (18)], .tup [.int (1), .int (3), .int (5), .int (7), .int (9), .int (11), .int (13), .int (15), .int (17), .int (19)]]], .tup [.int (4)]], .bl true)
theorem m10A5_ok : chkE tb wf [] 15 0 m10A5 = true := by kernel_rfl
def m10A6 : Nat × List W × W := (22, [.tup [.int (2), .tup [.tup [.int (0), .int (1)], .tup [.int (0), .int (1)], .tup [.int (0), .int (1)], .tup [.int (0), .int (1)], .tup [.int (0), .int (1)], .tup [.int (0), .int (1)], .tup [.int (0), .int (1)], .tup [.int (0), .int (1)], .tup [.int (0), .int (1)], .tup [.int (0), .int (1)]], .tup [.tup [.int (0), .int (2), .int (4), .int (6), .int (8), .int (10), .int (12), .int (14), .int (16), .int (18)], .tup [.int (1), .int (3), .int (5), .int (7), .int (9), .int (11), .int (13), .int (15), .int (17), .int (19)]]], .tup [.int (5)]], .bl true)
theorem m10A6_ok : chkE tb wf [] 15 0 m10A6 = true := by kernel_rfl
def m10A7 : Nat × List W × W := (22, [.tup [.int (2), .tup [.tup [.int (0), .int (1)], .tup [.int (0), .int (1)], .tup [.int (0), .int (1)], .tup [.int (0), .int (1)], .tup [.int (0), .int (1)], .tup [.int (0), .int (1)], .tup [.int (0), .int (1)], .tup [.int (0), .int (1)], .tup [.int (0), .int (1)], .tup [.int (0), .int (1)]], .tup [.tup [.int (0), .int (2), .int (4), .int (6), .int (8), .int (10), .int (12), .int (14), .int (16), .int (18)], .tup [.int (1), .int (3), .int (5), .int (7), .int (9), .int (11), .int (13), .int (15), .int (17), .int (19)]]], .tup [.int (6)]], .bl true)
theorem m10A7_ok : chkE tb wf [] 15 0 m10A7 = true := by kernel_rfl
def m10A8 : Nat × List W × W := (22, [.tup [.int (2), .tup [.tup [.int (0), .int (1)], .tup [.int (0), .int (1)], .tup [.int (0), .int (1)], .tup [.int (0), .int (1)], .tup [.int (0), .int (1)], .tup [.int (0), .int (1)], .tup [.int (0), .int (1)], .tup [.int (0), .int (1)], .tup [.int (0), .int (1)], .tup [.int (0), .int (1)]], .tup [.tup [.int (0), .int (2), .int (4), .int (6), .int (8), .int (10), .int (12), .int (14), .int (16), .int (18)], .tup [.int (1), .int (3), .int (5), .int (7), .int (9), .int (11), .int (13), .int (15), .int (17), .int (19)]]], .tup [.int (7)]], .bl true)
theorem m10A8_ok : chkE tb wf [] 15 0 m10A8 = true := by kernel_rfl
def m10A9 : Nat × List W × W := (22, [.tup [.int (2), .tup [.tup [.int (0), .int (1)], .tup [.int (0), .int (1)], .tup [.int (0), .int (1)], .tup [.int (0), .int (1)], .tup [.int (0), .int (1)], .tup [.int (0), .int (1)], .tup [.int (0), .int (1)], .tup [.int (0), .int (1)], .tup [.int (0), .int (1)], .tup [.int (0), .int (1)]], .tup [.tup [.int (0), .int (2), .int (4), .int (6), .int (8), .int (10), .int (12), .int (14), .int (16), .int (18)], .tup [.int (1), .int (3), .int (5), .int (7), .int (9), .int (11), .int (13), .int (15), .int (17), .int (19)]]], .tup [.int (8)]], .bl true)
theorem m10A9_ok : chkE tb wf [] 15 0 m10A9 = true := by kernel_rfl
def m10A10 : Nat × List W × W := (22, [.tup [.int (2), .tup [.tup [.int (0), .int (1)], .tup [.int (0), .int (1)], .tup [.int (0), .int (1)], .tup [.int (0), .int (1)], .tup [.int (0), .int (1)], .tup [.int (0), .int (1)], .tup [.int (0), .int (1)], .tup [.int (0), .int (1)], .tup [.int (0), .int (1)], .tup [.int (0), .int (1)]], .tup [.tup [.int (0), .int (2), .int (4), .int (6), .int (8), .int (10), .int (12), .int (14), .int (16), .int (18)], .tup [.int (1), .int (3), .int (5), .int (7), .int (9), .int (11), .int (13), .int (15), .int (17), .int (19)]]], .tup [.int (9)]], .bl true)
theorem m10A10_ok : chkE tb wf [] 15 0 m10A10 = true := by kernel_rfl
def m10A11 : Nat × List W × W := (3, [.tup [.int (2), .tup [.tup [.int (0), .int (1)], .tup [.int (0), .int (1)], .tup [.int (0), .int (1)], .tup [.int (0), .int (1)], .tup [.int (0), .int (1)], .tup [.int (0), .int (1)], .tup [.int (0), .int (1)], .tup [.int (0), .int (1)], .tup [.int (0), .int (1)], .tup [.int (0), .int (1)]], .tup [.tup [.int (0), .int (2), .int (4), .int (6), .int (8), .int (10), .int (12), .int (14), .int (16), .int (18)], .tup [.int (1), .int (3), .int (5), .int (7), .int (9), .int (11), .int (13), .int (15), .int (17), .int (19)]]], .int (0), .tup [.int (0), .int (20)]], .tup [.tup [.int (0), .int (0)], .tup [.int (0), .int (2)]])
theorem m10A11_ok : chkE tb wf [] 15 0 m10A11 = true := by kernel_rfl
def m10A12 : Nat × List W × W := (3, [.tup [.int (2), .tup [.tup [.int (0), .int (1)], .tup [.int (0), .int (1)], .tup [.int (0), .int (1)], .tup [.int (0), .int (1)], .tup [.int (0), .int (1)], .tup [.int (0), .int (1)], .tup [.int (0), .int (1)], .tup [.int (0), .int (1)], .tup [.int (0), .int (1)], .tup [.int (0), .int (1)]], .tup [.tup [.int (0), .int (2), .int (4), .int (6), .int (8), .int (10), .int (12), .int (14), .int (16), .int (18)], .tup [.int (1), .int (3), .int (5), .int (7), .int (9), .int (11), .int (13), .int (15), .int (17), .int (19)]]], .int (0), .tup [.int (0), .int (71)]], .tup [.tup [.int (0), .int (1)], .tup [.int (0), .int (7)]])
theorem m10A12_ok : chkE tb wf [] 15 0 m10A12 = true := by kernel_rfl
def m10A13 : Nat × List W × W := (3, [.tup [.int (2), .tup [.tup [.int (0), .int (1)], .tup [.int (0), .int (1)], .tup [.int (0), .int (1)], .tup [.int (0), .int (1)], .tup [.int (0), .int (1)], .tup [.int (0), .int (1)], .tup [.int (0), .int (1)], .tup [.int (0), .int (1)], .tup [.int (0), .int (1)], .tup [.int (0), .int (1)]], .tup [.tup [.int (0), .int (2), .int (4), .int (6), .int (8), .int (10), .int (12), .int (14), .int (16), .int (18)], .tup [.int (1), .int (3), .int (5), .int (7), .int (9), .int (11), .int (13), .int (15), .int (17), .int (19)]]], .int (0), .tup [.int (0), .int (10)]], .tup [.tup [.int (0), .int (0)], .tup [.int (0), .int (1)]])
theorem m10A13_ok : chkE tb wf [] 15 0 m10A13 = true := by kernel_rfl
def m10A14 : Nat × List W × W := (3, [.tup [.int (2), .tup [.tup [.int (0), .int (1)], .tup [.int (0), .int (1)], .tup [.int (0), .int (1)], .tup [.int (0), .int (1)], .tup [.int (0), .int (1)], .tup [.int (0), .int (1)], .tup [.int (0), .int (1)], .tup [.int (0), .int (1)], .tup [.int (0), .int (1)], .tup [.int (0), .int (1)]], .tup [.tup [.int (0), .int (2), .int (4), .int (6), .int (8), .int (10), .int (12), .int (14), .int (16), .int (18)], .tup [.int (1), .int (3), .int (5), .int (7), .int (9), .int (11), .int (13), .int (15), .int (17), .int (19)]]], .int (0), .tup [.int (0), .int (15)]], .tup [.tup [.int (0), .int (5)], .tup [.int (0), .int (1)]])
theorem m10A14_ok : chkE tb wf [] 15 0 m10A14 = true := by kernel_rfl
def m10A15 : Nat × List W × W := (35, [.tup [.int (2), .tup [.tup [.int (0), .int (1)], .tup [.int (0), .int (1)], .tup [.int (0), .int (1)], .tup [.int (0), .int (1)], .tup [.int (0), .int (1)], .tup [.int (0), .int (1)], .tup [.int (0), .int (1)], .tup [.int (0), .int (1)], .tup [.int (0), .int (1)], .tup [.int (0), .int (1)]], .tup [.tup [.int (0), .int (2), .int (4), .int (6), .int (8), .int (10), .int (12), .int (14), .int (16), .int (18)], .tup [.int (1), .int (3), .int (5), .int (7), .int (9), .int (11), .int (13), .int (15), .int (17), .int (19)]]], .tup [.int (0)]], .tup [.int (1), .int (2), .int (3), .int (4), .int (5), .int (6), .int (7), .int (8), .int (9)])
theorem m10A15_ok : chkE tb wf [] 15 0 m10A15 = true := by kernel_rfl
def m10A16 : Nat × List W × W := (35, [.tup [.int (2), .tup [.tup [.int (0), .int (1)], .tup [.int (0), .int (1)], .tup [.int (0), .int (1)], .tup [.int (0), .int (1)], .tup [.int (0), .int (1)], .tup [.int (0), .int (1)], .tup [.int (0), .int (1)], .tup [.int (0), .int (1)], .tup [.int (0), .int (1)], .tup [.int (0), .int (1)]], .tup [.tup [.int (0), .int (2), .int (4), .int (6), .int (8), .int (10), .int (12), .int (14), .int (16), .int (18)], .tup [.int (1), .int (3), .int (5), .int (7), .int (9), .int (11), .int (13), .int (15), .int (17), .int (19)]]], .tup [.int (1)]], .tup [.int (2), .int (3), .int (4), .int (5), .int (6), .int (7), .int (8), .int (9)])
theorem m10A16_ok : chkE tb wf [] 15 0 m10A16 = true := by kernel_rfl
def m10A17 : Nat × List W × W := (35, [.tup [.int (2), .tup [.tup [.int (0), .int (1)], .tup [.int (0), .int (1)], .tup [.int (0), .int (1)], .tup [.int (0), .int (1)], .tup [.int (0), .int (1)], .tup [.int (0), .int (1)], .tup [.int (0), .int (1)], .tup [.int (0), .int (1)], .tup [.int (0), .int (1)], .tup [.int (0), .int (1)]], .tup [.tup [.int (0), .int (2), .int (4), .int (6), .int (8), .int (10), .int (12), .int (14), .int (16), .int (18)], .tup [.int (1), .int (3), .int (5), .int (7), .int (9), .int (11), .int (13), .int (15), .int (17), .int (19)]]], .tup [.int (2)]], .tup [.int (3), .int (4), .int (5), .int (6), .int (7), .int (8), .int (9)])
theorem m10A17_ok : chkE tb wf [] 15 0 m10A17 = true := by kernel_rfl
def m10A18 : Nat × List W × W := (35, [.tup [.int (2), .tup [.tup [.int (0), .int (1)], .tup [.int (0), .int (1)], .tup [.int (0), .int (1)], .tup [.int (0), .int (1)], .tup [.int (0), .int (1)], .tup [.int (0), .int (1)], .tup [.int (0), .int (1)], .tup [.int (0), .int (1)], .tup [.int (0), .int (1)], .tup [.int (0), .int (1)]], .tup [.tup [.int (0), .int (2), .int (4), .int (6), .int (8), .int (10), .int (12), .int (14), .int (16), .int (18)], .tup [.int (1), .int (3), .int (5), .int (7), .int (9), .int (11), .int (13), .int (15), .int (17), .int (19)]]], .tup [.int (3)]], .tup [.int (4), .int (5), .int (6), .int (7), .int (8), .int (9)])
theorem m10A18_ok : chkE tb wf [] 15 0 m10A18 = true := by kernel_rfl
def m10A19 : Nat × List W × W := (35, [.tup [.int (2), .tup [.tup [.int (0), .int (1)], .tup [.int (0), .int (1)], .tup [.int (0), .int (1)], .tup [.int (0), .int (1)], .tup [.int (0), .int (1)], .tup [.int (0), .int (1)], .tup [.int (0), .int (1)], .tup [.int (0), .int (1)], .tup [.int (0), .int (1)], .tup [.int (0), .int (1)]], .tup [.tup [.int (0), .int (2), .int (4), .int (6), .int (8), .int (10), .int (12), .int (14), .int (16), .int (18)], .tup [.int (1), .int (3), .int (5), .int (7), .int (9), .int (11), .int (13), .int (15), .int (17), .int (19)]]], .tup [.int (4)]], .tup [.int (5), .int (6), .int (7), .int (8), .int (9)])
theorem m10A19_ok : chkE tb wf [] 15 0 m10A19 = true := by kernel_rfl
def m10A20 : Nat × List W × W := (35, [.tup [.int (2), .tup [.tup [.int (0), .int (1)], .tup [.int (0), .int (1)], .tup [.int (0), .int (1)], .tup [.int (0), .int (1)], .tup [.int (0), .int (1)], .tup [.int (0), .int (1)], .tup [.int (0), .int (1)], .tup [.int (0), .int (1)], .tup [.int (0), .int (1)], .tup [.int (0), .int (1)]], .tup [.tup [.int (0), .int (2), .int (4), .int (6), .int (8), .int (10), .int (12), .int (14), .int (16), .int (18)], .tup [.int (1), .int (3), .int (5), .int (7), .int (9), .int (11), .int (13), .int (15), .int (17), .int (19)]]], .tup [.int (5)]], .tup [.int (6), .int (7), .int (8), .int (9)])
theorem m10A20_ok : chkE tb wf [] 15 0 m10A20 = true := by kernel_rfl
def m10A21 : Nat × List W × W := (35, [.tup [.int (2), .tup [.tup [.int (0), .int (1)], .tup [.int (0), .int (1)], .tup [.int (0), .int (1)], .tup [.int (0), .int (1)], .tup [.int (0), .int (1)], .tup [.int (0), .int (1)], .tup [.int (0), .int (1)], .tup [.int (0), .int (1)], .tup [.int (0), .int (1)], .tup [.int (0), .int (1)]], .tup [.tup [.int (0), .int (2), .int (4), .int (6), .int (8), .int (10), .int (12), .int (14), .int (16), .int (18)], .tup [.int (1), .int (3), .int (5), .int (7), .int (9), .int (11), .int (13), .int (15), .int (17), .int (19)]]], .tup [.int (6)]], .tup [.int (7), .int (8), .int (9)])
theorem m10A21_ok : chkE tb wf [] 15 0 m10A21 = true := by kernel_rfl
def m10A22 : Nat × List W × W := (35, [.tup [.int (2), .tup [.tup [.int (0), .int (1)], .tup [.int (0), .int (1)], .tup [.int (0), .int (1)], .tup [.int (0), .int (1)], .tup [.int (0), .int (1)], .tup [.int (0), .int (1)], .tup [.int (0), .int (1)], .tup [.int (0), .int (1)], .tup [.int (0), .int (1)], .tup [.int (0), .int (1)]], .tup [.tup [.int (0), .int (2), .int (4), .int (6), .int (8), .int (10), .int (12), .int (14), .int (16), .int (18)], .tup [.int (1), .int (3), .int (5), .int (7), .int (9), .int (11), .int (13), .int (15), .int (17), .int (19)]]], .tup [.int (7)]], .tup [.int (8), .int (9)])
theorem m10A22_ok : chkE tb wf [] 15 0 m10A22 = true := by kernel_rfl
def m10A23 : Nat × List W × W := (35, [.tup [.int (2), .tup [.tup [.int (0), .int (1)], .tup [.int (0), .int (1)], .tup [.int (0), .int (1)], .tup [.int (0), .int (1)], .tup [.int (0), .int (1)], .tup [.int (0), .int (1)], .tup [.int (0), .int (1)], .tup [.int (0), .int (1)], .tup [.int (0), .int (1)], .tup [.int (0), .int (1)]], .tup [.tup [.int (0), .int (2), .int (4), .int (6), .int (8), .int (10), .int (12), .int (14), .int (16), .int (18)], .tup [.int (1), .int (3), .int (5), .int (7), .int (9), .int (11), .int (13), .int (15), .int (17), .int (19)]]], .tup [.int (8)]], .tup [.int (9)])
theorem m10A23_ok : chkE tb wf [] 15 0 m10A23 = true := by kernel_rfl
def m10A24 : Nat × List W × W := (35, [.tup [.int (2), .tup [.tup [.int (0), .int (1)], .tup [.int (0), .int (1)], .tup [.int (0), .int (1)], .tup [.int (0), .int (1)], .tup [.int (0), .int (1)], .tup [.int (0), .int (1)], .tup [.int (0), .int (1)], .tup [.int (0), .int (1)], .tup [.int (0), .int (1)], .tup [.int (0), .int (1)]], .tup [.tup [.int (0), .int (2), .int (4), .int (6), .int (8), .int (10), .int (12), .int (14), .int (16), .int (18)], .tup [.int (1), .int (3), .int (5), .int (7), .int (9), .int (11), .int (13), .int (15), .int (17), .int (19)]]], .tup [.int (9)]], .tup [])
theorem m10A24_ok : chkE tb wf [] 15 0 m10A24 = true := by kernel_rfl
def m10A25 : Nat × List W × W := (11, [.tup [.int (2), .tup [.tup [.int (0), .int (1)], .tup [.int (0), .int (1)], .tup [.int (0), .int (1)], .tup [.int (0), .int (1)], .tup [.int (0), .int (1)], .tup [.int (0), .int (1)], .tup [.int (0), .int (1)], .tup [.int (0), .int (1)], .tup [.int (0), .int (1)], .tup [.int (0), .int (1)]], .tup [.tup [.int (0), .int (2), .int (4), .int (6), .int (8), .int (10), .int (12), .int (14), .int (16), .int (18)], .tup [.int (1), .int (3), .int (5), .int (7), .int (9), .int (11), .int (13), .int (15), .int (17), .int (19)]]], .int (0), .tup [.int (0), .int (0)]], .bl true)
theorem m10A25_ok : chkE tb wf [] 15 0 m10A25 = true := by kernel_rfl
def m10A26 : Nat × List W × W := (11, [.tup [.int (2), .tup [.tup [.int (0), .int (1)], .tup [.int (0), .int (1)], .tup [.int (0), .int (1)], .tup [.int (0), .int (1)], .tup [.int (0), .int (1)], .tup [.int (0), .int (1)], .tup [.int (0), .int (1)], .tup [.int (0), .int (1)], .tup [.int (0), .int (1)], .tup [.int (0), .int (1)]], .tup [.tup [.int (0), .int (2), .int (4), .int (6), .int (8), .int (10), .int (12), .int (14), .int (16), .int (18)], .tup [.int (1), .int (3), .int (5), .int (7), .int (9), .int (11), .int (13), .int (15), .int (17), .int (19)]]], .int (0), .tup [.int (0), .int (1)]], .bl true)
theorem m10A26_ok : chkE tb wf [] 15 0 m10A26 = true := by kernel_rfl
def m10A27 : Nat × List W × W := (11, [.tup [.int (2), .tup [.tup [.int (0), .int (1)], .tup [.int (0), .int (1)], .tup [.int (0), .int (1)], .tup [.int (0), .int (1)], .tup [.int (0), .int (1)], .tup [.int (0), .int (1)], .tup [.int (0), .int (1)], .tup [.int (0), .int (1)], .tup [.int (0), .int (1)], .tup [.int (0), .int (1)]], .tup [.tup [.int (0), .int (2), .int (4), .int (6), .int (8), .int (10), .int (12), .int (14), .int (16), .int (18)], .tup [.int (1), .int (3), .int (5), .int (7), .int (9), .int (11), .int (13), .int (15), .int (17), .int (19)]]], .int (0), .tup [.int (0), .int (2)]], .bl true)
theorem m10A27_ok : chkE tb wf [] 15 0 m10A27 = true := by kernel_rfl
def m10A28 : Nat × List W × W := (11, [.tup [.int (2), .tup [.tup [.int (0), .int (1)], .tup [.int (0), .int (1)], .tup [.int (0), .int (1)], .tup [.int (0), .int (1)], .tup [.int (0), .int (1)], .tup [.int (0), .int (1)], .tup [.int (0), .int (1)], .tup [.int (0), .int (1)], .tup [.int (0), .int (1)], .tup [.int (0), .int (1)]], .tup [.tup [.int (0), .int (2), .int (4), .int (6), .int (8), .int (10), .int (12), .int (14), .int (16), .int (18)], .tup [.int (1), .int (3), .int (5), .int (7), .int (9), .int (11), .int (13), .int (15), .int (17), .int (19)]]], .int (0), .tup [.int (0), .int (3)]], .bl true)
theorem m10A28_ok : chkE tb wf [] 15 0 m10A28 = true := by kernel_rfl
def m10A29 : Nat × List W × W := (11, [.tup [.int (2), .tup [.tup [.int (0), .int (1)], .tup [.int (0), .int (1)], .tup [.int (0), .int (1)], .tup [.int (0), .int (1)], .tup [.int (0), .int (1)], .tup [.int (0), .int (1)], .tup [.int (0), .int (1)], .tup [.int (0), .int (1)], .tup [.int (0), .int (1)], .tup [.int (0), .int (1)]], .tup [.tup [.int (0), .int (2), .int (4), .int (6), .int (8), .int (10), .int (12), .int (14), .int (16), .int (18)], .tup [.int (1), .int (3), .int (5), .int (7), .int (9), .int (11), .int (13), .int (15), .int (17), .int (19)]]], .int (0), .tup [.int (0), .int (4)]], .bl true)
theorem m10A29_ok : chkE tb wf [] 15 0 m10A29 = true := by kernel_rfl
def m10A30 : Nat × List W × W := (11, [.tup [.int (2), .tup [.tup [.int (0), .int (1)], .tup [.int (0), .int (1)], .tup [.int (0), .int (1)], .tup [.int (0), .int (1)], .tup [.int (0), .int (1)], .tup [.int (0), .int (1)], .tup [.int (0), .int (1)], .tup [.int (0), .int (1)], .tup [.int (0), .int (1)], .tup [.int (0), .int (1)]], .tup [.tup [.int (0), .int (2), .int (4), .int (6), .int (8), .int (10), .int (12), .int (14), .int (16), .int (18)], .tup [.int (1), .int (3), .int (5), .int (7), .int (9), .int (11), .int (13), .int (15), .int (17), .int (19)]]], .int (0), .tup [.int (0), .int (5)]], .bl true)
theorem m10A30_ok : chkE tb wf [] 15 0 m10A30 = true := by kernel_rfl
def m10A31 : Nat × List W × W := (11, [.tup [.int (2), .tup [.tup [.int (0), .int (1)], .tup [.int (0), .int (1)], .tup [.int (0), .int (1)], .tup [.int (0), .int (1)], .tup [.int (0), .int (1)], .tup [.int (0), .int (1)], .tup [.int (0), .int (1)], .tup [.int (0), .int (1)], .tup [.int (0), .int (1)], .tup [.int (0), .int (1)]], .tup [.tup [.int (0), .int (2), .int (4), .int (6), .int (8), .int (10), .int (12), .int (14), .int (16), .int (18)], .tup [.int (1), .int (3), .int (5), .int (7), .int (9), .int (11), .int (13), .int (15), .int (17), .int (19)]]], .int (0), .tup [.int (0), .int (6)]], .bl true)
theorem m10A31_ok : chkE tb wf [] 15 0 m10A31 = true := by kernel_rfl
def m10A32 : Nat × List W × W := (11, [.tup [.int (2), .tup [.tup [.int (0), .int (1)], .tup [.int (0), .int (1)], .tup [.int (0), .int (1)], .tup [.int (0), .int (1)], .tup [.int (0), .int (1)], .tup [.int (0), .int (1)], .tup [.int (0), .int (1)], .tup [.int (0), .int (1)], .tup [.int (0), .int (1)], .tup [.int (0), .int (1)]], .tup [.tup [.int (0), .int (2), .int (4), .int (6), .int (8), .int (10), .int (12), .int (14), .int (16), .int (18)], .tup [.int (1), .int (3), .int (5), .int (7), .int (9), .int (11), .int (13), .int (15), .int (17), .int (19)]]], .int (0), .tup [.int (0), .int (7)]], .bl true)
theorem m10A32_ok : chkE tb wf [] 15 0 m10A32 = true := by kernel_rfl
def m10A33 : Nat × List W × W := (11, [.tup [.int (2), .tup [.tup [.int (0), .int (1)], .tup [.int (0), .int (1)], .tup [.int (0), .int (1)], .tup [.int (0), .int (1)], .tup [.int (0), .int (1)], .tup [.int (0), .int (1)], .tup [.int (0), .int (1)], .tup [.int (0), .int (1)], .tup [.int (0), .int (1)], .tup [.int (0), .int (1)]], .tup [.tup [.int (0), .int (2), .int (4), .int (6), .int (8), .int (10), .int (12), .int (14), .int (16), .int (18)], .tup [.int (1), .int (3), .int (5), .int (7), .int (9), .int (11), .int (13), .int (15), .int (17), .int (19)]]], .int (0), .tup [.int (0), .int (8)]], .bl true)
theorem m10A33_ok : chkE tb wf [] 15 0 m10A33 = true := by kernel_rfl
def m10A34 : Nat × List W × W := (11, [.tup [.int (2), .tup [.tup [.int (0), .int (1)], .tup [.int (0), .int (1)], .tup [.int (0), .int (1)], .tup [.int (0), .int (1)], .tup [.int (0), .int (1)], .tup [.int (0), .int (1)], .tup [.int (0), .int (1)], .tup [.int (0), .int (1)], .tup [.int (0), .int (1)], .tup [.int (0), .int (1)]], .tup [.tup [.int (0), .int (2), .int (4), .int (6), .int (8), .int (10), .int (12), .int (14), .int (16), .int (18)], .tup [.int (1), .int (3), .int (5), .int (7), .int (9), .int (11), .int (13), .int (15), .int (17), .int (19)]]], .int (0), .tup [.int (0), .int (9)]], .bl true)
theorem m10A34_ok : chkE tb wf [] 15 0 m10A34 = true := by kernel_rfl
def m10TA : List (Nat × List W × W) := [m10A0, m10A1, m10A2, m10A3, m10A4, m10A5, m10A6, m10A7, m10A8, m10A9, m10A10, m10A11, m10A12, m10A13, m10A14, m10A15, m10A16, m10A17, m10A18, m10A19, m10A20, m10A21, m10A22, m10A23, m10A24, m10A25, m10A26, m10A27, m10A28, m10A29, m10A30, m10A31, m10A32, m10A33, m10A34]
theorem m10TA_ok : Val tb wf m10TA 16 := Val.put (k := 0) rfl (Val.nil tb wf 15) m10A0_ok (Val.put (k := 0) rfl (Val.nil tb wf 15) m10A1_ok (Val.put (k := 0) rfl (Val.nil tb wf 15) m10A2_ok (Val.put (k := 0) rfl (Val.nil tb wf 15) m10A3_ok (Val.put (k := 0) rfl (Val.nil tb wf 15) m10A4_ok (Val.put (k := 0) rfl (Val.nil tb wf 15) m10A5_ok (Val.put (k := 0) rfl (Val.nil tb wf 15) m10A6_ok (Val.put (k := 0) rfl (Val.nil tb wf 15) m10A7_ok (Val.put (k := 0) rfl (Val.nil tb wf 15) m10A8_ok (Val.put (k := 0) rfl (Val.nil tb wf 15) m10A9_ok (Val.put (k := 0) rfl (Val.nil tb wf 15) m10A10_ok (Val.put (k := 0) rfl (Val.nil tb wf 15) m10A11_ok (Val.put (k := 0) rfl (Val.nil tb wf 15) m10A12_ok (Val.put (k := 0) rfl (Val.nil tb wf 15) m10A13_ok (Val.put (k := 0) rfl (Val.nil tb wf 15) m10A14_ok (Val.put (k := 0) rfl (Val.nil tb wf 15) m10A15_ok (Val.put (k := 0) rfl (Val.nil tb wf 15) m10A16_ok (Val.put (k := 0) rfl (Val.nil tb wf 15) m10A17_ok (Val.put (k := 0) rfl (Val.nil tb wf 15) m10A18_ok (Val.put (k := 0) rfl (Val.nil tb wf 15) m10A19_ok (Val.put (k := 0) rfl (Val.nil tb wf 15) m10A20_ok (Val.put (k := 0) rfl (Val.nil tb wf 15) m10A21_ok (Val.put (k := 0) rfl (Val.nil tb wf 15) m10A22_ok (Val.put (k := 0) rfl (Val.nil tb wf 15) m10A23_ok (Val.put (k := 0) rfl (Val.nil tb wf 15) m10A24_ok (Val.put (k := 0) rfl (Val.nil tb wf 15) m10A25_ok (Val.put (k := 0) rfl (Val.nil tb wf 15) m10A26_ok (Val.put (k := 0) rfl (Val.nil tb wf 15) m10A27_ok (Val.put (k := 0) rfl (Val.nil tb wf 15) m10A28_ok (Val.put (k := 0) rfl (Val.nil tb wf 15) m10A29_ok (Val.put (k := 0) rfl (Val.nil tb wf 15) m10A30_ok (Val.put (k := 0) rfl (Val.nil tb wf 15) m10A31_ok (Val.put (k := 0) rfl (Val.nil tb wf 15) m10A32_ok (Val.put (k := 0) rfl (Val.nil tb wf 15) m10A33_ok (Val.put (k := 0) rfl (Val.nil tb wf 15) m10A34_ok (Val.nil tb wf 16)))))))))))))))))))))))))))))))))))
def m10B0 : Nat × List W × W := (32, [.tup [.int (2), .tup [.tup [.int (0), .int (1)], .tup [.int (0), .int (1)], .tup [.int (0), .int (1)], .tup [.int (0), .int (1)], .tup [.int (0), .int (1)], .tup [.int (0), .int (1)], .tup [.int (0), .int (1)], .tup [.int (0), .int (1)], .tup [.int (0), .int (1)], .tup [.int (0), .int (1)]], .tup [.tup [.int (0), .int (2), .int (4), .int (6), .int (8), .int (10), .int (12), .int (14), .int (16), .int (18)], .tup [.int (1), .int (3), .int (5), .int (7), .int (9), .int (11), .int (13), .int (15), .int (17), .int (19)]]], .int (0), .tup [.int (0)], .str "numbers"], .tup [.int (0), .int (9)])
theorem m10B0_ok : chkE tb wf m10TA 16 8 m10B0 = true := by kernel_rfl
def m10B1 : Nat × List W × W := (32, [.tup [.int (2), .tup [.tup [.int (0), .int (1)], .tup [.int (0), .int (1)], .tup [.int (0), .int (1)], .tup [.int (0), .int (1)], .tup [.int (0), .int (1)], .tup [.int (0), .int (1)], .tup [.int (0), .int (1)], .tup [.int (0), .int (1)], .tup [.int (0), .int (1)], .tup [.int (0), .int (1)]], .tup [.tup [.int (0), .int (2), .int (4), .int (6), .int (8), .int (10), .int (12), .int (14), .int (16), .int (18)], .tup [.int (1), .int (3), .int (5), .int (7), .int (9), .int (11), .int (13), .int (15), .int (17), .int (19)]]], .int (0), .tup [.int (1)], .str "numbers"], .tup [.int (0), .int (8)])
theorem m10B1_ok : chkE tb wf m10TA 16 8 m10B1 = true := by kernel_rfl
def m10B2 : Nat × List W × W := (32, [.tup [.int (2), .tup [.tup [.int (0), .int (1)], .tup [.int (0), .int (1)], .tup [.int (0), .int (1)], .tup [.int (0), .int (1)], .tup [.int (0), .int (1)], .tup [.int (0), .int (1)], .tup [.int (0), .int (1)], .tup [.int (0), .int (1)], .tup [.int (0), .int (1)], .tup [.int (0), .int (1)]], .tup [.tup [.int (0), .int (2), .int (4), .int (6), .int (8), .int (10), .int (12), .int (14), .int (16), .int (18)], .tup [.int (1), .int (3), .int (5), .int (7), .int (9), .int (11), .int (13), .int (15), .int (17), .int (19)]]], .int (0), .tup [.int (2)], .str "numbers"], .tup [.int (0), .int (7)])
theorem m10B2_ok : chkE tb wf m10TA 16 8 m10B2 = true := by kernel_rfl
def m10B3 : Nat × List W × W := (32, [.tup [.int (2), .tup [.tup [.int (0), .int (1)], .tup [.int (0), .int (1)], .tup [.int (0), .int (1)], .tup [.int (0), .int (1)], .tup [.int (0), .int (1)], .tup [.int (0), .int (1)], .tup [.int (0), .int (1)], .tup [.int (0), .int (1)], .tup [.int (0), .int (1)], .tup [.int (0), .int (1)]], .tup [.tup [.int (0), .int (2), .int (4), .int (6), .int (8), .int (10), .int (12), .int (14), .int (16), .int (18)], .tup [.int (1), .int (3), .int (5), .int (7), .int (9), .int (11), .int (13), .int (15), .int (17), .int (19)]]], .int (0), .tup [.int (3)], .str "numbers"], .tup [.int (0), .int (6)])
theorem m10B3_ok : chkE tb wf m10TA 16 8 m10B3 = true := by kernel_rfl
def m10B4 : Nat × List W × W := (32, [.tup [.int (2), .tup [.tup [.int (0), .int (1)], .tup [.int (0), .int (1)], .tup [.int (0), .int (1)], .tup [.int (0), .int (1)], .tup [.int (0), .int (1)], .tup [.int (0), .int (1)], .tup [.int (0), .int (1)], .tup [.int (0), .int (1)], .tup [.int (0), .int (1)], .tup [.int (0), .int (1)]], .tup [.tup [.int (0), .int (2), .int (4), .int (6), .int (8), .int (10), .int (12), .int (14), .int (16), .int (18)], .tup [.int (1), .int (3), .int (5), .int (7), .int (9), .int (11), .int (13), .int (15), .int (17), .int (19)]]], .int (0), .tup [.int (4)], .str "numbers"], .tup [.int (0), .int (5)])
theorem m10B4_ok : chkE tb wf m10TA 16 8 m10B4 = true := by kernel_rfl
def m10B5 : Nat × List W × W := (32, [.tup [.int (2), .tup [.tup [.int (0), .int (1)], .tup [.int (0), .int (1)], .tup [.int (0), .int (1)], .tup [.int (0), .int (1)], .tup [.int (0), .int (1)], .tup [.int (0), .int (1)], .tup [.int (0), .int (1)], .tup [.int (0), .int (1)], .tup [.int (0), .int (1)], .tup [.int (0), .int (1)]], .tup [.tup [.int (0), .int (2), .int (4), .int (6), .int (8), .int (10), .int (12), .int (14), .int (16), .int (18)], .tup [.int (1), .int (3), .int (5), .int (7), .int (9), .int (11), .int (13), .int (15), .int (17), .int (19)]]], .int (0), .tup [.int (5)], .str "numbers"], .tup [.int (0), .int (4)])
theorem m10B5_ok : chkE tb wf m10TA 16 8 m10B5 = true := by kernel_rfl
def m10B6 : Nat × List W × W := (32, [.tup [.int (2), .tup [.tup [.int (0), .int (1)], .tup [.int (0), .int (1)], .tup [.int (0), .int (1)], .tup [.int (0), .int (1)], .tup [.int (0), .int (1)], .tup [.int (0), .int (1)], .tup [.int (0), .int (1)], .tup [.int (0), .int (1)], .tup [.int (0), .int (1)], .tup [.int (0), .int (1)]], .tup [.tup [.int (0), .int (2), .int (4), .int (6), .int (8), .int (10), .int (12), .int (14), .int (16), .int (18)], .tup [.int (1), .int (3), .int (5), .int (7), .int (9), .int (11), .int (13), .int (15), .int (17), .int (19)]]], .int (0), .tup [.int (6)], .str "numbers"], .tup [.int (0), .int (3)])
theorem m10B6_ok : chkE tb wf m10TA 16 8 m10B6 = true := by kernel_rfl
def m10B7 : Nat × List W × W := (32, [.tup [.int (2), .tup [.tup [.int (0), .int (1)], .tup [.int (0), .int (1)], .tup [.int (0), .int (1)], .tup [.int (0), .int (1)], .tup [.int (0), .int (1)], .tup [.int (0), .int (1)], .tup [.int (0), .int (1)], .tup [.int (0), .int (1)], .tup [.int (0), .int (1)], .tup [.int (0), .int (1)]], .tup [.tup [.int (0), .int (2), .int (4), .int (6), .int (8), .int (10), .int (12), .int (14), .int (16), .int (18)], .tup [.int (1), .int (3), .int (5), .int (7), .int (9), .int (11), .int (13), .int (15), .int (17), .int (19)]]], .int (0), .tup [.int (7)], .str "numbers"], .tup [.int (0), .int (2)])
theorem m10B7_ok : chkE tb wf m10TA 16 8 m10B7 = true := by kernel_rfl
def m10B8 : Nat × List W × W := (32, [.tup [.int (2), .tup [.tup [.int (0), .int (1)], .tup [.int (0), .int (1)], .tup [.int (0), .int (1)], .tup [.int (0), .int (1)], .tup [.int (0), .int (1)], .tup [.int (0), .int (1)], .tup [.int (0), .int (1)], .tup [.int (0), .int (1)], .tup [.int (0), .int (1)], .tup [.int (0), .int (1)]], .tup [.tup [.int (0), .int (2), .int (4), .int (6), .int (8), .int (10), .int (12), .int (14), .int (16), .int (18)], .tup [.int (1), .int (3), .int (5), .int (7), .int (9), .int (11), .int (13), .int (15), .int (17), .int (19)]]], .int (0), .tup [.int (8)], .str "numbers"], .tup [.int (0), .int (1)])
theorem m10B8_ok : chkE tb wf m10TA 16 8 m10B8 = true := by kernel_rfl
def m10B9 : Nat × List W × W := (32, [.tup [.int (2), .tup [.tup [.int (0), .int (1)], .tup [.int (0), .int (1)], .tup [.int (0), .int (1)], .tup [.int (0), .int (1)], .tup [.int (0), .int (1)], .tup [.int (0), .int (1)], .tup [.int (0), .int (1)], .tup [.int (0), .int (1)], .tup [.int (0), .int (1)], .tup [.int (0), .int (1)]], .tup [.tup [.int (0), .int (2), .int (4), .int (6), .int (8), .int (10), .int (12), .int (14), .int (16), .int (18)], .tup [.int (1), .int (3), .int (5), .int (7), .int (9), .int (11), .int (13), .int (15), .int (17), .int (19)]]], .int (0), .tup [.int (9)], .str "numbers"], .tup [.int (0), .int (0)])
theorem m10B9_ok : chkE tb wf m10TA 16 8 m10B9 = true := by kernel_rfl
def m10B10 : Nat × List W × W := (38, [.tup [.int (2), .tup [.tup [.int (0), .int (1)], .tup [.int (0), .int (1)], .tup [.int (0), .int (1)], .tup [.int (0), .int (1)], .tup [.int (0), .int (1)], .tup [.int (0), .int (1)], .tup [.int (0), .int (1)], .tup [.int (0), .int (1)], .tup [.int (0), .int (1)], .tup [.int (0), .int (1)]], .tup [.tup [.int (0), .int (2), .int (4), .int (6), .int (8), .int (10), .int (12), .int (14), .int (16), .int (18)], .tup [.int (1), .int (3), .int (5), .int (7), .int (9), .int (11), .int (13), .int (15), .int (17), .int (19)]]], .int (0)], .tup [.int (0), .int (0)])
theorem m10B10_ok : chkE tb wf m10TA 16 8 m10B10 = true := by kernel_rfl
def m10B11 : Nat × List W × W := (36, [.tup [.int (2), .tup [.tup [.int (0), .int (1)], .tup [.int (0), .int (1)], .tup [.int (0), .int (1)], .tup [.int (0), .int (1)], .tup [.int (0), .int (1)], .tup [.int (0), .int (1)], .tup [.int (0), .int (1)], .tup [.int (0), .int (1)], .tup [.int (0), .int (1)], .tup [.int (0), .int (1)]], .tup [.tup [.int (0), .int (2), .int (4), .int (6), .int (8), .int (10), .int (12), .int (14), .int (16), .int (18)], .tup [.int (1), .int (3), .int (5), .int (7), .int (9), .int (11), .int (13), .int (15), .int (17), .int (19)]]]], .tup [.int (1), .int (1), .int (1), .int (1), .int (1), .int (1), .int (1), .int (1), .int (1), .int (1)])
theorem m10B11_ok : chkE tb wf m10TA 16 8 m10B11 = true := by kernel_rfl
def m10B12 : Nat × List W × W := (4, [.tup [.int (2), .tup [.tup [.int (0), .int (1)], .tup [.int (0), .int (1)], .tup [.int (0), .int (1)], .tup [.int (0), .int (1)], .tup [.int (0), .int (1)], .tup [.int (0), .int (1)], .tup [.int (0), .int (1)], .tup [.int (0), .int (1)], .tup [.int (0), .int (1)], .tup [.int (0), .int (1)]], .tup [.tup [.int (0), .int (2), .int (4), .int (6), .int (8), .int (10), .int (12), .int (14), .int (16), .int (18)], .tup [.int (1), .int (3), .int (5), .int (7), .int (9), .int (11), .int (13), .int (15), .int (17), .int (19)]]], .int (0), .tup [.int (0), .int (20)]], .tup [.int (0), .int (0)])
theorem m10B12_ok : chkE tb wf m10TA 16 8 m10B12 = true := by kernel_rfl
def m10B13 : Nat × List W × W := (4, [.tup [.int (2), .tup [.tup [.int (0), .int (1)], .tup [.int (0), .int (1)], .tup [.int (0), .int (1)], .tup [.int (0), .int (1)], .tup [.int (0), .int (1)], .tup [.int (0), .int (1)], .tup [.int (0), .int (1)], .tup [.int (0), .int (1)], .tup [.int (0), .int (1)], .tup [.int (0), .int (1)]], .tup [.tup [.int (0), .int (2), .int (4), .int (6), .int (8), .int (10), .int (12), .int (14), .int (16), .int (18)], .tup [.int (1), .int (3), .int (5), .int (7), .int (9), .int (11), .int (13), .int (15), .int (17), .int (19)]]], .int (0), .tup [.int (0), .int (71)]], .tup [.int (0), .int (1)])
theorem m10B13_ok : chkE tb wf m10TA 16 8 m10B13 = true := by kernel_rfl
def m10B14 : Nat × List W × W := (4, [.tup [.int (2), .tup [.tup [.int (0), .int (1)], .tup [.int (0), .int (1)], .tup [.int (0), .int (1)], .tup [.int (0), .int (1)], .tup [.int (0), .int (1)], .tup [.int (0), .int (1)], .tup [.int (0), .int (1)], .tup [.int (0), .int (1)], .tup [.int (0), .int (1)], .tup [.int (0), .int (1)]], .tup [.tup [.int (0), .int (2), .int (4), .int (6), .int (8), .int (10), .int (12), .int (14), .int (16), .int (18)], .tup [.int (1), .int (3), .int (5), .int (7), .int (9), .int (11), .int (13), .int (15), .int (17), .int (19)]]], .int (0), .tup [.int (0), .int (10)]], .tup [.int (0), .int (0)])
theorem m10B14_ok : chkE tb wf m10TA 16 8 m10B14 = true := by kernel_rfl
def m10B15 : Nat × List W × W := (4, [.tup [.int (2), .tup [.tup [.int (0), .int (1)], .tup [.int (0), .int (1)], .tup [.int (0), .int (1)], .tup [.int (0), .int (1)], .tup [.int (0), .int (1)], .tup [.int (0), .int (1)], .tup [.int (0), .int (1)], .tup [.int (0), .int (1)], .tup [.int (0), .int (1)], .tup [.int (0), .int (1)]], .tup [.tup [.int (0), .int (2), .int (4), .int (6), .int (8), .int (10), .int (12), .int (14), .int (16), .int (18)], .tup [.int (1), .int (3), .int (5), .int (7), .int (9), .int (11), .int (13), .int (15), .int (17), .int (19)]]], .int (0), .tup [.int (0), .int (15)]], .tup [.int (0), .int (5)])
theorem m10B15_ok : chkE tb wf m10TA 16 8 m10B15 = true := by kernel_rfl
def m10B16 : Nat × List W × W := (31, [.tup [.int (2), .tup [.tup [.int (0), .int (1)], .tup [.int (0), .int (1)], .tup [.int (0), .int (1)], .tup [.int (0), .int (1)], .tup [.int (0), .int (1)], .tup [.int (0), .int (1)], .tup [.int (0), .int (1)], .tup [.int (0), .int (1)], .tup [.int (0), .int (1)], .tup [.int (0), .int (1)]], .tup [.tup [.int (0), .int (2), .int (4), .int (6), .int (8), .int (10), .int (12), .int (14), .int (16), .int (18)], .tup [.int (1), .int (3), .int (5), .int (7), .int (9), .int (11), .int (13), .int (15), .int (17), .int (19)]]], .int (0), .tup [.int (0), .int (0)], .str "numbers"], .tup [.int (9)])
theorem m10B16_ok : chkE tb wf m10TA 16 8 m10B16 = true := by kernel_rfl
def m10B17 : Nat × List W × W := (31, [.tup [.int (2), .tup [.tup [.int (0), .int (1)], .tup [.int (0), .int (1)], .tup [.int (0), .int (1)], .tup [.int (0), .int (1)], .tup [.int (0), .int (1)], .tup [.int (0), .int (1)], .tup [.int (0), .int (1)], .tup [.int (0), .int (1)], .tup [.int (0), .int (1)], .tup [.int (0), .int (1)]], .tup [.tup [.int (0), .int (2), .int (4), .int (6), .int (8), .int (10), .int (12), .int (14), .int (16), .int (18)], .tup [.int (1), .int (3), .int (5), .int (7), .int (9), .int (11), .int (13), .int (15), .int (17), .int (19)]]], .int (0), .tup [.int (0), .int (1)], .str "numbers"], .tup [.int (8)])
theorem m10B17_ok : chkE tb wf m10TA 16 8 m10B17 = true := by kernel_rfl
def m10B18 : Nat × List W × W := (31, [.tup [.int (2), .tup [.tup [.int (0), .int (1)], .tup [.int (0), .int (1)], .tup [.int (0), .int (1)], .tup [.int (0), .int (1)], .tup [.int (0), .int (1)], .tup [.int (0), .int (1)], .tup [.int (0), .int (1)], .tup [.int (0), .int (1)], .tup [.int (0), .int (1)], .tup [.int (0), .int (1)]], .tup [.tup [.int (0), .int (2), .int (4), .int (6), .int (8), .int (10), .int (12), .int (14), .int (16), .int (18)], .tup [.int (1), .int (3), .int (5), .int (7), .int (9), .int (11), .int (13), .int (15), .int (17), .int (19)]]], .int (0), .tup [.int (0), .int (2)], .str "numbers"], .tup [.int (7)])
theorem m10B18_ok : chkE tb wf m10TA 16 8 m10B18 = true := by kernel_rfl
def m10B19 : Nat × List W × W := (31, [.tup [.int (2), .tup [.tup [.int (0), .int (1)], .tup [.int (0), .int (1)], .tup [.int (0), .int (1)], .tup [.int (0), .int (1)], .tup [.int (0), .int (1)], .tup [.int (0), .int (1)], .tup [.int (0), .int (1)], .tup [.int (0), .int (1)], .tup [.int (0), .int (1)], .tup [.int (0), .int (1)]], .tup [.tup [.int (0), .int (2), .int (4), .int (6), .int (8), .int (10), .int (12), .int (14), .int (16), .int (18)], .tup [.int (1), .int (3), .int (5), .int (7), .int (9), .int (11), .int (13), .int (15), .int (17), .int (19)]]], .int (0), .tup [.int (0), .int (3)], .str "numbers"], .tup [.int (6)])
theorem m10B19_ok : chkE tb wf m10TA 16 8 m10B19 = true := by kernel_rfl
def m10B20 : Nat × List W × W := (31, [.tup [.int (2), .tup [.tup [.int (0), .int (1)], .tup [.int (0), .int (1)], .tup [.int (0), .int (1)], .tup [.int (0), .int (1)], .tup [.int (0), .int (1)], .tup [.int (0), .int (1)], .tup [.int (0), .int (1)], .tup [.int (0), .int (1)], .tup [.int (0), .int (1)], .tup [.int (0), .int (1)]], .tup [.tup [.int (0), .int (2), .int (4), .int (6), .int (8), .int (10), .int (12), .int (14), .int (16), .int (18)], .tup [.int (1), .int (3), .int (5), .int (7), .int (9), .int (11), .int (13), .int (15), .int (17), .int (19)]]], .int (0), .tup [.int (0), .int (4)], .str "numbers"], .tup [.int (5)])
theorem m10B20_ok : chkE tb wf m10TA 16 8 m10B20 = true := by kernel_rfl
def m10B21 : Nat × List W × W := (31, [.tup [.int (2), .tup [.tup [.int (0), .int (1)], .tup [.int (0), .int (1)], .tup [.int (0), .int (1)], .tup [.int (0), .int (1)], .tup [.int (0), .int (1)], .tup [.int (0), .int (1)], .tup [.int (0), .int (1)], .tup [.int (0), .int (1)], .tup [.int (0), .int (1)], .tup [.int (0), .int (1)]], .tup [.tup [.int (0), .int (2), .int (4), .int (6), .int (8), .int (10), .int (12), .int (14), .int (16), .int (18)], .tup [.int (1), .int (3), .int (5), .int (7), .int (9), .int (11), .int (13), .int (15), .int (17), .int (19)]]], .int (0), .tup [.int (0), .int (5)], .str "numbers"], .tup [.int (4)])
theorem m10B21_ok : chkE tb wf m10TA 16 8 m10B21 = true := by kernel_rfl
def m10B22 : Nat × List W × W := (31, [.tup [.int (2), .tup [.tup [.int (0), .int (1)], .tup [.int (0), .int (1)], .tup [.int (0), .int (1)], .tup [.int (0), .int (1)], .tup [.int (0), .int (1)], .tup [.int (0), .int (1)], .tup [.int (0), .int (1)], .tup [.int (0), .int (1)], .tup [.int (0), .int (1)], .tup [.int (0), .int (1)]], .tup [.tup [.int (0), .int (2), .int (4), .int (6), .int (8), .int (10), .int (12), .int (14), .int (16), .int (18)], .tup [.int (1), .int (3), .int (5), .int (7), .int (9), .int (11), .int (13), .int (15), .int (17), .int (19)]]], .int (0), .tup [.int (0), .int (6)], .str "numbers"], .tup [.int (3)])
theorem m10B22_ok : chkE tb wf m10TA 16 8 m10B22 = true := by kernel_rfl
def m10B23 : Nat × List W × W := (31, [.tup [.int (2), .tup [.tup [.int (0), .int (1)], .tup [.int (0), .int (1)], .tup [.int (0), .int (1)], .tup [.int (0), .int (1)], .tup [.int (0), .int (1)], .tup [.int (0), .int (1)], .tup [.int (0), .int (1)], .tup [.int (0), .int (1)], .tup [.int (0), .int (1)], .tup [.int (0), .int (1)]], .tup [.tup [.int (0), .int (2), .int (4), .int (6), .int (8), .int (10), .int (12), .int (14), .int (16), .int (18)], .tup [.int (1), .int (3), .int (5), .int (7), .int (9), .int (11), .int (13), .int (15), .int (17), .int (19)]]], .int (0), .tup [.int (0), .int (7)], .str "numbers"], .tup [.int (2)])
theorem m10B23_ok : chkE tb wf m10TA 16 8 m10B23 = true := by kernel_rfl
def m10B24 : Nat × List W × W := (31, [.tup [.int (2), .tup [.tup [.int (0), .int (1)], .tup [.int (0), .int (1)], .tup [.int (0), .int (1)], .tup [.int (0), .int (1)], .tup [.int (0), .int (1)], .tup [.int (0), .int (1)], .tup [.int (0), .int (1)], .tup [.int (0), .int (1)], .tup [.int (0), .int (1)], .tup [.int (0), .int (1)]], .tup [.tup [.int (0), .int (2), .int (4), .int (6), .int (8), .int (10), .int (12), .int (14), .int (16), .int (18)], .tup [.int (1), .int (3), .int (5), .int (7), .int (9), .int (11), .int (13), .int (15), .int (17), .int (19)]]], .int (0), .tup [.int (0), .int (8)], .str "numbers"], .tup [.int (1)])
theorem m10B24_ok : chkE tb wf m10TA 16 8 m10B24 = true := by kernel_rfl
def m10B25 : Nat × List W × W := (31, [.tup [.int (2), .tup [.tup [.int (0), .int (1)], .tup [.int (0), .int (1)], .tup [.int (0), .int (1)], .tup [.int (0), .int (1)], .tup [.int (0), .int (1)], .tup [.int (0), .int (1)], .tup [.int (0), .int (1)], .tup [.int (0), .int (1)], .tup [.int (0), .int (1)], .tup [.int (0), .int (1)]], .tup [.tup [.int (0), .int (2), .int (4), .int (6), .int (8), .int (10), .int (12), .int (14), .int (16), .int (18)], .tup [.int (1), .int (3), .int (5), .int (7), .int (9), .int (11), .int (13), .int (15), .int (17), .int (19)]]], .int (0), .tup [.int (0), .int (9)], .str "numbers"], .tup [.int (0)])
theorem m10B25_ok : chkE tb wf m10TA 16 8 m10B25 = true := by kernel_rfl
def m10B26 : Nat × List W × W := (37, [.tup [.int (2), .tup [.tup [.int (0), .int (1)], .tup [.int (0), .int (1)], .tup [.int (0), .int (1)], .tup [.int (0), .int (1)], .tup [.int (0), .int (1)], .tup [.int (0), .int (1)], .tup [.int (0), .int (1)], .tup [.int (0), .int (1)], .tup [.int (0), .int (1)], .tup [.int (0), .int (1)]], .tup [.tup [.int (0), .int (2), .int (4), .int (6), .int (8), .int (10), .int (12), .int (14), .int (16), .int (18)], .tup [.int (1), .int (3), .int (5), .int (7), .int (9), .int (11), .int (13), .int (15), .int (17), .int (19)]]], .int (0), .tup [.int (0), .int (0)]], .tup [.int (0), .int (0)])
theorem m10B26_ok : chkE tb wf m10TA 16 8 m10B26 = true := by kernel_rfl
def m10B27 : Nat × List W × W := (37, [.tup [.int (2), .tup [.tup [.int (0), .int (1)], .tup [.int (0), .int (1)], .tup [.int (0), .int (1)], .tup [.int (0), .int (1)], .tup [.int (0), .int (1)], .tup [.int (0), .int (1)], .tup [.int (0), .int (1)], .tup [.int (0), .int (1)], .tup [.int (0), .int (1)], .tup [.int (0), .int (1)]], .tup [.tup [.int (0), .int (2), .int (4), .int (6), .int (8), .int (10), .int (12), .int (14), .int (16), .int (18)], .tup [.int (1), .int (3), .int (5), .int (7), .int (9), .int (11), .int (13), .int (15), .int (17), .int (19)]]], .int (0), .tup [.int (5), .int (-5)]], .tup [.int (0), .int (5)])
theorem m10B27_ok : chkE tb wf m10TA 16 8 m10B27 = true := by kernel_rfl
def m10B28 : Nat × List W × W := (40, [.tup [.int (2), .tup [.tup [.int (0), .int (1)], .tup [.int (0), .int (1)], .tup [.int (0), .int (1)], .tup [.int (0), .int (1)], .tup [.int (0), .int (1)], .tup [.int (0), .int (1)], .tup [.int (0), .int (1)], .tup [.int (0), .int (1)], .tup [.int (0), .int (1)], .tup [.int (0), .int (1)]], .tup [.tup [.int (0), .int (2), .int (4), .int (6), .int (8), .int (10), .int (12), .int (14), .int (16), .int (18)], .tup [.int (1), .int (3), .int (5), .int (7), .int (9), .int (11), .int (13), .int (15), .int (17), .int (19)]]], .int (0), .tup [.int (0), .int (9)], .tup [.int (0), .int (1)]], .tup [.int (0), .int (0)])
theorem m10B28_ok : chkE tb wf m10TA 16 8 m10B28 = true := by kernel_rfl
def m10B29 : Nat × List W × W := (6, [.tup [.int (2), .tup [.tup [.int (0), .int (1)], .tup [.int (0), .int (1)], .tup [.int (0), .int (1)], .tup [.int (0), .int (1)], .tup [.int (0), .int (1)], .tup [.int (0), .int (1)], .tup [.int (0), .int (1)], .tup [.int (0), .int (1)], .tup [.int (0), .int (1)], .tup [.int (0), .int (1)]], .tup [.tup [.int (0), .int (2), .int (4), .int (6), .int (8), .int (10), .int (12), .int (14), .int (16), .int (18)], .tup [.int (1), .int (3), .int (5), .int (7), .int (9), .int (11), .int (13), .int (15), .int (17), .int (19)]]], .int (0), .tup [.int (0), .int (71)]], .int (70))
theorem m10B29_ok : chkE tb wf m10TA 16 8 m10B29 = true := by kernel_rfl
def m10TB : List (Nat × List W × W) := m10B0 :: m10B1 :: m10B2 :: m10B3 :: m10B4 :: m10B5 :: m10B6 :: m10B7 :: m10B8 :: m10B9 :: m10B10 :: m10B11 :: m10B12 :: m10B13 :: m10B14 :: m10B15 :: m10B16 :: m10B17 :: m10B18 :: m10B19 :: m10B20 :: m10B21 :: m10B22 :: m10B23 :: m10B24 :: m10B25 :: m10B26 :: m10B27 :: m10B28 :: m10B29 :: m10TA
theorem m10TB_ok : Val tb wf m10TB 25 := Val.put (k := 8) rfl m10TA_ok m10B0_ok (Val.put (k := 8) rfl m10TA_ok m10B1_ok (Val.put (k := 8) rfl m10TA_ok m10B2_ok (Val.put (k := 8) rfl m10TA_ok m10B3_ok (Val.put (k := 8) rfl m10TA_ok m10B4_ok (Val.put (k := 8) rfl m10TA_ok m10B5_ok (Val.put (k := 8) rfl m10TA_ok m10B6_ok (Val.put (k := 8) rfl m10TA_ok m10B7_ok (Val.put (k := 8) rfl m10TA_ok m10B8_ok (Val.put (k := 8) rfl m10TA_ok m10B9_ok (Val.put (k := 8) rfl m10TA_ok m10B10_ok (Val.put (k := 8) rfl m10TA_ok m10B11_ok (Val.put (k := 8) rfl m10TA_ok m10B12_ok (Val.put (k := 8) rfl m10TA_ok m10B13_ok (Val.put (k := 8) rfl m10TA_ok m10B14_ok (Val.put (k := 8) rfl m10TA_ok m10B15_ok (Val.put (k := 8) rfl m10TA_ok m10B16_ok (Val.put (k := 8) rfl m10TA_ok m10B17_ok (Val.put (k := 8) rfl m10TA_ok m10B18_ok (Val.put (k := 8) rfl m10TA_ok m10B19_ok (Val.put (k := 8) rfl m10TA_ok m10B20_ok (Val.put (k := 8) rfl m10TA_ok m10B21_ok (Val.put (k := 8) rfl m10TA_ok m10B22_ok (Val.put (k := 8) rfl m10TA_ok m10B23_ok (Val.put (k := 8) rfl m10TA_ok m10B24_ok (Val.put (k := 8) rfl m10TA_ok m10B25_ok (Val.put (k := 8) rfl m10TA_ok m10B26_ok (Val.put (k := 8) rfl m10TA_ok m10B27_ok (Val.put (k := 8) rfl m10TA_ok m10B28_ok (Val.put (k := 8) rfl m10TA_ok m10B29_ok (m10TA_ok.add 9))))))))))))))))))))))))))))))
theorem m10O : isT1 (runF (callO tb wf m10TB 25 4) wf f__law_many_right [.int 10] Hw.nil) = true := by kernel_rfl
theorem m10 : isT1 (mr 10) = true := by
  obtain ⟨g, e⟩ := isT1_ok m10O
  rw [show mr 10 = _ from (leF (callO_le m10TB_ok 4) wf f__law_many_right [.int 10] Hw.nil).ok e]
  rfl
def m11A0 : Nat × List W × W := (1, [.tup [.int (2), .tup [.tup [.int (0), .int (1)], .tup [.int (0), .int (1)], .tup [.int (0), .int (1)], .tup [.int (0), .int (1)], .tup [.int (0), .int (1)], .tup [.int (0), .int (1)], .tup [.int (0), .int (1)], .tup [.int (0), .int (1)], .tup [.int (0), .int (1)], .tup [.int (0), .int (1)], .tup [.int (0), .int (1)]], .tup [.tup [.int (0), .int (2), .int (4), .int (6), .int (8), .int (10), .int (12), .int (14), .int (16), .int (18), .int (20)], .tup [.int (1), .int (3), .int (5), .int (7), .int (9), .int (11), .int (13), .int (15), .int (17), .int (19), .int (21)]]]], .tup [.int (11), .int (11)])
theorem m11A0_ok : chkE tb wf [] 15 0 m11A0 = true := by kernel_rfl
def m11A1 : Nat × List W × W := (22, [.tup [.int (2), .tup [.tup [.int (0), .int (1)], .tup [.int (0), .int (1)], .tup [.int (0), .int (1)], .tup [.int (0), .int (1)], .tup [.int (0), .int (1)], .tup [.int (0), .int (1)], .tup [.int (0), .int (1)], .tup [.int (0), .int (1)], .tup [.int (0), .int (1)], .tup [.int (0), .int (1)], .tup [.int (0), .int (1)]], .tup [.tup [.int (0), .int (2), .int (4), .int (6), .int (8), .int (10), .int (12), .int (14), .int (16), .int (18), .int (20)], .tup [.int (1), .int (3), .int (5), .int (7), .int (9), .int (11), .int (13), .int (15), .int (17), .int (19), .int (21)]]], .tup [.int (0)]], .bl true)
theorem m11A1_ok : chkE tb wf [] 15 0 m11A1 = true := by kernel_rfl
def m11A2 : Nat × List W × W := (22, [.tup [.int (2), .tup [.tup [.int (0), .int (1)], .tup [.int (0), .int (1)], .tup [.int (0), .int (1)], .tup [.int (0), .int (1)], .tup [.int (0), .int (1)], .tup [.int (0), .int (1)], .tup [.int (0), .int (1)], .tup [.int (0), .int (1)], .tup [.int (0), .int (1)], .tup [.int (0), .int (1)], .tup [.int (0), .int (1)]], .tup [.tup [.int (0), .int (2), .int (4), .int (6), .int (8), .int (10), .int (12), .int (14), .int (16), .int (18), .int (20)], .tup [.int (1), .int (3), .int (5), .int (7), .int (9), .int (11), .int (13), .int (15), .int (17), .int (19), .int (21)]]], .tup [.int (1)]], .bl true)
theorem m11A2_ok : chkE tb wf [] 15 0 m11A2 = true := by kernel_rfl
def m11A3 : Nat × List W × W := (22, [.tup [.int (2), .tup [.tup [.int (0), .int (1)], .tup [.int (0), .int (1)], .tup [.int (0), .int (1)], .tup [.int (0), .int (1)], .tup [.int (0), .int (1)], .tup [.int (0), .int (1)], .tup [.int (0), .int (1)], .tup [.int (0), .int (1)], .tup [.int (0), .int (1)], .tup [.int (0), .int (1)], .tup [.int (0), .int (1)]], .tup [.tup [.int (0), .int (2), .int (4), .int (6), .int (8), .int (10), .int (12), .int (14), .int (16), .int (18), .int (20)], .tup [.int (1), .int (3), .int (5), .int (7), .int (9), .int (11), .int (13), .int (15), .int (17), .int (19), .int (21)]]], .tup [.int (2)]], .bl true)
theorem m11A3_ok : chkE tb wf [] 15 0 m11A3 = true := by kernel_rfl
def m11A4 : Nat × List W × W := (22, [.tup [.int (2), .tup [.tup [.int (0), .int (1)], .tup [.int (0), .int (1)], .tup [.int (0), .int (1)], .tup [.int (0), .int (1)], .tup [.int (0), .int (1)], .tup [.int (0), .int (1)], .tup [.int (0), .int (1)], .tup [.int (0), .int (1)], .tup [.int (0), .int (1)], .tup [.int (0), .int (1)], .tup [.int (0), .int (1)]], .tup [.tup [.int (0), .int (2), .int (4), .int (6), .int (8), .int (10), .int (12), .int (14), .int (16), .int (18), .int (20)], .tup [.int (1), .int (3), .int (5), .int (7), .int (9), .int (11), .int (13), .int (15), .int (17), .int (19), .int (21)]]], .tup [.int (3)]], .bl true)
theorem m11A4_ok : chkE tb wf [] 15 0 m11A4 = true := by kernel_rfl
def m11A5 : Nat × List W × W := (22, [.tup [.int (2), .tup [.tup [.int (0), .int (1)], .tup [.int (0), .int (1)], .tup [.int (0), .int (1)], .tup [.int (0), .int (1)], .tup [.int (0), .int (1)], .tup [.int (0), .int (1)], .tup [.int (0), .int (1)], .tup [.int (0), .int (1)], .tup [.int (0), .int (1)], .tup [.int (0), .int (1)], .tup [.int (0), .int (1)]], .tup [.tup [.int (0), .int (2), .int (4), .int (6), .int (8), .int (10), .int (12), .int (14), .int (16), .int (18), .int (20)], .tup [.int (1), .int (3), .int (5), .int (7), .int (9), .int (11), .int (13), .int (15), .int (17), .int (19), .int (21)]]], .tup [.int (4)]], .bl true)
theorem m11A5_ok : chkE tb wf [] 15 0 m11A5 = true := by kernel_rfl
def m11A6 : Nat × List W × W := (22, [.tup [.int (2), .tup [.tup [.int (0), .int (1)], .tup [.int (0), .int (1)], .tup [.int (0), .int (1)], .tup [.int (0), .int (1)], .tup [.int (0), .int (1)], .tup [.int (0), .int (1)], .tup [.int (0), .int (1)], .tup [.int (0), .int (1)], .tup [.int (0), .int (1)], .tup [.int (0), .int (1)], .tup [.int (0), .int (1)]], .tup [.tup [.int (0), .int (2), .int (4), .int (6), .int (8), .int (10), .int (12), .int (14), .int (16), .int (18), .int (20)], .tup [.int (1), .int (3), .int (5), .int (7), .int (9), .int (11), .int (13), .int (15), .int (17), .int (19), .int (21)]]], .tup [.int (5)]], .bl true)
theorem m11A6_ok : chkE tb wf [] 15 0 m11A6 = true := by kernel_rfl
def m11A7 : Nat × List W × W := (22, [.tup [.int (2), .tup [.tup [.int (0), .int (1)], .tup [.int (0), .int (1)], .tup [.int (0), .int (1)], .tup [.int (0), .int (1)], .tup [.int (0), .int (1)], .tup [.int (0), .int (1)], .tup [.int (0), .int (1)], .tup [.int (0), .int (1)], .tup [.int (0), .int (1)], .tup [.int (0), .int (1)], .tup [.int (0), .int (1)]], .tup [.tup [.int (0), .int (2), .int (4), .int (6), .int (8), .int (10), .int (12), .int (14), .int (16), .int (18), .int (20)], .tup [.int (1), .int (3), .int (5), .int (7), .int (9), .int (11), .int (13), .int (15), .int (17), .int (19), .int (21)]]], .tup [.int (6)]], .bl true)
theorem m11A7_ok : chkE tb wf [] 15 0 m11A7 = true := by kernel_rfl
def m11A8 : Nat × List W × W := (22, [.tup [.int (2), .tup [.tup [.int (0), .int (1)], .tup [.int (0), .int (1)], .tup [.int (0), .int (1)], .tup [.int (0), .int (1)], .tup [.int (0), .int (1)], .tup [.int (0), .int (1)], .tup [.int (0), .int (1)], .tup [.int (0), .int (1)], .tup [.int (0), .int (1)], .tup [.int (0), .int (1)], .tup [.int (0), .int (1)]], .tup [.tup [.int (0), .int (2), .int (4), .int (6), .int (8), .int (10), .int (12), .int (14), .int (16), .int (18), .int (20)], .tup [.int (1), .int (3), .int (5), .int (7), .int (9), .int (11), .int (13), .int (15), .int (17), .int (19), .int (21)]]], .tup [.int (7)]], .bl true)
theorem m11A8_ok : chkE tb wf [] 15 0 m11A8 = true := by kernel_rfl
def m11A9 : Nat × List W × W := (22, [.tup [.int (2), .tup [.tup [.int (0), .int (1)], .tup [.int (0), .int (1)], .tup [.int (0), .int (1)], .tup [.int (0), .int (1)], .tup [.int (0), .int (1)], .tup [.int (0), .int (1)], .tup [.int (0), .int (1)], .tup [.int (0), .int (1)], .tup [.int (0), .int (1)], .tup [.int (0), .int (1)], .tup [.int (0), .int (1)]], .tup [.tup [.int (0), .int (2), .int (4), .int (6), .int (8), .int (10), .int (12), .int (14), .int (16), .int (18), .int (20)], .tup [.int (1), .int (3), .int (5), .int (7), .int (9), .int (11), .int (13), .int (15), .int (17), .int (19), .int (21)]]], .tup [.int (8)]], .bl true)
theorem m11A9_ok : chkE tb wf [] 15 0 m11A9 = true := by kernel_rfl
def m11A10 : Nat × List W × W := (22, [.tup [.int (2), .tup [.tup [.int (0), .int (1)], .tup [.int (0), .int (1)], .tup [.int (0), .int (1)], .tup [.int (0), .int (1)], .tup [.int (0), .int (1)], .tup [.int (0), .int (1)], .tup [.int (0), .int (1)], .tup [.int (0), .int (1)], .tup [.int (0), .int (1)], .tup [.int (0), .int (1)], .tup [.int (0), .int (1)]], .tup [.tup [.int (0), .int (2), .int (4), .int (6), .int (8), .int (10), .int (12), .int (14), .int (16), .int (18), .int (20)], .tup [.int (1), .int (3), .int (5), .int (7), .int (9), .int (11), .int (13), .int (15), .int (17), .int (19), .int (21)]]], .tup [.int (9)]], .bl true)
theorem m11A10_ok : chkE tb wf [] 15 0 m11A10 = true := by kernel_rfl
def m11A11 : Nat × List W × W := (22, [.tup [.int (2), .tup [.tup [.int (0), .int (1)], .tup [.int (0), .int (1)], .tup [.int (0), .int (1)], .tup [.int (0), .int (1)], .tup [.int (0), .int (1)], .tup [.int (0), .int (1)], .tup [.int (0), .int (1)], .tup [.int (0), .int (1)], .tup [.int (0), .int (1)], .tup [.int (0), .int (1)], .tup [.int (0), .int (1)]], .tup [.tup [.int (0), .int (2), .int (4), .int (6), .int (8), .int (10), .int (12), .int (14), .int (16), .int (18), .int (20)], .tup [.int (1), .int (3), .int (5), .int (7), .int (9), .int (11), .int (13), .int (15), .int (17), .int (19), .int (21)]]], .tup [.int (10)]], .bl true)
theorem m11A11_ok : chkE tb wf [] 15 0 m11A11 = true := by kernel_rfl
def m11A12 : Nat × List W × W := (3, [.tup [.int (2), .tup [.tup [.int (0), .int (1)], .tup [.int (0), .int (1)], .tup [.int (0), .int (1)], .tup [.int (0), .int (1)], .tup [.int (0), .int (1)], .tup [.int (0), .int (1)], .tup [.int (0), .int (1)], .tup [.int (0), .int (1)], .tup [.int (0), .int (1)], .tup [.int (0), .int (1)], .tup [.int (0), .int (1)]], .tup [.tup [.int (0), .int (2), .int (4), .int (6), .int (8), .int (10), .int (12), .int (14), .int (16), .int (18), .int (20)], .tup [.int (1), .int (3), .int (5), .int (7), .int (9), .int (11), .int (13), .int (15), .int (17), .int (19), .int (21)]]], .int (0), .tup [.int (0), .int (22)]], .tup [.tup [.int (0), .int (0)], .tup [.int (0), .int (2)]])
theorem m11A12_ok : chkE tb wf [] 15 0 m11A12 = true := by kernel_rfl
def m11A13 : Nat × List W × W := (3, [.tup [.int (2), .tup [.tup [.int (0), .int (1)], .tup [.int (0), .int (1)], .tup [.int (0), .int (1)], .tup [.int (0), .int (1)], .tup [.int (0), .int (1)], .tup [.int (0), .int (1)], .tup [.int (0), .int (1)], .tup [.int (0), .int (1)], .tup [.int (0), .int (1)], .tup [.int (0), .int (1)], .tup [.int (0), .int (1)]], .tup [.tup [.int (0), .int (2), .int (4), .int (6), .int (8), .int (10), .int (12), .int (14), .int (16), .int (18), .int (20)], .tup [.int (1), .int (3), .int (5), .int (7), .int (9), .int (11), .int (13), .int (15), .int (17), .int (19), .int (21)]]], .int (0), .tup [.int (0), .int (78)]], .tup [.tup [.int (0), .int (1)], .tup [.int (0), .int (7)]])
theorem m11A13_ok : chkE tb wf [] 15 0 m11A13 = true := by kernel_rfl
def m11A14 : Nat × List W × W := (3, [.tup [.int (2), .tup [.tup [.int (0), .int (1)], .tup [.int (0), .int (1)], .tup [.int (0), .int (1)], .tup [.int (0), .int (1)], .tup [.int (0), .int (1)], .tup [.int (0), .int (1)], .tup [.int (0), .int (1)], .tup [.int (0), .int (1)], .tup [.int (0), .int (1)], .tup [.int (0), .int (1)], .tup [.int (0), .int (1)]], .tup [.tup [.int (0), .int (2), .int (4), .int (6), .int (8), .int (10), .int (12), .int (14), .int (16), .int (18), .int (20)], .tup [.int (1), .int (3), .int (5), .int (7), .int (9), .int (11), .int (13), .int (15), .int (17), .int (19), .int (21)]]], .int (0), .tup [.int (0), .int (11)]], .tup [.tup [.int (0), .int (0)], .tup [.int (0), .int (1)]])
theorem m11A14_ok : chkE tb wf [] 15 0 m11A14 = true := by kernel_rfl
def m11A15 : Nat × List W × W := (3, [.tup [.int (2), .tup [.tup [.int (0), .int (1)], .tup [.int (0), .int (1)], .tup [.int (0), .int (1)], .tup [.int (0), .int (1)], .tup [.int (0), .int (1)], .tup [.int (0), .int (1)], .tup [.int (0), .int (1)], .tup [.int (0), .int (1)], .tup [.int (0), .int (1)], .tup [.int (0), .int (1)], .tup [.int (0), .int (1)]], .tup [.tup [.int (0), .int (2), .int (4), .int (6), .int (8), .int (10), .int (12), .int (14), .int (16), .int (18), .int (20)], .tup [.int (1), .int (3), .int (5), .int (7), .int (9), .int (11), .int (13), .int (15), .int (17), .int (19), .int (21)]]], .int (0), .tup [.int (0), .int (17)]], .tup [.tup [.int (0), .int (6)], .tup [.int (0), .int (1)]])
theorem m11A15_ok : chkE tb wf [] 15 0 m11A15 = true := by kernel_rfl
def m11A16 : Nat × List W × W := (35, [.tup [.int (2), .tup [.tup [.int (0), .int (1)], .tup [.int (0), .int (1)], .tup [.int (0), .int (1)], .tup [.int (0), .int (1)], .tup [.int (0), .int (1)], .tup [.int (0), .int (1)], .tup [.int (0), .int (1)], .tup [.int (0), .int (1)], .tup [.int (0), .int (1)], .tup [.int (0), .int (1)], .tup [.int (0), .int (1)]], .tup [.tup [.int (0), .int (2), .int (4), .int (6), .int (8), .int (10), .int (12), .int (14), .int (16), .int (18), .int (20)], .tup [.int (1), .int (3), .int (5), .int (7), .int (9), .int (11), .int (13), .int (15), .int (17), .int (19), .int (21)]]], .tup [.int (0)]], .tup [.int (1), .int (2), .int (3), .int (4), .int (5), .int (6), .int (7), .int (8), .int (9), .int (10)])
theorem m11A16_ok : chkE tb wf [] 15 0 m11A16 = true := by kernel_rfl
def m11A17 : Nat × List W × W := (35, [.tup [.int (2), .tup [.tup [.int (0), .int (1)], .tup [.int (0), .int (1)], .tup [.int (0), .int (1)], .tup [.int (0), .int (1)], .tup [.int (0), .int (1)], .tup [.int (0), .int (1)], .tup [.int (0), .int (1)], .tup [.int (0), .int (1)], .tup [.int (0), .int (1)], .tup [.int (0), .int (1)], .tup [.int (0), .int (1)]], .tup [.tup [.int (0), .int (2), .int (4), .int (6), .int (8), .int (10), .int (12), .int (14), .int (16), .int (18), .int (20)], .tup [.int (1), .int (3), .int (5), .int (7), .int (9), .int (11), .int (13), .int (15), .int (17), .int (19), .int (21)]]], .tup [.int (1)]], .tup [.int (2), .int (3), .int (4), .int (5), .int (6), .int (7), .int (8), .int (9), .int (10)])
theorem m11A17_ok : chkE tb wf [] 15 0 m11A17 = true := by kernel_rfl
def m11A18 : Nat × List W × W := (35, [.tup [.int (2), .tup [.tup [.int (0), .int (1)], .tup [.int (0), .int (1)], .tup [.int (0), .int (1)], .tup [.int (0), .int (1)], .tup [.int (0), .int (1)], .tup [.int (0), .int (1)], .tup [.int (0), .int (1)], .tup [.int (0), .int (1)], .tup [.int (0), .int (1)], .tup [.int (0), .int (1)], .tup [.int (0), .int (1)]], .tup [.tup [.int (0), .int (2), .int (4), .int (6), .int (8), .int (10), .int (12), .int (14), .int (16), .int (18), .int (20)], .tup [.int (1), .int (3), .int (5), .int (7), .int (9), .int (11), .int (13), .int (15), .int (17), .int (19), .int (21)]]], .tup [.int (2)]], .tup [.int (3), .int (4), .int (5), .int (6), .int (7), .int (8), .int (9), .int (10)])
theorem m11A18_ok : chkE tb wf [] 15 0 m11A18 = true := by kernel_rfl
def m11A19 : Nat × List W × W := (35, [.tup [.int (2), .tup [.tup [.int (0), .int (1)], .tup [.int (0), .int (1)], .tup [.int (0), .int (1)], .tup [.int (0), .int (1)], .tup [.int (0), .int (1)], .tup [.int (0), .int (1)], .tup [.int (0), .int (1)], .tup [.int (0), .int (1)], .tup [.int (0), .int (1)], .tup [.int (0), .int (1)], .tup [.int (0), .int (1)]], .tup [.tup [.int (0), .int (2), .int (4), .int (6), .int (8), .int (10), .int (12), .int (14), .int (16), .int (18), .int (20)], .tup [.int (1), .int (3), .int (5), .int (7), .int (9), .int (11), .int (13), .int (15), .int (17), .int (19), .int (21)]]], .tup [.int (3)]], .tup [.int (4), .int (5), .int (6), .int (7), .int (8), .int (9), .int (10)])
theorem m11A19_ok : chkE tb wf [] 15 0 m11A19 = true := by kernel_rfl
def m11A20 : Nat × List W × W := (35, [.tup [.int (2), .tup [.tup [.int (0), .int (1)], .tup [.int (0), .int (1)], .tup [.int (0), .int (1)], .tup [.int (0), .int (1)], .tup [.int (0), .int (1)], .tup [.int (0), .int (1)], .tup [.int (0), .int (1)], .tup [.int (0), .int (1)], .tup [.int (0), .int (1)], .tup [.int (0), .int (1)], .tup [.int (0), .int (1)]], .tup [.tup [.int (0), .int (2), .int (4), .int (6), .int (8), .int (10), .int (12), .int (14), .int (16), .int (18), .int (20)], .tup [.int (1), .int (3), .int (5), .int (7), .int (9), .int (11), .int (13), .int (15), .int (17), .int (19), .int (21)]]], .tup [.int (4)]], .tup [.int (5), .int (6), .int (7), .int (8), .int (9), .int (10)])
theorem m11A20_ok : chkE tb wf [] 15 0 m11A20 = true := by kernel_rfl
def m11A21 : Nat × List W × W := (35, [.tup [.int (2), .tup [.tup [.int (0), .int (1)], .tup [.int (0), .int (1)], .tup [.int (0), .int (1)], .tup [.int (0), .int (1)], .tup [.int (0), .int (1)], .tup [.int (0), .int (1)], .tup [.int (0), .int (1)], .tup [.int (0), .int (1)], .tup [.int (0), .int (1)], .tup [.int (0), .int (1)], .tup [.int (0), .int (1)]], .tup [.tup [.int (0), .int (2), .int (4), .int (6), .int (8), .int (10), .int (12), .int (14), .int (16), .int (18), .int (20)], .tup [.int (1), .int (3), .int (5), .int (7), .int (9), .int (11), .int (13), .int (15), .int (17), .int (19), .int (21)]]], .tup [.int (5)]], .tup [.int (6), .int (7), .int (8), .int (9), .int (10)])
theorem m11A21_ok : chkE tb wf [] 15 0 m11A21 = true := by kernel_rfl
def m11A22 : Nat × List W × W := (35, [.tup [.int (2), .tup [.tup [.int (0), .int (1)], .tup [.int (0), .int (1)], .tup [.int (0), .int (1)], .tup [.int (0), .int (1)], .tup [.int (0), .int (1)], .tup [.int (0), .int (1)], .tup [.int (0), .int (1)], .tup [.int (0), .int (1)], .tup [.int (0), .int (1)], .tup [.int (0), .int (1)], .tup [.int (0), .int (1)]], .tup [.tup [.int (0), .int (2), .int (4), .int (6), .int (8), .int (10), .int (12), .int (14), .int (16), .int (18), .int (20)], .tup [.int (1), .int (3), .int (5), .int (7), .int (9), .int (11), .int (13), .int (15), .int (17), .int (19), .int (21)]]], .tup [.int (6)]], .tup [.int (7), .int (8), .int (9), .int (10)])
theorem m11A22_ok : chkE tb wf [] 15 0 m11A22 = true := by kernel_rfl
def m11A23 : Nat × List W × W := (35, [.tup [.int (2), .tup [.tup [.int (0), .int (1)], .tup [.int (0), .int (1)], .tup [.int (0), .int (1)], .tup [.int (0), .int (1)], .tup [.int (0), .int (1)], .tup [.int (0), .int (1)], .tup [.int (0), .int (1)], .tup [.int (0), .int (1)], .tup [.int (0), .int (1)], .tup [.int (0), .int (1)], .tup [.int (0), .int (1)]], .tup [.tup [.int (0), .int (2), .int (4), .int (6), .int (8), .int (10), .int (12), .int (14), .int (16), .int (18), .int (20)], .tup [.int (1), .int (3), .int (5), .int (7), .int (9), .int (11), .int (13), .int (15), .int (17), .int (19), .int (21)]]], .tup [.int (7)]], .tup [.int (8), .int (9), .int (10)])
theorem m11A23_ok : chkE tb wf [] 15 0 m11A23 = true := by kernel_rfl
def m11A24 : Nat × List W × W := (35, [.tup [.int (2), .tup [.tup [.int (0), .int (1)], .tup [.int (0), .int (1)], .tup [.int (0), .int (1)], .tup [.int (0), .int (1)], .tup [.int (0), .int (1)], .tup [.int (0), .int (1)], .tup [.int (0), .int (1)], .tup [.int (0), .int (1)], .tup [.int (0), .int (1)], .tup [.int (0), .int (1)], .tup [.int (0), .int (1)]], .tup [.tup [.int (0), .int (2), .int (4), .int (6), .int (8), .int (10), .int (12), .int (14), .int (16), .int (18), .int (20)], .tup [.int (1), .int (3), .int (5), .int (7), .int (9), .int (11), .int (13), .int (15), .int (17), .int (19), .int (21)]]], .tup [.int (8)]], .tup [.int (9), .int (10)])
theorem m11A24_ok : chkE tb wf [] 15 0 m11A24 = true := by kernel_rfl
def m11A25 : Nat × List W × W := (35, [.tup [.int (2), .tup [.tup [.int (0), .int (1)], .tup [.int (0), .int (1)], .tup [.int (0), .int (1)], .tup [.int (0), .int (1)], .tup [.int (0), .int (1)], .tup [.int (0), .int (1)], .tup [.int (0), .int (1)], .tup [.int (0), .int (1)], .tup [.int (0), .int (1)], .tup [.int (0), .int (1)], .tup [.int (0), .int (1)]], .tup [.tup [.int (0), .int (2), .int (4), .int (6), .int (8), .int (10), .int (12), .int (14), .int (16), .int (18), .int (20)], .tup [.int (1), .int (3), .int (5), .int (7), .int (9), .int (11), .int (13), .int (15), .int (17), .int (19), .int (21)]]], .tup [.int (9)]], .tup [.int (10)])
theorem m11A25_ok : chkE tb wf [] 15 0 m11A25 = true := by kernel_rfl
def m11A26 : Nat × List W × W := (35, [.tup [.int (2), .tup [.tup [.int (0), .int (1)], .tup [.int (0), .int (1)], .tup [.int (0), .int (1)], .tup [.int (0), .int (1)], .tup [.int (0), .int (1)], .tup [.int (0), .int (1)], .tup [.int (0), .int (1)], .tup [.int (0), .int (1)], .tup [.int (0), .int (1)], .tup [.int (0), .int (1)], .tup [.int (0), .int (1)]], .tup [.tup [.int (0), .int (2), .int (4), .int (6), .int (8), .int (10), .int (12), .int (14), .int (16), .int (18), .int (20)], .tup [.int (1), .int (3), .int (5), .int (7), .int (9), .int (11), .int (13), .int (15), .int (17), .int (19), .int (21)]]], .tup [.int (10)]], .tup [])
theorem m11A26_ok : chkE tb wf [] 15 0 m11A26 = true := by kernel_rfl
def m11A27 : Nat × List W × W := (11, [.tup [.int (2), .tup [.tup [.int (0), .int (1)], .tup [.int (0), .int (1)], .tup [.int (0), .int (1)], .tup [.int (0), .int (1)], .tup [.int (0), .int (1)], .tup [.int (0), .int (1)], .tup [.int (0), .int (1)], .tup [.int (0), .int (1)], .tup [.int (0), .int (1)], .tup [.int (0), .int (1)], .tup [.int (0), .int (1)]], .tup [.tup [.int (0), .int (2), .int (4), .int (6), .int (8), .int (10), .int (12), .int (14), .int (16), .int (18), .int (20)], .tup [.int (1), .int (3), .int (5), .int (7), .int (9), .int (11), .int (13), .int (15), .int (17), .int (19), .int (21)]]], .int (0), .tup [.int (0), .int (0)]], .bl true)
theorem m11A27_ok : chkE tb wf [] 15 0 m11A27 = true := by kernel_rfl
def m11A28 : Nat × List W × W := (11, [.tup [.int (2), .tup [.tup [.int (0), .int (1)], .tup [.int (0), .int (1)], .tup [.int (0), .int (1)], .tup [.int (0), .int (1)], .tup [.int (0), .int (1)], .tup [.int (0), .int (1)], .tup [.int (0), .int (1)], .tup [.int (0), .int (1)], .tup [.int (0), .int (1)], .tup [.int (0), .int (1)], .tup [.int (0), .int (1)]], .tup [.tup [.int (0), .int (2), .int (4), .int (6), .int (8), .int (10), .int (12), .int (14), .int (16), .int (18), .int (20)], .tup [.int (1), .int (3), .int (5), .int (7), .int (9), .int (11), .int (13), .int (15), .int (17), .int (19), .int (21)]]], .int (0), .tup [.int (0), .int (1)]], .bl true)
theorem m11A28_ok : chkE tb wf [] 15 0 m11A28 = true := by kernel_rfl
def m11A29 : Nat × List W × W := (11, [.tup [.int (2), .tup [.tup [.int (0), .int (1)], .tup [.int (0), .int (1)], .tup [.int (0), .int (1)], .tup [.int (0), .int (1)], .tup [.int (0), .int (1)], .tup [.int (0), .int (1)], .tup [.int (0), .int (1)], .tup [.int (0), .int (1)], .tup [.int (0), .int (1)], .tup [.int (0), .int (1)], .tup [.int (0), .int (1)]], .tup [.tup [.int (0), .int (2), .int (4), .int (6), .int (8), .int (10), .int (12), .int (14), .int (16), .int (18), .int (20)], .tup [.int (1), .int (3), .int (5), .int (7), .int (9), .int (11), .int (13), .int (15), .int (17), .int (19), .int (21)]]], .int (0), .tup [.int (0), .int (2)]], .bl true)
theorem m11A29_ok : chkE tb wf [] 15 0 m11A29 = true := by kernel_rfl
def m11A30 : Nat × List W × W := (11, [.tup [.int (2), .tup [.tup [.int (0), .int (1)], .tup [.int (0), .int (1)], .tup [.int (0), .int (1)], .tup [.int (0), .int (1)], .tup [.int (0), .int (1)], .tup [.int (0), .int (1)], .tup [.int (0), .int (1)], .tup [.int (0), .int (1)], .tup [.int (0), .int (1)], .tup [.int (0), .int (1)], .tup [.int (0), .int (1)]], .tup [.tup [.int (0), .int (2), .int (4), .int (6), .int (8), .int (10), .int (12), .int (14), .int (16), .int (18), .int (20)], .tup [.int (1), .int (3), .int (5), .int (7), .int (9), .int (11), .int (13), .int (15), .int (17), .int (19), .int (21)]]], .int (0), .tup [.int (0), .int (3)]], .bl true)
theorem m11A30_ok : chkE tb wf [] 15 0 m11A30 = true := by kernel_rfl
def m11A31 : Nat × List W × W := (11, [.tup [.int (2), .tup [.tup [.int (0), .int (1)], .tup [.int (0), .int (1)], .tup [.int (0), .int (1)], .tup [.int (0), .int (1)], .tup [.int (0), .int (1)], .tup [.int (0), .int (1)], .tup [.int (0), .int (1)], .tup [.int (0), .int (1)], .tup [.int (0), .int (1)], .tup [.int (0), .int (1)], .tup [.int (0), .int (1)]], .tup [.tup [.int (0), .int (2), .int (4), .int (6), .int (8), .int (10), .int (12), .int (14), .int (16), .int (18), .int (20)], .tup [.int (1), .int (3), .int (5), .int (7), .int (9), .int (11), .int (13), .int (15), .int (17), .int (19), .int (21)]]], .int (0), .tup [.int (0), .int (4)]], .bl true)
theorem m11A31_ok : chkE tb wf [] 15 0 m11A31 = true := by kernel_rfl
def m11A32 : Nat × List W × W := (11, [.tup [.int (2), .tup [.tup [.int (0), .int (1)], .tup [.int (0), .int (1)], .tup [.int (0), .int (1)], .tup [.int (0), .int (1)], .tup [.int (0), .int (1)], .tup [.int (0), .int (1)], .tup [.int (0), .int (1)], .tup [.int (0), .int (1)], .tup [.int (0), .int (1)], .tup [.int (0), .int (1)], .tup [.int (0), .int (1)]], .tup [.tup [.int (0), .int (2), .int (4), .int (6), .int (8), .int (10), .int (12), .int (14), .int (16), .int (18), .int (20)], .tup [.int (1), .int (3), .int (5), .int (7), .int (9), .int (11), .int (13), .int (15), .int (17), .int (19), .int (21)]]], .int (0), .tup [.int (0), .int (5)]], .bl true)
theorem m11A32_ok : chkE tb wf [] 15 0 m11A32 = true := by kernel_rfl
def m11A33 : Nat × List W × W := (11, [.tup [.int (2), .tup [.tup [.int (0), .int (1)], .tup [.int (0), .int (1)], .tup [.int (0), .int (1)], .tup [.int (0), .int (1)], .tup [.int (0), .int (1)], .tup [.int (0), .int (1)], .tup [.int (0), .int (1)], .tup [.int (0), .int (1)], .tup [.int (0), .int (1)], .tup [.int (0), .int (1)], .tup [.int (0), .int (1)]], .tup [.tup [.int (0), .int (2), .int (4), .int (6), .int (8), .int (10), .int (12), .int (14), .int (16), .int (18), .int (20)], .tup [.int (1), .int (3), .int (5), .int (7), .int (9), .int (11), .int (13), .int (15), .int (17), .int (19), .int (21)]]], .int (0), .tup [.int (0), .int (6)]], .bl true)
theorem m11A33_ok : chkE tb wf [] 15 0 m11A33 = true := by kernel_rfl
def m11A34 : Nat × List W × W := (11, [.tup [.int (2), .tup [.tup [.int (0), .int (1)], .tup [.int (0), .int (1)], .tup [.int (0), .int (1)], .tup [.int (0), .int (1)], .tup [.int (0), .int (1)], .tup [.int (0), .int (1)], .tup [.int (0), .int (1)], .tup [.int (0), .int (1)], .tup [.int (0), .int (1)], .tup [.int (0), .int (1)], .tup [.int (0), .int (1)]], .tup [.tup [.int (0), .int (2), .int (4), .int (6), .int (8), .int (10), .int (12), .int (14), .int (16), .int (18), .int (20)], .tup [.int (1), .int (3), .int (5), .int (7), .int (9), .int (11), .int (13), .int (15), .int (17), .int (19), .int (21)]]], .int (0), .tup [.int (0), .int (7)]], .bl true)
theorem m11A34_ok : chkE tb wf [] 15 0 m11A34 = true := by kernel_rfl
def m11A35 : Nat × List W × W := (11, [.tup [.int (2), .tup [.tup [.int (0), .int (1)], .tup [.int (0), .int (1)], .tup [.int (0), .int (1)], .tup [.int (0), .int (1)], .tup [.int (0), .int (1)], .tup [.int (0), .int (1)], .tup [.int (0), .int (1)], .tup [.int (0), .int (1)], .tup [.int (0), .int (1)], .tup [.int (0), .int (1)], .tup [.int (0), .int (1)]], .tup [.tup [.int (0), .int (2), .int (4), .int (6), .int (8), .int (10), .int (12), .int (14), .int (16), .int (18), .int (20)], .tup [.int (1), .int (3), .int (5), .int (7), .int (9), .int (11), .int (13), .int (15), .int (17), .int (19), .int (21)]]], .int (0), .tup [.int (0), .int (8)]], .bl true)
theorem m11A35_ok : chkE tb wf [] 15 0 m11A35 = true := by kernel_rfl
def m11A36 : Nat × List W × W := (11, [.tup [.int (2), .tup [.tup [.int (0), .int (1)], .tup [.int (0), .int (1)], .tup [.int (0), .int (1)], .tup [.int (0), .int (1)], .tup [.int (0), .int (1)], .tup [.int (0), .int (1)], .tup [.int (0), .int (1)], .tup [.int (0), .int (1)], .tup [.int (0), .int (1)], .tup [.int (0), .int (1)], .tup [.int (0), .int (1)]], .tup [.tup [.int (0), .int (2), .int (4), .int (6), .int (8), .int (10), .int (12), .int (14), .int (16), .int (18), .int (20)], .tup [.int (1), .int (3), .int (5), .int (7), .int (9), .int (11), .int (13), .int (15), .int (17), .int (19), .int (21)]]], .int (0), .tup [.int (0), .int (9)]], .bl true)
theorem m11A36_ok : chkE tb wf [] 15 0 m11A36 = true := by kernel_rfl
def m11A37 : Nat × List W × W := (11, [.tup [.int (2), .tup [.tup [.int (0), .int (1)], .tup [.int (0), .int (1)], .tup [.int (0), .int (1)], .tup [.int (0), .int (1)], .tup [.int (0), .int (1)], .tup [.int (0), .int (1)], .tup [.int (0), .int (1)], .tup [.int (0), .int (1)], .tup [.int (0), .int (1)], .tup [.int (0), .int (1)], .tup [.int (0), .int (1)]], .tup [.tup [.int (0), .int (2), .int (4), .int (6), .int (8), .int (10), .int (12), .int (14), .int (16), .int (18), .int (20)], .tup [.int (1), .int (3), .int (5), .int (7), .int (9), .int (11), .int (13), .int (15), .int (17), .int (19), .int (21)]]], .int (0), .tup [.int (0), .int (10)]], .bl true)
theorem m11A37_ok : chkE tb wf [] 15 0 m11A37 = true := by kernel_rfl
def m11TA : List (Nat × List W × W) := [m11A0, m11A1, m11A2, m11A3, m11A4, m11A5, m11A6, m11A7, m11A8, m11A9, m11A10, m11A11, m11A12, m11A13, m11A14, m11A15, m11A16, m11A17, m11A18, m11A19, m11A20, m11A21, m11A22, m11A23, m11A24, m11A25, m11A26, m11A27, m11A28, m11A29, m11A30, m11A31, m11A32, m11A33, m11A34, m11A35, m11A36, m11A37]
theorem m11TA_ok : Val tb wf m11TA 16 := Val.put (k := 0) rfl (Val.nil tb wf 15) m11A0_ok (Val.put (k := 0) rfl (Val.nil tb wf 15) m11A1_ok (Val.put (k := 0) rfl (Val.nil tb wf 15) m11A2_ok (Val.put (k := 0) rfl (Val.nil tb wf 15) m11A3_ok (Val.put (k := 0) rfl (Val.nil tb wf 15) m11A4_ok (Val.put (k := 0) rfl (Val.nil tb wf 15) m11A5_ok (Val.put (k := 0) rfl (Val.nil tb wf 15) m11A6_ok (Val.put (k := 0) rfl (Val.nil tb wf 15) m11A7_ok (Val.put (k := 0) rfl (Val.nil tb wf 15) m11A8_ok (Val.put (k := 0) rfl (Val.nil tb wf 15) m11A9_ok (Val.put (k := 0) rfl (Val.nil tb wf 15) m11A10_ok (Val.put (k := 0) rfl (Val.nil tb wf 15) m11A11_ok (Val.put (k := 0) rfl (Val.nil tb wf 15) m11A12_ok (Val.put (k := 0) rfl (Val.nil tb wf 15) m11A13_ok (Val.put (k := 0) rfl (Val.nil tb wf 15) m11A14_ok (Val.put (k := 0) rfl (Val.nil tb wf 15) m11A15_ok (Val.put (k := 0) rfl (Val.nil tb wf 15) m11A16_ok (Val.put (k := 0) rfl (Val.nil tb wf 15) m11A17_ok (Val.put (k := 0) rfl (Val.nil tb wf 15) m11A18_ok (Val.put (k := 0) rfl (Val.nil tb wf 15) m11A19_ok (Val.put (k := 0) rfl (Val.nil tb wf 15) m11A20_ok (Val.put (k := 0) rfl (Val.nil tb wf 15) m11A21_ok (Val.put (k := 0) rfl (Val.nil tb wf 15) m11A22_ok (Val.put (k := 0) rfl (Val.nil tb wf 15) m11A23_ok (Val.put (k := 0) rfl (Val.nil tb wf 15) m11A24_ok (Val.put (k := 0) rfl (Val.nil tb wf 15) m11A25_ok (Val.put (k := 0) rfl (Val.nil tb wf 15) m11A26_ok (Val.put (k := 0) rfl (Val.nil tb wf 15) m11A27_ok (Val.put (k := 0) rfl (Val.nil tb wf 15) m11A28_ok (Val.put (k := 0) rfl (Val.nil tb wf 15) m11A29_ok (Val.put (k := 0) rfl (Val.nil tb wf 15) m11A30_ok (Val.put (k := 0) rfl (Val.nil tb wf 15) m11A31_ok (Val.put (k := 0) rfl (Val.nil tb wf 15) m11A32_ok (Val.put (k := 0) rfl (Val.nil tb wf 15) m11A33_ok (Val.put (k := 0) rfl (Val.nil tb wf 15) m11A34_ok (Val.put (k := 0) rfl (Val.nil tb wf 15) m11A35_ok (Val.put (k := 0) rfl (Val.nil tb wf 15) m11A36_ok (Val.put (k := 0) rfl (Val.nil tb wf 15) m11A37_ok (Val.nil tb wf 16))))))))))))))))))))))))))))))))))))))
def m11B0 : Nat × List W × W := (32, [.tup [.int (2), .tup [.tup [.int (0), .int (1)], .tup [.int (0), .int (1)], .tup [.int (0), .int (1)], .tup [.int (0), .int (1)], .tup [.int (0), .int (1)], .tup [.int (0), .int (1)], .tup [.int (0), .int (1)], .tup [.int (0), .int (1)], .tup [.int (0), .int (1)], .tup [.int (0), .int (1)], .tup [.int (0), .int (1)]], .tup [.tup [.int (0), .int (2), .int (4), .int (6), .int (8), .int (10), .int (12), .int (14), .int (16), .int (18), .int (20)], .tup [.int (1), .int (3), .int (5), .int (7), .int (9), .int (11), .int (13), .int (15), .int (17), .int (19), .int (21)]]], .int (0), .tup [.int (0)], .str "numbers"], .tup [.int (0), .int (10)])
theorem m11B0_ok : chkE tb wf m11TA 16 8 m11B0 = true := by kernel_rfl
def m11B1 : Nat × List W × W := (32, [.tup [.int (2), .tup [.tup [.int (0), .int (1)], .tup [.int (0), .int (1)], .tup [.int (0), .int (1)], .tup [.int (0), .int (1)], .tup [.int (0), .int (1)], .tup [.int (0), .int (1)], .tup [.int (0), .int (1)], .tup [.int (0), .int (1)], .tup [.int (0), .int (1)], .tup [.int (0), .int (1)], .tup [.int (0), .int (1)]], .tup [.tup [.int (0), .int (2), .int (4), .int (6), .int (8), .int (10), .int (12), .int (14), .int (16), .int (18), .int (20)], .tup [.int (1), .int (3), .int (5), .int (7), .int (9), .int (11), .int (13), .int (15), .int (17), .int (19), .int (21)]]], .int (0), .tup [.int (1)], .str "numbers"], .tup [.int (0), .int (9)])
theorem m11B1_ok : chkE tb wf m11TA 16 8 m11B1 = true := by kernel_rfl
def m11B2 : Nat × List W × W := (32, [.tup [.int (2), .tup [.tup [.int (0), .int (1)], .tup [.int (0), .int (1)], .tup [.int (0), .int (1)], .tup [.int (0), .int (1)], .tup [.int (0), .int (1)], .tup [.int (0), .int (1)], .tup [.int (0), .int (1)], .tup [.int (0), .int (1)], .tup [.int (0), .int (1)], .tup [.int (0), .int (1)], .tup [.int (0), .int (1)]], .tup [.tup [.int (0), .int (2), .int (4), .int (6), .int (8), .int (10), .int (12), .int (14), .int (16), .int (18), .int (20)], .tup [.int (1), .int (3), .int (5), .int (7), .int (9), .int (11), .int (13), .int (15), .int (17), .int (19), .int (21)]]], .int (0), .tup [.int (2)], .str "numbers"], .tup [.int (0), .int (8)])
theorem m11B2_ok : chkE tb wf m11TA 16 8 m11B2 = true := by kernel_rfl
def m11B3 : Nat × List W × W := (32, [.tup [.int (2), .tup [.tup [.int (0), .int (1)], .tup [.int (0), .int (1)], .tup [.int (0), .int (1)], .tup [.int (0), .int (1)], .tup [.int (0), .int (1)], .tup [.int (0), .int (1)], .tup [.int (0), .int (1)], .tup [.int (0), .int (1)], .tup [.int (0), .int (1)], .tup [.int (0), .int (1)], .tup [.int (0), .int (1)]], .tup [.tup [.int (0), .int (2), .int (4), .int (6), .int (8), .int (10), .int (12), .int (14), .int (16), .int (18), .int (20)], .tup [.int (1), .int (3), .int (5), .int (7), .int (9), .int (11), .int (13), .int (15), .int (17), .int (19), .int (21)]]], .int (0), .tup [.int (3)], .str "numbers"], .tup [.int (0), .int (7)])
theorem m11B3_ok : chkE tb wf m11TA 16 8 m11B3 = true := by kernel_rfl
def m11B4 : Nat × List W × W := (32, [.tup [.int (2), .tup [.tup [.int (0), .int (1)], .tup [.int (0), .int (1)], .tup [.int (0), .int (1)], .tup [.int (0), .int (1)], .tup [.int (0), .int (1)], .tup [.int (0), .int (1)], .tup [.int (0), .int (1)], .tup [.int (0), .int (1)], .tup [.int (0), .int (1)], .tup [.int (0), .int (1)], .tup [.int (0), .int (1)]], .tup [.tup [.int (0), .int (2), .int (4), .int (6), .int (8), .int (10), .int (12), .int (14), .int (16), .int (18), .int (20)], .tup [.int (1), .int (3), .int (5), .int (7), .int (9), .int (11), .int (13), .int (15), .int (17), .int (19), .int (21)]]], .int (0), .tup [.int (4)], .str "numbers"], .tup [.int (0), .int (6)])
theorem m11B4_ok : chkE tb wf m11TA 16 8 m11B4 = true := by kernel_rfl
def m11B5 : Nat × List W × W := (32, [.tup [.int (2), .tup [.tup [.int (0), .int (1)], .tup [.int (0), .int (1)], .tup [.int (0), .int (1)], .tup [.int (0), .int (1)], .tup [.int (0), .int (1)], .tup [.int (0), .int (1)], .tup [.int (0), .int (1)], .tup [.int (0), .int (1)], .tup [.int (0), .int (1)], .tup [.int (0), .int (1)], .tup [.int (0), .int (1)]], .tup [.tup [.int (0), .int (2), .int (4), .int (6), .int (8), .int (10), .int (12), .int (14), .int (16), .int (18), .int (20)], .tup [.int (1), .int (3), .int (5), .int (7), .int (9), .int (11), .int (13), .int (15), .int (17), .int (19), .int (21)]]], .int (0), .tup [.int (5)], .str "numbers"], .tup [.int (0), .int (5)])
theorem m11B5_ok : chkE tb wf m11TA 16 8 m11B5 = true := by kernel_rfl
def m11B6 : Nat × List W × W := (32, [.tup [.int (2), .tup [.tup [.int (0), .int (1)], .tup [.int (0), .int (1)], .tup [.int (0), .int (1)], .tup [.int (0), .int (1)], .tup [.int (0), .int (1)], .tup [.int (0), .int (1)], .tup [.int (0), .int (1)], .tup [.int (0), .int (1)], .tup [.int (0), .int (1)], .tup [.int (0), .int (1)], .tup [.int (0), .int (1)]], .tup [.tup [.int (0), .int (2), .int (4), .int (6), .int (8), .int (10), .int (12), .int (14), .int (16), .int (18), .int (20)], .tup [.int (1), .int (3), .int (5), .int (7), .int (9), .int (11), .int (13), .int (15), .int (17), .int (19), .int (21)]]], .int (0), .tup [.int (6)], .str "numbers"], .tup [.int (0), .int (4)])
theorem m11B6_ok : chkE tb wf m11TA 16 8 m11B6 = true := by kernel_rfl
def m11B7 : Nat × List W × W := (32, [.tup [.int (2), .tup [.tup [.int (0), .int (1)], .tup [.int (0), .int (1)], .tup [.int (0), .int (1)], .tup [.int (0), .int (1)], .tup [.int (0), .int (1)], .tup [.int (0), .int (1)], .tup [.int (0), .int (1)], .tup [.int (0), .int (1)], .tup [.int (0), .int (1)], .tup [.int (0), .int (1)], .tup [.int (0), .int (1)]], .tup [.tup [.int (0), .int (2), .int (4), .int (6), .int (8), .int (10), .int (12), .int (14), .int (16), .int (18), .int (20)], .tup [.int (1), .int (3), .int (5), .int (7), .int (9), .int (11), .int (13), .int (15), .int (17), .int (19), .int (21)]]], .int (0), .tup [.int (7)], .str "numbers"], .tup [.int (0), .int (3)])
theorem m11B7_ok : chkE tb wf m11TA 16 8 m11B7 = true := by kernel_rfl
def m11B8 : Nat × List W × W := (32, [.tup [.int (2), .tup [.tup [.int (0), .int (1)], .tup [.int (0), .int (1)], .tup [.int (0), .int (1)], .tup [.int (0), .int (1)], .tup [.int (0), .int (1)], .tup [.int (0), .int (1)], .tup [.int (0), .int (1)], .tup [.int (0), .int (1)], .tup [.int (0), .int (1)], .tup [.int (0), .int (1)], .tup [.int (0), .int (1)]], .tup [.tup [.int (0), .int (2), .int (4), .int (6), .int (8), .int (10), .int (12), .int (14), .int (16), .int (18), .int (20)], .tup [.int (1), .int (3), .int (5), .int (7), .int (9), .int (11), .int (13), .int (15), .int (17), .int (19), .int (21)]]], .int (0), .tup [.int (8)], .str "numbers"], .tup [.int (0), .int (2)])
theorem m11B8_ok : chkE tb wf m11TA 16 8 m11B8 = true := by kernel_rfl
def m11B9 : Nat × List W × W := (32, [.tup [.int (2), .tup [.tup [.int (0), .int (1)], .tup [.int (0), .int (1)], .tup [.int (0), .int (1)], .tup [.int (0), .int (1)], .tup [.int (0), .int (1)], .tup [.int (0), .int (1)], .tup [.int (0), .int (1)], .tup [.int (0), .int (1)], .tup [.int (0), .int (1)], .tup [.int (0), .int (1)], .tup [.int (0), .int (1)]], .tup [.tup [.int (0), .int (2), .int (4), .int (6), .int (8), .int (10), .int (12), .int (14), .int (16), .int (18), .int (20)], .tup [.int (1), .int (3), .int (5), .int (7), .int (9), .int (11), .int (13), .int (15), .int (17), .int (19), .int (21)]]], .int (0), .tup [.int (9)], .str "numbers"], .tup [.int (0), .int (1)])
theorem m11B9_ok : chkE tb wf m11TA 16 8 m11B9 = true := by kernel_rfl
def m11B10 : Nat × List W × W := (32, [.tup [.int (2), .tup [.tup [.int (0), .int (1)], .tup [.int (0), .int (1)], .tup [.int (0), .int (1)], .tup [.int (0), .int (1)], .tup [.int (0), .int (1)], .tup [.int (0), .int (1)], .tup [.int (0), .int (1)], .tup [.int (0), .int (1)], .tup [.int (0), .int (1)], .tup [.int (0), .int (1)], .tup [.int (0), .int (1)]], .tup [.tup [.int (0), .int (2), .int (4), .int (6), .int (8), .int (10), .int (12), .int (14), .int (16), .int (18), .int (20)], .tup [.int (1), .int (3), .int (5), .int (7), .int (9), .int (11), .int (13), .int (15), .int (17), .int (19), .int (21)]]], .int (0), .tup [.int (10)], .str "numbers"], .tup [.int (0), .int (0)])
theorem m11B10_ok : chkE tb wf m11TA 16 8 m11B10 = true := by kernel_rfl
def m11B11 : Nat × List W × W := (38, [.tup [.int (2), .tup [.tup [.int (0), .int (1)], .tup [.int (0), .int (1)], .tup [.int (0), .int (1)], .tup [.int (0), .int (1)], .tup [.int (0), .int (1)], .tup [.int (0), .int (1)], .tup [.int (0), .int (1)], .tup [.int (0), .int (1)], .tup [.int (0), .int (1)], .tup [.int (0), .int (1)], .tup [.int (0), .int (1)]], .tup [.tup [.int (0), .int (2), .int (4), .int (6), .int (8), .int (10), .int (12), .int (14), .int (16), .int (18), .int (20)], .tup [.int (1), .int (3), .int (5), .int (7), .int (9), .int (11), .int (13), .int (15), .int (17), .int (19), .int (21)]]], .int (0)], .tup [.int (0), .int (0)])
theorem m11B11_ok : chkE tb wf m11TA 16 8 m11B11 = true := by kernel_rfl
def m11B12 : Nat × List W × W := (36, [.tup [.int (2), .tup [.tup [.int (0), .int (1)], .tup [.int (0), .int (1)], .tup [.int (0), .int (1)], .tup [.int (0), .int (1)], .tup [.int (0), .int (1)], .tup [.int (0), .int (1)], .tup [.int (0), .int (1)], .tup [.int (0), .int (1)], .tup [.int (0), .int (1)], .tup [.int (0), .int (1)], .tup [.int (0), .int (1)]], .tup [.tup [.int (0), .int (2), .int (4), .int (6), .int (8), .int (10), .int (12), .int (14), .int (16), .int (18), .int (20)], .tup [.int (1), .int (3), .int (5), .int (7), .int (9), .int (11), .int (13), .int (15), .int (17), .int (19), .int (21)]]]], .tup [.int (1), .int (1), .int (1), .int (1), .int (1), .int (1), .int (1), .int (1), .int (1), .int (1), .int (1)])
theorem m11B12_ok : chkE tb wf m11TA 16 8 m11B12 = true := by kernel_rfl
def m11B13 : Nat × List W × W := (4, [.tup [.int (2), .tup [.tup [.int (0), .int (1)], .tup [.int (0), .int (1)], .tup [.int (0), .int (1)], .tup [.int (0), .int (1)], .tup [.int (0), .int (1)], .tup [.int (0), .int (1)], .tup [.int (0), .int (1)], .tup [.int (0), .int (1)], .tup [.int (0), .int (1)], .tup [.int (0), .int (1)], .tup [.int (0), .int (1)]], .tup [.tup [.int (0), .int (2), .int (4), .int (6), .int (8), .int (10), .int (12), .int (14), .int (16), .int (18), .int (20)], .tup [.int (1), .int (3), .int (5), .int (7), .int (9), .int (11), .int (13), .int (15), .int (17), .int (19), .int (21)]]], .int (0), .tup [.int (0), .int (22)]], .tup [.int (0), .int (0)])
theorem m11B13_ok : chkE tb wf m11TA 16 8 m11B13 = true := by kernel_rfl
def m11B14 : Nat × List W × W := (4, [.tup [.int (2), .tup [.tup [.int (0), .int (1)], .tup [.int (0), .int (1)], .tup [.int (0), .int (1)], .tup [.int (0), .int (1)], .tup [.int (0), .int (1)], .tup [.int (0), .int (1)], .tup [.int (0), .int (1)], .tup [.int (0), .int (1)], .tup [.int (0), .int (1)], .tup [.int (0), .int (1)], .tup [.int (0), .int (1)]], .tup [.tup [.int (0), .int (2), .int (4), .int (6), .int (8), .int (10), .int (12), .int (14), .int (16), .int (18), .int (20)], .tup [.int (1), .int (3), .int (5), .int (7), .int (9), .int (11), .int (13), .int (15), .int (17), .int (19), .int (21)]]], .int (0), .tup [.int (0), .int (78)]], .tup [.int (0), .int (1)])
theorem m11B14_ok : chkE tb wf m11TA 16 8 m11B14 = true := by kernel_rfl
def m11B15 : Nat × List W × W := (4, [.tup [.int (2), .tup [.tup [.int (0), .int (1)], .tup [.int (0), .int (1)], .tup [.int (0), .int (1)], .tup [.int (0), .int (1)], .tup [.int (0), .int (1)], .tup [.int (0), .int (1)], .tup [.int (0), .int (1)], .tup [.int (0), .int (1)], .tup [.int (0), .int (1)], .tup [.int (0), .int (1)], .tup [.int (0), .int (1)]], .tup [.tup [.int (0), .int (2), .int (4), .int (6), .int (8), .int (10), .int (12), .int (14), .int (16), .int (18), .int (20)], .tup [.int (1), .int (3), .int (5), .int (7), .int (9), .int (11), .int (13), .int (15), .int (17), .int (19), .int (21)]]], .int (0), .tup [.int (0), .int (11)]], .tup [.int (0), .int (0)])
theorem m11B15_ok : chkE tb wf m11TA 16 8 m11B15 = true := by kernel_rfl
def m11B16 : Nat × List W × W := (4, [.tup [.int (2), .tup [.tup [.int (0), .int (1)], .tup [.int (0), .int (1)], .tup [.int (0), .int (1)], .tup [.int (0), .int (1)], .tup [.int (0), .int (1)], .tup [.int (0), .int (1)], .tup [.int (0), .int (1)], .tup [.int (0), .int (1)], .tup [.int (0), .int (1)], .tup [.int (0), .int (1)], .tup [.int (0), .int (1)]], .tup [.tup [.int (0), .int (2), .int (4), .int (6), .int (8), .int (10), .int (12), .int (14), .int (16), .int (18), .int (20)], .tup [.int (1), .int (3), .int (5), .int (7), .int (9), .int (11), .int (13), .int (15), .int (17), .int (19), .int (21)]]], .int (0), .tup [.int (0), .int (17)]], .tup [.int (0), .int (6)])
theorem m11B16_ok : chkE tb wf m11TA 16 8 m11B16 = true := by kernel_rfl
def m11B17 : Nat × List W × W := (31, [.tup [.int (2), .tup [.tup [.int (0), .int (1)], .tup [.int (0), .int (1)], .tup [.int (0), .int (1)], .tup [.int (0), .int (1)], .tup [.int (0), .int (1)], .tup [.int (0), .int (1)], .tup [.int (0), .int (1)], .tup [.int (0), .int (1)], .tup [.int (0), .int (1)], .tup [.int (0), .int (1)], .tup [.int (0), .int (1)]], .tup [.tup [.int (0), .int (2), .int (4), .int (6), .int (8), .int (10), .int (12), .int (14), .int (16), .int (18), .int (20)], .tup [.int (1), .int (3), .int (5), .int (7), .int (9), .int (11), .int (13), .int (15), .int (17), .int (19), .int (21)]]], .int (0), .tup [.int (0), .int (0)], .str "numbers"], .tup [.int (10)])
theorem m11B17_ok : chkE tb wf m11TA 16 8 m11B17 = true := by kernel_rfl
def m11B18 : Nat × List W × W := (31, [.tup [.int (2), .tup [.tup [.int (0), .int (1)], .tup [.int (0), .int (1)], .tup [.int (0), .int (1)], .tup [.int (0), .int (1)], .tup [.int (0), .int (1)], .tup [.int (0), .int (1)], .tup [.int (0), .int (1)], .tup [.int (0), .int (1)], .tup [.int (0), .int (1)], .tup [.int (0), .int (1)], .tup [.int (0), .int (1)]], .tup [.tup [.int (0), .int (2), .int (4), .int (6), .int (8), .int (10), .int (12), .int (14), .int (16), .int (18), .int (20)], .tup [.int (1), .int (3), .int (5), .int (7), .int (9), .int (11), .int (13), .int (15), .int (17), .int (19), .int (21)]]], .int (0), .tup [.int (0), .int (1)], .str "numbers"], .tup [.int (9)])
theorem m11B18_ok : chkE tb wf m11TA 16 8 m11B18 = true := by kernel_rfl
def m11B19 : Nat × List W × W := (31, [.tup [.int (2), .tup [.tup [.int (0), .int (1)], .tup [.int (0), .int (1)], .tup [.int (0), .int (1)], .tup [.int (0), .int (1)], .tup [.int (0), .int (1)], .tup [.int (0), .int (1)], .tup [.int (0), .int (1)], .tup [.int (0), .int (1)], .tup [.int (0), .int (1)], .tup [.int (0), .int (1)], .tup [.int (0), .int (1)]], .tup [.tup [.int (0), .int (2), .int (4), .int (6), .int (8), .int (10), .int (12), .int (14), .int (16), .int (18), .int (20)], .tup [.int (1), .int (3), .int (5), .int (7), .int (9), .int (11), .int (13), .int (15), .int (17), .int (19), .int (21)]]], .int (0), .tup [.int (0), .int (2)], .str "numbers"], .tup [.int (8)])
theorem m11B19_ok : chkE tb wf m11TA 16 8 m11B19 = true := by kernel_rfl
def m11B20 : Nat × List W × W := (31, [.tup [.int (2), .tup [.tup [.int (0), .int (1)], .tup [.int (0), .int (1)], .tup [.int (0), .int (1)], .tup [.int (0), .int (1)], .tup [.int (0), .int (1)], .tup [.int (0), .int (1)], .tup [.int (0), .int (1)], .tup [.int (0), .int (1)], .tup [.int (0), .int (1)], .tup [.int (0), .int (1)], .tup [.int (0), .int (1)]], .tup [.tup [.int (0), .int (2), .int (4), .int (6), .int (8), .int (10), .int (12), .int (14), .int (16), .int (18), .int (20)], .tup [.int (1), .int (3), .int (5), .int (7), .int (9), .int (11), .int (13), .int (15), .int (17), .int (19), .int (21)]]], .int (0), .tup [.int (0), .int (3)], .str "numbers"], .tup [.int (7)])
theorem m11B20_ok : chkE tb wf m11TA 16 8 m11B20 = true := by kernel_rfl
def m11B21 : Nat × List W × W := (31, [.tup [.int (2), .tup [.tup [.int (0), .int (1)], .tup [.int (0), .int (1)], .tup [.int (0), .int (1)], .tup [.int (0), .int (1)], .tup [.int (0), .int (1)], .tup [.int (0), .int (1)], .tup [.int (0), .int (1)], .tup [.int (0), .int (1)], .tup [.int (0), .int (1)], .tup [.int (0), .int (1)], .tup [.int (0), .int (1)]], .tup [.tup [.int (0), .int (2), .int (4), .int (6), .int (8), .int (10), .int (12), .int (14), .int (16), .int (18), .int (20)], .tup [.int (1), .int (3), .int (5), .int (7), .int (9), .int (11), .int (13), .int (15), .int (17), .int (19), .int (21)]]], .int (0), .tup [.int (0), .int (4)], .str "numbers"], .tup [.int (6)])
theorem m11B21_ok : chkE tb wf m11TA 16 8 m11B21 = true := by kernel_rfl
def m11B22 : Nat × List W × W := (31, [.tup [.int (2), .tup [.tup [.int (0), .int (1)], .tup [.int (0), .int (1)], .tup [.int (0), .int (1)], .tup [.int (0), .int (1)], .tup [.int (0), .int (1)], .tup [.int (0), .int (1)], .tup [.int (0), .int (1)], .tup [.int (0), .int (1)], .tup [.int (0), .int (1)], .tup [.int (0), .int (1)], .tup [.int (0), .int (1)]], .tup [.tup [.int (0), .int (2), .int (4), .int (6), .int (8), .int (10), .int (12), .int (14), .int (16), .int (18), .int (20)], .tup [.int (1), .int (3), .int (5), .int (7), .int (9), .int (11), .int (13), .int (15), .int (17), .int (19), .int (21)]]], .int (0), .tup [.int (0), .int (5)], .str "numbers"], .tup [.int (5)])
theorem m11B22_ok : chkE tb wf m11TA 16 8 m11B22 = true := by kernel_rfl
def m11B23 : Nat × List W × W := (31, [.tup [.int (2), .tup [.tup [.int (0), .int (1)], .tup [.int (0), .int (1)], .tup [.int (0), .int (1)], .tup [.int (0), .int (1)], .tup [.int (0), .int (1)], .tup [.int (0), .int (1)], .tup [.int (0), .int (1)], .tup [.int (0), .int (1)], .tup [.int (0), .int (1)], .tup [.int (0), .int (1)], .tup [.int (0), .int (1)]], .tup [.tup [.int (0), .int (2), .int (4), .int (6), .int (8), .int (10), .int (12), .int (14), .int (16), .int (18), .int (20)], .tup [.int (1), .int (3), .int (5), .int (7), .int (9), .int (11), .int (13), .int (15), .int (17), .int (19), .int (21)]]], .int (0), .tup [.int (0), .int (6)], .str "numbers"], .tup [.int (4)])
theorem m11B23_ok : chkE tb wf m11TA 16 8 m11B23 = true := by kernel_rfl
def m11B24 : Nat × List W × W := (31, [.tup [.int (2), .tup [.tup [.int (0), .int (1)], .tup [.int (0), .int (1)], .tup [.int (0), .int (1)], .tup [.int (0), .int (1)], .tup [.int (0), .int (1)], .tup [.int (0), .int (1)], .tup [.int (0), .int (1)], .tup [.int (0), .int (1)], .tup [.int (0), .int (1)], .tup [.int (0), .int (1)], .tup [.int (0), .int (1)]], .tup [.tup [.int (0), .int (2), .int (4), .int (6), .int (8), .int (10), .int (12), .int (14), .int (16), .int (18), .int (20)], .tup [.int (1), .int (3), .int (5), .int (7), .int (9), .int (11), .int (13), .int (15), .int (17), .int (19), .int (21)]]], .int (0), .tup [.int (0), .int (7)], .str "numbers"], .tup [.int (3)])
theorem m11B24_ok : chkE tb wf m11TA 16 8 m11B24 = true := by kernel_rfl
def m11B25 : Nat × List W × W := (31, [.tup [.int (2), .tup [.tup [.int (0), .int (1)], .tup [.int (0), .int (1)], .tup [.int (0), .int (1)], .tup [.int (0), .int (1)], .tup [.int (0), .int (1)], .tup [.int (0), .int (1)], .tup [.int (0), .int (1)], .tup [.int (0), .int (1)], .tup [.int (0), .int (1)], .tup [.int (0), .int (1)], .tup [.int (0), .int (1)]], .tup [.tup [.int (0), .int (2), .int (4), .int (6), .int (8), .int (10), .int (12), .int (14), .int (16), .int (18), .int (20)], .tup [.int (1), .int (3), .int (5), .int (7), .int (9), .int (11), .int (13), .int (15), .int (17), .int (19), .int (21)]]], .int (0), .tup [.int (0), .int (8)], .str "numbers"], .tup [.int (2)])
theorem m11B25_ok : chkE tb wf m11TA 16 8 m11B25 = true := by kernel_rfl
def m11B26 : Nat × List W × W := (31, [.tup [.int (2), .tup [.tup [.int (0), .int (1)], .tup [.int (0), .int (1)], .tup [.int (0), .int (1)], .tup [.int (0), .int (1)], .tup [.int (0), .int (1)], .tup [.int (0), .int (1)], .tup [.int (0), .int (1)], .tup [.int (0), .int (1)], .tup [.int (0), .int (1)], .tup [.int (0), .int (1)], .tup [.int (0), .int (1)]], .tup [.tup [.int (0), .int (2), .int (4), .int (6), .int (8), .int (10), .int (12), .int (14), .int (16), .int (18), .int (20)], .tup [.int (1), .int (3), .int (5), .int (7), .int (9), .int (11), .int (13), .int (15), .int (17), .int (19), .int (21)]]], .int (0), .tup [.int (0), .int (9)], .str "numbers"], .tup [.int (1)])
theorem m11B26_ok : chkE tb wf m11TA 16 8 m11B26 = true := by kernel_rfl
def m11B27 : Nat × List W × W := (31, [.tup [.int (2), .tup [.tup [.int (0), .int (1)], .tup [.int (0), .int (1)], .tup [.int (0), .int (1)], .tup [.int (0), .int (1)], .tup [.int (0), .int (1)], .tup [.int (0), .int (1)], .tup [.int (0), .int (1)], .tup [.int (0), .int (1)], .tup [.int (0), .int (1)], .tup [.int (0), .int (1)], .tup [.int (0), .int (1)]], .tup [.tup [.int (0), .int (2), .int (4), .int (6), .int (8), .int (10), .int (12), .int (14), .int (16), .int (18), .int (20)], .tup [.int (1), .int (3), .int (5), .int (7), .int (9), .int (11), .int (13), .int (15), .int (17), .int (19), .int (21)]]], .int (0), .tup [.int (0), .int (10)], .str "numbers"], .tup [.int (0)])
theorem m11B27_ok : chkE tb wf m11TA 16 8 m11B27 = true := by kernel_rfl
def m11B28 : Nat × List W × W := (37, [.tup [.int (2), .tup [.tup [.int (0), .int (1)], .tup [.int (0), .int (1)], .tup [.int (0), .int (1)], .tup [.int (0), .int (1)], .tup [.int (0), .int (1)], .tup [.int (0), .int (1)], .tup [.int (0), .int (1)], .tup [.int (0), .int (1)], .tup [.int (0), .int (1)], .tup [.int (0), .int (1)], .tup [.int (0), .int (1)]], .tup [.tup [.int (0), .int (2), .int (4), .int (6), .int (8), .int (10), .int (12), .int (14), .int (16), .int (18), .int (20)], .tup [.int (1), .int (3), .int (5), .int (7), .int (9), .int (11), .int (13), .int (15), .int (17), .int (19), .int (21)]]], .int (0), .tup [.int (0), .int (0)]], .tup [.int (0), .int (0)])
theorem m11B28_ok : chkE tb wf m11TA 16 8 m11B28 = true := by kernel_rfl
def m11B29 : Nat × List W × W := (37, [.tup [.int (2), .tup [.tup [.int (0), .int (1)], .tup [.int (0), .int (1)], .tup [.int (0), .int (1)], .tup [.int (0), .int (1)], .tup [.int (0), .int (1)], .tup [.int (0), .int (1)], .tup [.int (0), .int (1)], .tup [.int (0), .int (1)], .tup [.int (0), .int (1)], .tup [.int (0), .int (1)], .tup [.int (0), .int (1)]], .tup [.tup [.int (0), .int (2), .int (4), .int (6), .int (8), .int (10), .int (12), .int (14), .int (16), .int (18), .int (20)], .tup [.int (1), .int (3), .int (5), .int (7), .int (9), .int (11), .int (13), .int (15), .int (17), .int (19), .int (21)]]], .int (0), .tup [.int (5), .int (-5)]], .tup [.int (0), .int (6)])
theorem m11B29_ok : chkE tb wf m11TA 16 8 m11B29 = true := by kernel_rfl
def m11B30 : Nat × List W × W := (40, [.tup [.int (2), .tup [.tup [.int (0), .int (1)], .tup [.int (0), .int (1)], .tup [.int (0), .int (1)], .tup [.int (0), .int (1)], .tup [.int (0), .int (1)], .tup [.int (0), .int (1)], .tup [.int (0), .int (1)], .tup [.int (0), .int (1)], .tup [.int (0), .int (1)], .tup [.int (0), .int (1)], .tup [.int (0), .int (1)]], .tup [.tup [.int (0), .int (2), .int (4), .int (6), .int (8), .int (10), .int (12), .int (14), .int (16), .int (18), .int (20)], .tup [.int (1), .int (3), .int (5), .int (7), .int (9), .int (11), .int (13), .int (15), .int (17), .int (19), .int (21)]]], .int (0), .tup [.int (0), .int (10)], .tup [.int (0), .int (1)]], .tup [.int (0), .int (0)])
theorem m11B30_ok : chkE tb wf m11TA 16 8 m11B30 = true := by kernel_rfl
def m11B31 : Nat × List W × W := (6, [.tup [.int (2), .tup [.tup [.int (0), .int (1)], .tup [.int (0), .int (1)], .tup [.int (0), .int (1)], .tup [.int (0), .int (1)], .tup [.int (0), .int (1)], .tup [.int (0), .int (1)], .tup [.int (0), .int (1)], .tup [.int (0), .int (1)], .tup [.int (0), .int (1)], .tup [.int (0), .int (1)], .tup [.int (0), .int (1)]], .tup [.tup [.int (0), .int (2), .int (4), .int (6), .int (8), .int (10), .int (12), .int (14), .int (16), .int (18), .int (20)], .tup [.int (1), .int (3), .int (5), .int (7), .int (9), .int (11), .int (13), .int (15), .int (17), .int (19), .int (21)]]], .int (0), .tup [.int (0), .int (78)]], .int (77))
theorem m11B31_ok : chkE tb wf m11TA 16 8 m11B31 = true := by kernel_rfl
def m11TB : List (Nat × List W × W) := m11B0 :: m11B1 :: m11B2 :: m11B3 :: m11B4 :: m11B5 :: m11B6 :: m11B7 :: m11B8 :: m11B9 :: m11B10 :: m11B11 :: m11B12 :: m11B13 :: m11B14 :: m11B15 :: m11B16 :: m11B17 :: m11B18 :: m11B19 :: m11B20 :: m11B21 :: m11B22 :: m11B23 :: m11B24 :: m11B25 :: m11B26 :: m11B27 :: m11B28 :: m11B29 :: m11B30 :: m11B31 :: m11TA
theorem m11TB_ok : Val tb wf m11TB 25 := Val.put (k := 8) rfl m11TA_ok m11B0_ok (Val.put (k := 8) rfl m11TA_ok m11B1_ok (Val.put (k := 8) rfl m11TA_ok m11B2_ok (Val.put (k := 8) rfl m11TA_ok m11B3_ok (Val.put (k := 8) rfl m11TA_ok m11B4_ok (Val.put (k := 8) rfl m11TA_ok m11B5_ok (Val.put (k := 8) rfl m11TA_ok m11B6_ok (Val.put (k := 8) rfl m11TA_ok m11B7_ok (Val.put (k := 8) rfl m11TA_ok m11B8_ok (Val.put (k := 8) rfl m11TA_ok m11B9_ok (Val.put (k := 8) rfl m11TA_ok m11B10_ok (Val.put (k := 8) rfl m11TA_ok m11B11_ok (Val.put (k := 8) rfl m11TA_ok m11B12_ok (Val.put (k := 8) rfl m11TA_ok m11B13_ok (Val.put (k := 8) rfl m11TA_ok m11B14_ok (Val.put (k := 8) rfl m11TA_ok m11B15_ok (Val.put (k := 8) rfl m11TA_ok m11B16_ok (Val.put (k := 8) rfl m11TA_ok m11B17_ok (Val.put (k := 8) rfl m11TA_ok m11B18_ok (Val.put (k := 8) rfl m11TA_ok m11B19_ok (Val.put (k := 8) rfl m11TA_ok m11B20_ok (Val.put (k := 8) rfl m11TA_ok m11B21_ok (Val.put (k := 8) rfl m11TA_ok m11B22_ok (Val.put (k := 8) rfl m11TA_ok m11B23_ok (Val.put (k := 8) rfl m11TA_ok m11B24_ok (Val.put (k := 8) rfl m11TA_ok m11B25_ok (Val.put (k := 8) rfl m11TA_ok m11B26_ok (Val.put (k := 8) rfl m11TA_ok m11B27_ok (Val.put (k := 8) rfl m11TA_ok m11B28_ok (Val.put (k := 8) rfl m11TA_ok m11B29_ok (Val.put (k := 8) rfl m11TA_ok m11B30_ok (Val.put (k := 8) rfl m11TA_ok m11B31_ok (m11TA_ok.add 9))))))))))))))))))))))))))))))))
theorem m11O : isT1 (runF (callO tb wf m11TB 25 4) wf f__law_many_right [.int 11] Hw.nil) = true := by kernel_rfl
theorem m11 : isT1 (mr 11) = true := by
  obtain ⟨g, e⟩ := isT1_ok m11O
  rw [show mr 11 = _ from (leF (callO_le m11TB_ok 4) wf f__law_many_right [.int 11] Hw.nil).ok e]
  rfl
def m12A0 : Nat × List W × W := (1, [.tup [.int (2), .tup [.tup [.int (0), .int (1)], .tup [.int (0), .int (1)], .tup [.int (0), .int (1)], .tup [.int (0), .int (1)], .tup [.int (0), .int (1)], .tup [.int (0), .int (1)], .tup [.int (0), .int (1)], .tup [.int (0), .int (1)], .tup [.int (0), .int (1)], .tup [.int (0), .int (1)], .tup [.int (0), .int (1)], .tup [.int (0), .int (1)]], .tup [.tup [.int (0), .int (2), .int (4), .int (6), .int (8), .int (10), .int (12), .int (14), .int (16), .int (18), .int (20), .int (22)], .tup [.int (1), .int (3), .int (5), .int (7), .int (9), .int (11), .int (13), .int (15), .int (17), .int (19), .int (21), .int (23)]]]], .tup [.int (12), .int (12)])
theorem m12A0_ok : chkE tb wf [] 15 0 m12A0 = true := by kernel_rfl
def m12A1 : Nat × List W × W := (22, [.tup [.int (2), .tup [.tup [.int (0), .int (1)], .tup [.int (0), .int (1)], .tup [.int (0), .int (1)], .tup [.int (0), .int (1)], .tup [.int (0), .int (1)], .tup [.int (0), .int (1)], .tup [.int (0), .int (1)], .tup [.int (0), .int (1)], .tup [.int (0), .int (1)], .tup [.int (0), .int (1)], .tup [.int (0), .int (1)], .tup [.int (0), .int (1)]], .tup [.tup [.int (0), .int (2), .int (4), .int (6), .int (8), .int (10), .int (12), .int (14), .int (16), .int (18), .int (20), .int (22)], .tup [.int (1), .int (3), .int (5), .int (7), .int (9), .int (11), .int (13), .int (15), .int (17), .int (19), .int (21), .int (23)]]], .tup [.int (0)]], .bl true)
theorem m12A1_ok : chkE tb wf [] 15 0 m12A1 = true := by kernel_rfl
def m12A2 : Nat × List W × W := (22, [.tup [.int (2), .tup [.tup [.int (0), .int (1)], .tup [.int (0), .int (1)], .tup [.int (0), .int (1)], .tup [.int (0), .int (1)], .tup [.int (0), .int (1)], .tup [.int (0), .int (1)], .tup [.int (0), .int (1)], .tup [.int (0), .int (1)], .tup [.int (0), .int (1)], .tup [.int (0), .int (1)], .tup [.int (0), .int (1)], .tup [.int (0), .int (1)]], .tup [.tup [.int (0), .int (2), .int (4), .int (6), .int (8), .int (10), .int (12), .int (14), .int (16), .int (18), .int (20), .int (22)], .tup [.int (1), .int (3), .int (5), .int (7), .int (9), .int (11), .int (13), .int (15), .int (17), .int (19), .int (21), .int (23)]]], .tup [.int (1)]], .bl true)
theorem m12A2_ok : chkE tb wf [] 15 0 m12A2 = true := by kernel_rfl
def m12A3 : Nat × List W × W := (22, [.tup [.int (2), .tup [.tup [.int (0), .int (1)], .tup [.int (0), .int (1)], .tup [.int (0), .int (1)], .tup [.int (0), .int (1)], .tup [.int (0), .int (1)], .tup [.int (0), .int (1)], .tup [.int (0), .int (1)], .tup [.int (0), .int (1)], .tup [.int (0), .int (1)], .tup [.int (0), .int (1)], .tup [.int (0), .int (1)], .tup [.int (0), .int (1)]], .tup [.tup [.int (0), .int (2), .int (4), .int (6), .int (8), .int (10), .int (12), .int (14), .int (16), .int (18), .int (20), .int (22)], .tup [.int (1), .int (3), .int (5), .int (7), .int (9), .int (11), .int (13), .int (15), .int (17), .int (19), .int (21), .int (23)]]], .tup [.int (2)]], .bl true)
theorem m12A3_ok : chkE tb wf [] 15 0 m12A3 = true := by kernel_rfl
def m12A4 : Nat × List W × W := (22, [.tup [.int (2), .tup [.tup [.int (0), .int (1)], .tup [.int (0), .int (1)], .tup [.int (0), .int (1)], .tup [.int (0), .int (1)], .tup [.int (0), .int (1)], .tup [.int (0), .int (1)], .tup [.int (0), .int (1)], .tup [.int (0), .int (1)], .tup [.int (0), .int (1)], .tup [.int (0), .int (1)], .tup [.int (0), .int (1)], .tup [.int (0), .int (1)]], .tup [.tup [.int (0), .int (2), .int (4), .int (6), .int (8), .int (10), .int (12), .int (14), .int (16), .int (18), .int (20), .int (22)], .tup [.int (1), .int (3), .int (5), .int (7), .int (9), .int (11), .int (13), .int (15), .int (17), .int (19), .int (21), .int (23)]]], .tup [.int (3)]], .bl true)
theorem m12A4_ok : chkE tb wf [] 15 0 m12A4 = true := by kernel_rfl
def m12A5 : Nat × List W × W := (22, [.tup [.int (2), .tup [.tup [.int (0), .int (1)], .tup [.int (0), .int (1)], .tup [.int (0), .int (1)], .tup [.int (0), .int (1)], .tup [.int (0), .int (1)], .tup [.int (0), .int (1)], .tup [.int (0), .int (1)], .tup [.int (0), .int (1)], .tup [.int (0), .int (1)], .tup [.int (0), .int (1)], .tup [.int (0), .int (1)], .tup [.int (0), .int (1)]], .tup [.tup [.int (0), .int (2), .int (4), .int (6), .int (8), .int (10), .int (12), .int (14), .int (16), .int (18), .int (20), .int (22)], .tup [.int (1), .int (3), .int (5), .int (7), .int (9), .int (11), .int (13), .int (15), .int (17), .int (19), .int (21), .int (23)]]], .tup [.int (4)]], .bl true)
theorem m12A5_ok : chkE tb wf [] 15 0 m12A5 = true := by kernel_rfl
def m12A6 : Nat × List W × W := (22, [.tup [.int (2), .tup [.tup [.int (0), .int (1)], .tup [.int (0), .int (1)], .tup [.int (0), .int (1)], .tup [.int (0), .int (1)], .tup [.int (0), .int (1)], .tup [.int (0), .int (1)], .tup [.int (0), .int (1)], .tup [.int (0), .int (1)], .tup [.int (0), .int (1)], .tup [.int (0), .int (1)], .tup [.int (0), .int (1)], .tup [.int (0), .int (1)]], .tup [.tup [.int (0), .int (2), .int (4), .int (6), .int (8), .int (10), .int (12), .int (14), .int (16), .int (18), .int (20), .int (22)], .tup [.int (1), .int (3), .int (5), .int (7), .int (9), .int (11), .int (13), .int (15), .int (17), .int (19), .int (21), .int (23)]]], .tup [.int (5)]], .bl true)
theorem m12A6_ok : chkE tb wf [] 15 0 m12A6 = true := by kernel_rfl
def m12A7 : Nat × List W × W := (22, [.tup [.int (2), .tup [.tup [.int (0), .int (1)], .tup [.int (0), .int (1)], .tup [.int (0), .int (1)], .tup [.int (0), .int (1)], .tup [.int (0), .int (1)], .tup [.int (0), .int (1)], .tup [.int (0), .int (1)], .tup [.int (0), .int (1)], .tup [.int (0), .int (1)], .tup [.int (0), .int (1)], .tup [.int (0), .int (1)], .tup [.int (0), .int (1)]], .tup [.tup [.int (0), .int (2), .int (4), .int (6), .int (8), .int (10), .int (12), .int (14), .int (16), .int (18), .int (20), .int (22)], .tup [.int (1), .int (3), .int (5), .int (7), .int (9), .int (11), .int (13), .int (15), .int (17), .int (19), .int (21), .int (23)]]], .tup [.int (6)]], .bl true)
theorem m12A7_ok : chkE tb wf [] 15 0 m12A7 = true := by kernel_rfl
def m12A8 : Nat × List W × W := (22, [.tup [.int (2), .tup [.tup [.int (0), .int (1)], .tup [.int (0), .int (1)], .tup [.int (0), .int (1)], .tup [.int (0), .int (1)], .tup [.int (0), .int (1)], .tup [.int (0), .int (1)], .tup [.int (0), .int (1)], .tup [.int (0), .int (1)], .tup [.int (0), .int (1)], .tup [.int (0), .int (1)], .tup [.int (0), .int (1)], .tup [.int (0), .int (1)]], .tup [.tup [.int (0), .int (2), .int (4), .int (6), .int (8), .int (10), .int (12), .int (14), .int (16), .int (18), .int (20), .int (22)], .tup [.int (1), .int (3), .int (5), .int (7), .int (9), .int (11), .int (13), .int (15), .int (17), .int (19), .int (21), .int (23)]]], .tup [.int (7)]], .bl true)
theorem m12A8_ok : chkE tb wf [] 15 0 m12A8 = true := by kernel_rfl
def m12A9 : Nat × List W × W := (22, [.tup [.int (2), .tup [.tup [.int (0), .int (1)], .tup [.int (0), .int (1)], .tup [.int (0), .int (1)], .tup [.int (0), .int (1)], .tup [.int (0), .int (1)], .tup [.int (0), .int (1)], .tup [.int (0), .int (1)], .tup [.int (0), .int (1)], .tup [.int (0), .int (1)], .tup [.int (0), .int (1)], .tup [.int (0), .int (1)], .tup [.int (0), .int (1)]], .tup [.tup [.int (0), .int (2), .int (4), .int (6), .int (8), .int (10), .int (12), .int (14), .int (16), .int (18), .int (20), .int (22)], .tup [.int (1), .int (3), .int (5), .int (7), .int (9), .int (11), .int (13), .int (15), .int (17), .int (19), .int (21), .int (23)]]], .tup [.int (8)]], .bl true)
theorem m12A9_ok : chkE tb wf [] 15 0 m12A9 = true := by kernel_rfl
def m12A10 : Nat × List W × W := (22, [.tup [.int (2), .tup [.tup [.int (0), .int (1)], .tup [.int (0), .int (1)], .tup [.int (0), .int (1)], .tup [.int (0), .int (1)], .tup [.int (0), .int (1)], .tup [.int (0), .int (1)], .tup [.int (0), .int (1)], .tup [.int (0), .int (1)], .tup [.int (0), .int (1)], .tup [.int (0), .int (1)], .tup [.int (0), .int (1)], .tup [.int (0), .int (1)]], .tup [.tup [.int (0), .int (2), .int (4), .int (6), .int (8), .int (10), .int (12), .int (14), .int (16), .int (18), .int (20), .int (22)], .tup [.int (1), .int (3), .int (5), .int (7), .int (9), .int (11), .int (13), .int (15), .int (17), .int (19), .int (21), .int (23)]]], .tup [.int (9)]], .bl true)
theorem m12A10_ok : chkE tb wf [] 15 0 m12A10 = true := by kernel_rfl
def m12A11 : Nat × List W × W := (22, [.tup [.int (2), .tup [.tup [.int (0), .int (1)], .tup [.int (0), .int (1)], .tup [.int (0), .int (1)], .tup [.int (0), .int (1)], .tup [.int (0), .int (1)], .tup [.int (0), .int (1)], .tup [.int (0), .int (1)], .tup [.int (0), .int (1)], .tup [.int (0), .int (1)], .tup [.int (0), .int (1)], .tup [.int (0), .int (1)], .tup [.int (0), .int (1)]], .tup [.tup [.int (0), .int (2), .int (4), .int (6), .int (8), .int (10), .int (12), .int (14), .int (16), .int (18), .int (20), .int (22)], .tup [.int (1), .int (3), .int (5), .int (7), .int (9), .int (11), .int (13), .int (15), .int (17), .int (19), .int (21), .int (23)]]], .tup [.int (10)]], .bl true)
theorem m12A11_ok : chkE tb wf [] 15 0 m12A11 = true := by kernel_rfl
def m12A12 : Nat × List W × W := (22, [.tup [.int (2), .tup [.tup [.int (0), .int (1)], .tup [.int (0), .int (1)], .tup [.int (0), .int (1)], .tup [.int (0), .int (1)], .tup [.int (0), .int (1)], .tup [.int (0), .int (1)], .tup [.int (0), .int (1)], .tup [.int (0), .int (1)], .tup [.int (0), .int (1)], .tup [.int (0), .int (1)], .tup [.int (0), .int (1)], .tup [.int (0), .int (1)]], .tup [.tup [.int (0), .int (2), .int (4), .int (6), .int (8), .int (10), .int (12), .int (14), .int (16), .int (18), .int (20), .int (22)], .tup [.int (1), .int (3), .int (5), .int (7), .int (9), .int (11), .int (13), .int (15), .int (17), .int (19), .int (21), .int (23)]]], .tup [.int (11)]], .bl true)
theorem m12A12_ok : chkE tb wf [] 15 0 m12A12 = true := by kernel_rfl
def m12A13 : Nat × List W × W := (3, [.tup [.int (2), .tup [.tup [.int (0), .int (1)], .tup [.int (0), .int (1)], .tup [.int (0), .int (1)], .tup [.int (0), .int (1)], .tup [.int (0), .int (1)], .tup [.int (0), .int (1)], .tup [.int (0), .int (1)], .tup [.int (0), .int (1)], .tup [.int (0), .int (1)], .tup [.int (0), .int (1)], .tup [.int (0), .int (1)], .tup [.int (0), .int (1)]], .tup [.tup [.int (0), .int (2), .int (4), .int (6), .int (8), .int (10), .int (12), .int (14), .int (16), .int (18), .int (20), .int (22)], .tup [.int (1), .int (3), .int (5), .int (7), .int (9), .int (11), .int (13), .int (15), .int (17), .int (19), .int (21), .int (23)]]], .int (0), .tup [.int (0), .int (24)]], .tup [.tup [.int (0), .int (0)], .tup [.int (0), .int (2)]])
theorem m12A13_ok : chkE tb wf [] 15 0 m12A13 = true := by kernel_rfl
def m12A14 : Nat × List W × W := (3, [.tup [.int (2), .tup [.tup [.int (0), .int (1)], .tup [.int (0), .int (1)], .tup [.int (0), .int (1)], .tup [.int (0), .int (1)], .tup [.int (0), .int (1)], .tup [.int (0), .int (1)], .tup [.int (0), .int (1)], .tup [.int (0), .int (1)], .tup [.int (0), .int (1)], .tup [.int (0), .int (1)], .tup [.int (0), .int (1)], .tup [.int (0), .int (1)]], .tup [.tup [.int (0), .int (2), .int (4), .int (6), .int (8), .int (10), .int (12), .int (14), .int (16), .int (18), .int (20), .int (22)], .tup [.int (1), .int (3), .int (5), .int (7), .int (9), .int (11), .int (13), .int (15), .int (17), .int (19), .int (21), .int (23)]]], .int (0), .tup [.int (0), .int (85)]], .tup [.tup [.int (0), .int (1)], .tup [.int (0), .int (7)]])
theorem m12A14_ok : chkE tb wf [] 15 0 m12A14 = true := by kernel_rfl
def m12A15 : Nat × List W × W := (3, [.tup [.int (2), .tup [.tup [.int (0), .int (1)], .tup [.int (0), .int (1)], .tup [.int (0), .int (1)], .tup [.int (0), .int (1)], .tup [.int (0), .int (1)], .tup [.int (0), .int (1)], .tup [.int (0), .int (1)], .tup [.int (0), .int (1)], .tup [.int (0), .int (1)], .tup [.int (0), .int (1)], .tup [.int (0), .int (1)], .tup [.int (0), .int (1)]], .tup [.tup [.int (0), .int (2), .int (4), .int (6), .int (8), .int (10), .int (12), .int (14), .int (16), .int (18), .int (20), .int (22)], .tup [.int (1), .int (3), .int (5), .int (7), .int (9), .int (11), .int (13), .int (15), .int (17), .int (19), .int (21), .int (23)]]], .int (0), .tup [.int (0), .int (12)]], .tup [.tup [.int (0), .int (0)], .tup [.int (0), .int (1)]])
theorem m12A15_ok : chkE tb wf [] 15 0 m12A15 = true := by kernel_rfl
def m12A16 : Nat × List W × W := (3, [.tup [.int (2), .tup [.tup [.int (0), .int (1)], .tup [.int (0), .int (1)], .tup [.int (0), .int (1)], .tup [.int (0), .int (1)], .tup [.int (0), .int (1)], .tup [.int (0), .int (1)], .tup [.int (0), .int (1)], .tup [.int (0), .int (1)], .tup [.int (0), .int (1)], .tup [.int (0), .int (1)], .tup [.int (0), .int (1)], .tup [.int (0), .int (1)]], .tup [.tup [.int (0), .int (2), .int (4), .int (6), .int (8), .int (10), .int (12), .int (14), .int (16), .int (18), .int (20), .int (22)], .tup [.int (1), .int (3), .int (5), .int (7), .int (9), .int (11), .int (13), .int (15), .int (17), .int (19), .int (21), .int (23)]]], .int (0), .tup [.int (0), .int (19)]], .tup [.tup [.int (0), .int (7)], .tup [.int (0), .int (1)]])
theorem m12A16_ok : chkE tb wf [] 15 0 m12A16 = true := by kernel_rfl
def m12A17 : Nat × List W × W := (35, [.tup [.int (2), .tup [.tup [.int (0), .int (1)], .tup [.int (0), .int (1)], .tup [.int (0), .int (1)], .tup [.int (0), .int (1)], .tup [.int (0), .int (1)], .tup [.int (0), .int (1)], .tup [.int (0), .int (1)], .tup [.int (0), .int (1)], .tup [.int (0), .int (1)], .tup [.int (0), .int (1)], .tup [.int (0), .int (1)], .tup [.int (0), .int (1)]], .tup [.tup [.int (0), .int (2), .int (4), .int (6), .int (8), .int (10), .int (12), .int (14), .int (16), .int (18), .int (20), .int (22)], .tup [.int (1), .int (3), .int (5), .int (7), .int (9), .int (11), .int (13), .int (15), .int (17), .int (19), .int (21), .int (23)]]], .tup [.int (0)]], .tup [.int (1), .int (2), .int (3), .int (4), .int (5), .int (6), .int (7), .int (8), .int (9), .int (10), .int (11)])
theorem m12A17_ok : chkE tb wf [] 15 0 m12A17 = true := by kernel_rfl
def m12A18 : Nat × List W × W := (35, [.tup [.int (2), .tup [.tup [.int (0), .int (1)], .tup [.int (0), .int (1)], .tup [.int (0), .int (1)], .tup [.int (0), .int (1)], .tup [.int (0), .int (1)], .tup [.int (0), .int (1)], .tup [.int (0), .int (1)], .tup [.int (0), .int (1)], .tup [.int (0), .int (1)], .tup [.int (0), .int (1)], .tup [.int (0), .int (1)], .tup [.int (0), .int (1)]], .tup [.tup [.int (0), .int (2), .int (4), .int (6), .int (8), .int (10), .int (12), .int (14), .int (16), .int (18), .int (20), .int (22)], .tup [.int (1), .int (3), .int (5), .int (7), .int (9), .int (11), .int (13), .int (15), .int (17), .int (19), .int (21), .int (23)]]], .tup [.int (1)]], .tup [.int (2), .int (3), .int (4), .int (5), .int (6), .int (7), .int (8), .int (9), .int (10), .int (11)])
theorem m12A18_ok : chkE tb wf [] 15 0 m12A18 = true := by kernel_rfl
def m12A19 : Nat × List W × W := (35, [.tup [.int (2), .tup [.tup [.int (0), .int (1)], .tup [.int (0), .int (1)], .tup [.int (0), .int (1)], .tup [.int (0), .int (1)], .tup [.int (0), .int (1)], .tup [.int (0), .int (1)], .tup [.int (0), .int (1)], .tup [.int (0), .int (1)], .tup [.int (0), .int (1)], .tup [.int (0), .int (1)], .tup [.int (0), .int (1)], .tup [.int (0), .int (1)]], .tup [.tup [.int (0), .int (2), .int (4), .int (6), .int (8), .int (10), .int (12), .int (14), .int (16), .int (18), .int (20), .int (22)], .tup [.int (1), .int (3), .int (5), .int (7), .int (9), .int (11), .int (13), .int (15), .int (17), .int (19), .int (21), .int (23)]]], .tup [.int (2)]], .tup [.int (3), .int (4), .int (5), .int (6), .int (7), .int (8), .int (9), .int (10), .int (11)])
theorem m12A19_ok : chkE tb wf [] 15 0 m12A19 = true := by kernel_rfl
def m12A20 : Nat × List W × W := (35, [.tup [.int (2), .tup [.tup [.int (0), .int (1)], .tup [.int (0), .int (1)], .tup [.int (0), .int (1)], .tup [.int (0), .int (1)], .tup [.int (0), .int (1)], .tup [.int (0), .int (1)], .tup [.int (0), .int (1)], .tup [.int (0), .int (1)], .tup [.int (0), .int (1)], .tup [.int (0), .int (1)], .tup [.int (0), .int (1)], .tup [.int (0), .int (1)]], .tup [.tup [.int (0), .int (2), .int (4), .int (6), .int (8), .int (10), .int (12), .int (14), .int (16), .int (18), .int (20), .int (22)], .tup [.int (1), .int (3), .int (5), .int (7), .int (9), .int (11), .int (13), .int (15), .int (17), .int (19), .int (21), .int (23)]]], .tup [.int (3)]], .tup [.int (4), .int (5), .int (6), .int (7), .int (8), .int (9), .int (10), .int (11)])
theorem m12A20_ok : chkE tb wf [] 15 0 m12A20 = true := by kernel_rfl
def m12A21 : Nat × List W × W := (35, [.tup [.int (2), .tup [.tup [.int (0), .int (1)], .tup [.int (0), .int (1)], .tup [.int (0), .int (1)], .tup [.int (0), .int (1)], .tup [.int (0), .int (1)], .tup [.int (0), .int (1)], .tup [.int (0), .int (1)], .tup [.int (0), .int (1)], .tup [.int (0), .int (1)], .tup [.int (0), .int (1)], .tup [.int (0), .int (1)], .tup [.int (0), .int (1)]], .tup [.tup [.int (0), .int (2), .int (4), .int (6), .int (8), .int (10), .int (12), .int (14), .int (16), .int (18), .int (20), .int (22)], .tup [.int (1), .int (3), .int (5), .int (7), .int (9), .int (11), .int (13), .int (15), .int (17), .int (19), .int (21), .int (23)]]], .tup [.int (4)]], .tup [.int (5), .int (6), .int (7), .int (8), .int (9), .int (10), .int (11)])
theorem m12A21_ok : chkE tb wf [] 15 0 m12A21 = true := by kernel_rfl
def m12A22 : Nat × List W × W := (35, [.tup [.int (2), .tup [.tup [.int (0), .int (1)], .tup [.int (0), .int (1)], .tup [.int (0), .int (1)], .tup [.int (0), .int (1)], .tup [.int (0), .int (1)], .tup [.int (0), .int (1)], .tup [.int (0), .int (1)], .tup [.int (0), .int (1)], .tup [.int (0), .int (1)], .tup [.int (0), .int (1)], .tup [.int (0), .int (1)], .tup [.int (0), .int (1)]], .tup [.tup [.int (0), .int (2), .int (4), .int (6), .int (8), .int (10), .int (12), .int (14), .int (16), .int (18), .int (20), .int (22)], .tup [.int (1), .int (3), .int (5), .int (7), .int (9), .int (11), .int (13), .int (15), .int (17), .int (19), .int (21), .int (23)]]], .tup [.int (5)]], .tup [.int (6), .int (7), .int (8), .int (9), .int (10), .int (11)])
theorem m12A22_ok : chkE tb wf [] 15 0 m12A22 = true := by kernel_rfl
def m12A23 : Nat × List W × W := (35, [.tup [.int (2), .tup [.tup [.int (0), .int (1)], .tup [.int (0), .int (1)], .tup [.int (0), .int (1)], .tup [.int (0), .int (1)], .tup [.int (0), .int (1)], .tup [.int (0), .int (1)], .tup [.int (0), .int (1)], .tup [.int (0), .int (1)], .tup [.int (0), .int (1)], .tup [.int (0), .int (1)], .tup [.int (0), .int (1)], .tup [.int (0), .int (1)]], .tup [.tup [.int (0), .int (2), .int (4), .int (6), .int (8), .int (10), .int (12), .int (14), .int (16), .int (18), .int (20), .int (22)], .tup [.int (1), .int (3), .int (5), .int (7), .int (9), .int (11), .int (13), .int (15), .int (17), .int (19), .int (21), .int (23)]]], .tup [.int (6)]], .tup [.int (7), .int (8), .int (9), .int (10), .int (11)])
theorem m12A23_ok : chkE tb wf [] 15 0 m12A23 = true := by kernel_rfl
def m12A24 : Nat × List W × W := (35, [.tup [.int (2), .tup [.tup [.int (0), .int (1)], .tup [.int (0), .int (1)], .tup [.int (0), .int (1)], .tup [.int (0), .int (1)], .tup [.int (0), .int (1)], .tup [.int (0), .int (1)], .tup [.int (0), .int (1)], .tup [.int (0), .int (1)], .tup [.int (0), .int (1)], .tup [.int (0), .int (1)], .tup [.int (0), .int (1)], .tup [.int (0), .int (1)]], .tup [.tup [.int (0), .int (2), .int (4), .int (6), .int (8), .int (10), .int (12), .int (14), .int (16), .int (18), .int (20), .int (22)], .tup [.int (1), .int (3), .int (5), .int (7), .int (9), .int (11), .int (13), .int (15), .int (17), .int (19), .int (21), .int (23)]]], .tup [.int (7)]], .tup [.int (8), .int (9), .int (10), .int (11)])
theorem m12A24_ok : chkE tb wf [] 15 0 m12A24 = true := by kernel_rfl
def m12A25 : Nat × List W × W := (35, [.tup [.int (2), .tup [.tup [.int (0), .int (1)], .tup [.int (0), .int (1)], .tup [.int (0), .int (1)], .tup [.int (0), .int (1)], .tup [.int (0), .int (1)], .tup [.int (0), .int (1)], .tup [.int (0), .int (1)], .tup [.int (0), .int (1)], .tup [.int (0), .int (1)], .tup [.int (0), .int (1)], .tup [.int (0), .int (1)], .tup [.int (0), .int (1)]], .tup [.tup [.int (0), .int (2), .int (4), .int (6), .int (8), .int (10), .int (12), .int (14), .int (16), .int (18), .int (20), .int (22)], .tup [.int (1), .int (3), .int (5), .int (7), .int (9), .int (11), .int (13), .int (15), .int (17), .int (19), .int (21), .int (23)]]], .tup [.int (8)]], .tup [.int (9), .int (10), .int (11)])
theorem m12A25_ok : chkE tb wf [] 15 0 m12A25 = true := by kernel_rfl
def m12A26 : Nat × List W × W := (35, [.tup [.int (2), .tup [.tup [.int (0), .int (1)], .tup [.int (0), .int (1)], .tup [.int (0), .int (1)], .tup [.int (0), .int (1)], .tup [.int (0), .int (1)], .tup [.int (0), .int (1)], .tup [.int (0), .int (1)], .tup [.int (0), .int (1)], .tup [.int (0), .int (1)], .tup [.int (0), .int (1)], .tup [.int (0), .int (1)], .tup [.int (0), .int (1)]], .tup [.tup [.int (0), .int (2), .int (4), .int (6), .int (8), .int (10), .int (12), .int (14), .int (16), .int (18), .int (20), .int (22)], .tup [.int (1), .int (3), .int (5), .int (7), .int (9), .int (11), .int (13), .int (15), .int (17), .int (19), .int (21), .int (23)]]], .tup [.int (9)]], .tup [.int (10), .int (11)])
theorem m12A26_ok : chkE tb wf [] 15 0 m12A26 = true := by kernel_rfl
def m12A27 : Nat × List W × W := (35, [.tup [.int (2), .tup [.tup [.int (0), .int (1)], .tup [.int (0), .int (1)], .tup [.int (0), .int (1)], .tup [.int (0), .int (1)], .tup [.int (0), .int (1)], .tup [.int (0), .int (1)], .tup [.int (0), .int (1)], .tup [.int (0), .int (1)], .tup [.int (0), .int (1)], .tup [.int (0), .int (1)], .tup [.int (0), .int (1)], .tup [.int (0), .int (1)]], .tup [.tup [.int (0), .int (2), .int (4), .int (6), .int (8), .int (10), .int (12), .int (14), .int (16), .int (18), .int (20), .int (22)], .tup [.int (1), .int (3), .int (5), .int (7), .int (9), .int (11), .int (13), .int (15), .int (17), .int (19), .int (21), .int (23)]]], .tup [.int (10)]], .tup [.int (11)])
theorem m12A27_ok : chkE tb wf [] 15 0 m12A27 = true := by kernel_rfl
def m12A28 : Nat × List W × W := (35, [.tup [.int (2), .tup [.tup [.int (0), .int (1)], .tup [.int (0), .int (1)], .tup [.int (0), .int (1)], .tup [.int (0), .int (1)], .tup [.int (0), .int (1)], .tup [.int (0), .int (1)], .tup [.int (0), .int (1)], .tup [.int (0), .int (1)], .tup [.int (0), .int (1)], .tup [.int (0), .int (1)], .tup [.int (0), .int (1)], .tup [.int (0), .int (1)]], .tup [.tup [.int (0), .int (2), .int (4), .int (6), .int (8), .int (10), .int (12), .int (14), .int (16), .int (18), .int (20), .int (22)], .tup [.int (1), .int (3), .int (5), .int (7), .int (9), .int (11), .int (13), .int (15), .int (17), .int (19), .int (21), .int (23)]]], .tup [.int (11)]], .tup [])
theorem m12A28_ok : chkE tb wf [] 15 0 m12A28 = true := by kernel_rfl
def m12A29 : Nat × List W × W := (11, [.tup [.int (2), .tup [.tup [.int (0), .int (1)], .tup [.int (0), .int (1)], .tup [.int (0), .int (1)], .tup [.int (0), .int (1)], .tup [.int (0), .int (1)], .tup [.int (0), .int (1)], .tup [.int (0), .int (1)], .tup [.int (0), .int (1)], .tup [.int (0), .int (1)], .tup [.int (0), .int (1)], .tup [.int (0), .int (1)], .tup [.int (0), .int (1)]], .tup [.tup [.int (0), .int (2), .int (4), .int (6), .int (8), .int (10), .int (12), .int (14), .int (16), .int (18), .int (20), .int (22)], .tup [.int (1), .int (3), .int (5), .int (7), .int (9), .int (11), .int (13), .int (15), .int (17), .int (19), .int (21), .int (23)]]], .int (0), .tup [.int (0), .int (0)]], .bl true)
theorem m12A29_ok : chkE tb wf [] 15 0 m12A29 = true := by kernel_rfl
def m12A30 : Nat × List W × W := (11, [.tup [.int (2), .tup [.tup [.int (0), .int (1)], .tup [.int (0), .int (1)], .tup [.int (0), .int (1)], .tup [.int (0), .int (1)], .tup [.int (0), .int (1)], .tup [.int (0), .int (1)], .tup [.int (0), .int (1)], .tup [.int (0), .int (1)], .tup [.int (0), .int (1)], .tup [.int (0), .int (1)], .tup [.int (0), .int (1)], .tup [.int (0), .int (1)]], .tup [.tup [.int (0), .int (2), .int (4), .int (6), .int (8), .int (10), .int (12), .int (14), .int (16), .int (18), .int (20), .int (22)], .tup [.int (1), .int (3), .int (5), .int (7), .int (9), .int (11), .int (13), .int (15), .int (17), .int (19), .int (21), .int (23)]]], .int (0), .tup [.int (0), .int (1)]], .bl true)
theorem m12A30_ok : chkE tb wf [] 15 0 m12A30 = true := by kernel_rfl
def m12A31 : Nat × List W × W := (11, [.tup [.int (2), .tup [.tup [.int (0), .int (1)], .tup [.int (0), .int (1)], .tup [.int (0), .int (1)], .tup [.int (0), .int (1)], .tup [.int (0), .int (1)], .tup [.int (0), .int (1)], .tup [.int (0), .int (1)], .tup [.int (0), .int (1)], .tup [.int (0), .int (1)], .tup [.int (0), .int (1)], .tup [.int (0), .int (1)], .tup [.int (0), .int (1)]], .tup [.tup [.int (0), .int (2), .int (4), .int (6), .int (8), .int (10), .int (12), .int (14), .int (16), .int (18), .int (20), .int (22)], .tup [.int (1), .int (3), .int (5), .int (7), .int (9), .int (11), .int (13), .int (15), .int (17), .int (19), .int (21), .int (23)]]], .int (0), .tup [.int (0), .int (2)]], .bl true)
theorem m12A31_ok : chkE tb wf [] 15 0 m12A31 = true := by kernel_rfl
def m12A32 : Nat × List W × W := (11, [.tup [.int (2), .tup [.tup [.int (0), .int (1)], .tup [.int (0), .int (1)], .tup [.int (0), .int (1)], .tup [.int (0), .int (1)], .tup [.int (0), .int (1)], .tup [.int (0), .int (1)], .tup [.int (0), .int (1)], .tup [.int (0), .int (1)], .tup [.int (0), .int (1)], .tup [.int (0), .int (1)], .tup [.int (0), .int (1)], .tup [.int (0), .int (1)]], .tup [.tup [.int (0), .int (2), .int (4), .int (6), .int (8), .int (10), .int (12), .int (14), .int (16), .int (18), .int (20), .int (22)], .tup [.int (1), .int (3), .int (5), .int (7), .int (9), .int (11), .int (13), .int (15), .int (17), .int (19), .int (21), .int (23)]]], .int (0), .tup [.int (0), .int (3)]], .bl true)
theorem m12A32_ok : chkE tb wf [] 15 0 m12A32 = true := by kernel_rfl
def m12A33 : Nat × List W × W := (11, [.tup [.int (2), .tup [.tup [.int (0), .int (1)], .tup [.int (0), .int (1)], .tup [.int (0), .int (1)], .tup [.int (0), .int (1)], .tup [.int (0), .int (1)], .tup [.int (0), .int (1)], .tup [.int (0), .int (1)], .tup [.int (0), .int (1)], .tup [.int (0), .int (1)], .tup [.int (0), .int (1)], .tup [.int (0), .int (1)], .tup [.int (0), .int (1)]], .tup [.tup [.int (0), .int (2), .int (4), .int (6), .int (8), .int (10), .int (12), .int (14), .int (16), .int (18), .int (20), .int (22)], .tup [.int (1), .int (3), .int (5), .int (7), .int (9), .int (11), .int (13), .int (15), .int (17), .int (19), .int (21), .int (23)]]], .int (0), .tup [.int (0), .int (4)]], .bl true)
theorem m12A33_ok : chkE tb wf [] 15 0 m12A33 = true := by kernel_rfl
def m12A34 : Nat × List W × W := (11, [.tup [.int (2), .tup [.tup [.int (0), .int (1)], .tup [.int (0), .int (1)], .tup [.int (0), .int (1)], .tup [.int (0), .int (1)], .tup [.int (0), .int (1)], .tup [.int (0), .int (1)], .tup [.int (0), .int (1)], .tup [.int (0), .int (1)], .tup [.int (0), .int (1)], .tup [.int (0), .int (1)], .tup [.int (0), .int (1)], .tup [.int (0), .int (1)]], .tup [.tup [.int (0), .int (2), .int (4), .int (6), .int (8), .int (10), .int (12), .int (14), .int (16), .int (18), .int (20), .int (22)], .tup [.int (1), .int (3), .int (5), .int (7), .int (9), .int (11), .int (13), .int (15), .int (17), .int (19), .int (21), .int (23)]]], .int (0), .tup [.int (0), .int (5)]], .bl true)
theorem m12A34_ok : chkE tb wf [] 15 0 m12A34 = true := by kernel_rfl
def m12A35 : Nat × List W × W := (11, [.tup [.int (2), .tup [.tup [.int (0), .int (1)], .tup [.int (0), .int (1)], .tup [.int (0), .int (1)], .tup [.int (0), .int (1)], .tup [.int (0), .int (1)], .tup [.int (0), .int (1)], .tup [.int (0), .int (1)], .tup [.int (0), .int (1)], .tup [.int (0), .int (1)], .tup [.int (0), .int (1)], .tup [.int (0), .int (1)], .tup [.int (0), .int (1)]], .tup [.tup [.int (0), .int (2), .int (4), .int (6), .int (8), .int (10), .int (12), .int (14), .int (16), .int (18), .int (20), .int (22)], .tup [.int (1), .int (3), .int (5), .int (7), .int (9), .int (11), .int (13), .int (15), .int (17), .int (19), .int (21), .int (23)]]], .int (0), .tup [.int (0), .int (6)]], .bl true)
theorem m12A35_ok : chkE tb wf [] 15 0 m12A35 = true := by kernel_rfl
def m12A36 : Nat × List W × W := (11, [.tup [.int (2), .tup [.tup [.int (0), .int (1)], .tup [.int (0), .int (1)], .tup [.int (0), .int (1)], .tup [.int (0), .int (1)], .tup [.int (0), .int (1)], .tup [.int (0), .int (1)], .tup [.int (0), .int (1)], .tup [.int (0), .int (1)], .tup [.int (0), .int (1)], .tup [.int (0), .int (1)], .tup [.int (0), .int (1)], .tup [.int (0), .int (1)]], .tup [.tup [.int (0), .int (2), .int (4), .int (6), .int (8), .int (10), .int (12), .int (14), .int (16), .int (18), .int (20), .int (22)], .tup [.int (1), .int (3), .int (5), .int (7), .int (9), .int (11), .int (13), .int (15), .int (17), .int (19), .int (21), .int (23)]]], .int (0), .tup [.int (0), .int (7)]], .bl true)
theorem m12A36_ok : chkE tb wf [] 15 0 m12A36 = true := by kernel_rfl
def m12A37 : Nat × List W × W := (11, [.tup [.int (2), .tup [.tup [.int (0), .int (1)], .tup [.int (0), .int (1)], .tup [.int (0), .int (1)], .tup [.int (0), .int (1)], .tup [.int (0), .int (1)], .tup [.int (0), .int (1)], .tup [.int (0), .int (1)], .tup [.int (0), .int (1)], .tup [.int (0), .int (1)], .tup [.int (0), .int (1)], .tup [.int (0), .int (1)], .tup [.int (0), .int (1)]], .tup [.tup [.int (0), .int (2), .int (4), .int (6), .int (8), .int (10), .int (12), .int (14), .int (16), .int (18), .int (20), .int (22)], .tup [.int (1), .int (3), .int (5), .int (7), .int (9), .int (11), .int (13), .int (15), .int (17), .int (19), .int (21), .int (23)]]], .int (0), .tup [.int (0), .int (8)]], .bl true)
theorem m12A37_ok : chkE tb wf [] 15 0 m12A37 = true := by kernel_rfl
def m12A38 : Nat × List W × W := (11, [.tup [.int (2), .tup [.tup [.int (0), .int (1)], .tup [.int (0), .int (1)], .tup [.int (0), .int (1)], .tup [.int (0), .int (1)], .tup [.int (0), .int (1)], .tup [.int (0), .int (1)], .tup [.int (0), .int (1)], .tup [.int (0), .int (1)], .tup [.int (0), .int (1)], .tup [.int (0), .int (1)], .tup [.int (0), .int (1)], .tup [.int (0), .int (1)]], .tup [.tup [.int (0), .int (2), .int (4), .int (6), .int (8), .int (10), .int (12), .int (14), .int (16), .int (18), .int (20), .int (22)], .tup [.int (1), .int (3), .int (5), .int (7), .int (9), .int (11), .int (13), .int (15), .int (17), .int (19), .int (21), .int (23)]]], .int (0), .tup [.int (0), .int (9)]], .bl true)
theorem m12A38_ok : chkE tb wf [] 15 0 m12A38 = true := by kernel_rfl
def m12A39 : Nat × List W × W := (11, [.tup [.int (2), .tup [.tup [.int (0), .int (1)], .tup [.int (0), .int (1)], .tup [.int (0), .int (1)], .tup [.int (0), .int (1)], .tup [.int (0), .int (1)], .tup [.int (0), .int (1)], .tup [.int (0), .int (1)], .tup [.int (0), .int (1)], .tup [.int (0), .int (1)], .tup [.int (0), .int (1)], .tup [.int (0), .int (1)], .tup [.int (0), .int (1)]], .tup [.tup [.int (0), .int (2), .int (4), .int (6), .int (8), .int (10), .int (12), .int (14), .int (16), .int (18), .int (20), .int (22)], .tup [.int (1), .int (3), .int (5), .int (7), .int (9), .int (11), .int (13), .int (15), .int (17), .int (19), .int (21), .int (23)]]], .int (0), .tup [.int (0), .int (10)]], .bl true)
theorem m12A39_ok : chkE tb wf [] 15 0 m12A39 = true := by kernel_rfl
def m12A40 : Nat × List W × W := (11, [.tup [.int (2), .tup [.tup [.int (0), .int (1)], .tup [.int (0), .int (1)], .tup [.int (0), .int (1)], .tup [.int (0), .int (1)], .tup [.int (0), .int (1)], .tup [.int (0), .int (1)], .tup [.int (0), .int (1)], .tup [.int (0), .int (1)], .tup [.int (0), .int (1)], .tup [.int (0), .int (1)], .tup [.int (0), .int (1)], .tup [.int (0), .int (1)]], .tup [.tup [.int (0), .int (2), .int (4), .int (6), .int (8), .int (10), .int (12), .int (14), .int (16), .int (18), .int (20), .int (22)], .tup [.int (1), .int (3), .int (5), .int (7), .int (9), .int (11), .int (13), .int (15), .int (17), .int (19), .int (21), .int (23)]]], .int (0), .tup [.int (0), .int (11)]], .bl true)
theorem m12A40_ok : chkE tb wf [] 15 0 m12A40 = true := by kernel_rfl
def m12TA : List (Nat × List W × W) := [m12A0, m12A1, m12A2, m12A3, m12A4, m12A5, m12A6, m12A7, m12A8, m12A9, m12A10, m12A11, m12A12, m12A13, m12A14, m12A15, m12A16, m12A17, m12A18, m12A19, m12A20, m12A21, m12A22, m12A23, m12A24, m12A25, m12A26, m12A27, m12A28, m12A29, m12A30, m12A31, m12A32, m12A33, m12A34, m12A35, m12A36, m12A37, m12A38, m12A39, m12A40]
theorem m12TA_ok : Val tb wf m12TA 16 := Val.put (k := 0) rfl (Val.nil tb wf 15) m12A0_ok (Val.put (k := 0) rfl (Val.nil tb wf 15) m12A1_ok (Val.put (k := 0) rfl (Val.nil tb wf 15) m12A2_ok (Val.put (k := 0) rfl (Val.nil tb wf 15) m12A3_ok (Val.put (k := 0) rfl (Val.nil tb wf 15) m12A4_ok (Val.put (k := 0) rfl (Val.nil tb wf 15) m12A5_ok (Val.put (k := 0) rfl (Val.nil tb wf 15) m12A6_ok (Val.put (k := 0) rfl (Val.nil tb wf 15) m12A7_ok (Val.put (k := 0) rfl (Val.nil tb wf 15) m12A8_ok (Val.put (k := 0) rfl (Val.nil tb wf 15) m12A9_ok (Val.put (k := 0) rfl (Val.nil tb wf 15) m12A10_ok (Val.put (k := 0) rfl (Val.nil tb wf 15) m12A11_ok (Val.put (k := 0) rfl (Val.nil tb wf 15) m12A12_ok (Val.put (k := 0) rfl (Val.nil tb wf 15) m12A13_ok (Val.put (k := 0) rfl (Val.nil tb wf 15) m12A14_ok (Val.put (k := 0) rfl (Val.nil tb wf 15) m12A15_ok (Val.put (k := 0) rfl (Val.nil tb wf 15) m12A16_ok (Val.put (k := 0) rfl (Val.nil tb wf 15) m12A17_ok (Val.put (k := 0) rfl (Val.nil tb wf 15) m12A18_ok (Val.put (k := 0) rfl (Val.nil tb wf 15) m12A19_ok (Val.put (k := 0) rfl (Val.nil tb wf 15) m12A20_ok (Val.put (k := 0) rfl (Val.nil tb wf 15) m12A21_ok (Val.put (k := 0) rfl (Val.nil tb wf 15) m12A22_ok (Val.put (k := 0) rfl (Val.nil tb wf 15) m12A23_ok (Val.put (k := 0) rfl (Val.nil tb wf 15) m12A24_ok (Val.put (k := 0) rfl (Val.nil tb wf 15) m12A25_ok (Val.put (k := 0) rfl (Val.nil tb wf 15) m12A26_ok (Val.put (k := 0) rfl (Val.nil tb wf 15) m12A27_ok (Val.put (k := 0) rfl (Val.nil tb wf 15) m12A28_ok (Val.put (k := 0) rfl (Val.nil tb wf 15) m12A29_ok (Val.put (k := 0) rfl (Val.nil tb wf 15) m12A30_ok (Val.put (k := 0) rfl (Val.nil tb wf 15) m12A31_ok (Val.put (k := 0) rfl (Val.nil tb wf 15) m12A32_ok (Val.put (k := 0) rfl (Val.nil tb wf 15) m12A33_ok (Val.put (k := 0) rfl (Val.nil tb wf 15) m12A34_ok (Val.put (k := 0) rfl (Val.nil tb wf 15) m12A35_ok (Val.put (k := 0) rfl (Val.nil tb wf 15) m12A36_ok (Val.put (k := 0) rfl (Val.nil tb wf 15) m12A37_ok (Val.put (k := 0) rfl (Val.nil tb wf 15) m12A38_ok (Val.put (k := 0) rfl (Val.nil tb wf 15) m12A39_ok (Val.put (k := 0) rfl (Val.nil tb wf 15) m12A40_ok (Val.nil tb wf 16)))))))))))))))))))))))))))))))))))))))))
def m12B0 : Nat × List W × W := (32, [.tup [.int (2), .tup [.tup [.int (0), .int (1)], .tup [.int (0), .int (1)], .tup [.int (0), .int (1)], .tup [.int (0), .int (1)], .tup [.int (0), .int (1)], .tup [.int (0), .int (1)], .tup [.int (0), .int (1)], .tup [.int (0), .int (1)], .tup [.int (0), .int (1)], .tup [.int (0), .int (1)], .tup [.int (0), .int (1)], .tup [.int (0), .int (1)]], .tup [.tup [.int (0), .int (2), .int (4), .int (6), .int (8), .int (10), .int (12), .int (14), .int (16), .int (18), .int (20), .int (22)], .tup [.int (1), .int (3), .int (5), .int (7), .int (9), .int (11), .int (13), .int (15), .int (17), .int (19), .int (21), .int (23)]]], .int (0), .tup [.int (0)], .str "numbers"], .tup [.int (0), .int (11)])
theorem m12B0_ok : chkE tb wf m12TA 16 8 m12B0 = true := by kernel_rfl
def m12B1 : Nat × List W × W := (32, [.tup [.int (2), .tup [.tup [.int (0), .int (1)], .tup [.int (0), .int (1)], .tup [.int (0), .int (1)], .tup [.int (0), .int (1)], .tup [.int (0), .int (1)], .tup [.int (0), .int (1)], .tup [.int (0), .int (1)], .tup [.int (0), .int (1)], .tup [.int (0), .int (1)], .tup [.int (0), .int (1)], .tup [.int (0), .int (1)], .tup [.int (0), .int (1)]], .tup [.tup [.int (0), .int (2), .int (4), .int (6), .int (8), .int (10), .int (12), .int (14), .int (16), .int (18), .int (20), .int (22)], .tup [.int (1), .int (3), .int (5), .int (7), .int (9), .int (11), .int (13), .int (15), .int (17), .int (19), .int (21), .int (23)]]], .int (0), .tup [.int (1)], .str "numbers"], .tup [.int (0), .int (10)])
theorem m12B1_ok : chkE tb wf m12TA 16 8 m12B1 = true := by kernel_rfl
def m12B2 : Nat × List W × W := (32, [.tup [.int (2), .tup [.tup [.int (0), .int (1)], .tup [.int (0), .int (1)], .tup [.int (0), .int (1)], .tup [.int (0), .int (1)], .tup [.int (0), .int (1)], .tup [.int (0), .int (1)], .tup [.int (0), .int (1)], .tup [.int (0), .int (1)], .tup [.int (0), .int (1)], .tup [.int (0), .int (1)], .tup [.int (0), .int (1)], .tup [.int (0), .int (1)]], .tup [.tup [.int (0), .int (2), .int (4), .int (6), .int (8), .int (10), .int (12), .int (14), .int (16), .int (18), .int (20), .int (22)], .tup [.int (1), .int (3), .int (5), .int (7), .int (9), .int (11), .int (13), .int (15), .int (17), .int (19), .int (21), .int (23)]]], .int (0), .tup [.int (2)], .str "numbers"], .tup [.int (0), .int (9)])
theorem m12B2_ok : chkE tb wf m12TA 16 8 m12B2 = true := by kernel_rfl
def m12B3 : Nat × List W × W := (32, [.tup [.int (2), .tup [.tup [.int (0), .int (1)], .tup [.int (0), .int (1)], .tup [.int (0), .int (1)], .tup [.int (0), .int (1)], .tup [.int (0), .int (1)], .tup [.int (0), .int (1)], .tup [.int (0), .int (1)], .tup [.int (0), .int (1)], .tup [.int (0), .int (1)], .tup [.int (0), .int (1)], .tup [.int (0), .int (1)], .tup [.int (0), .int (1)]], .tup [.tup [.int (0), .int (2), .int (4), .int (6), .int (8), .int (10), .int (12), .int (14), .int (16), .int (18), .int (20), .int (22)], .tup [.int (1), .int (3), .int (5), .int (7), .int (9), .int (11), .int (13), .int (15), .int (17), .int (19), .int (21), .int (23)]]], .int (0), .tup [.int (3)], .str "numbers"], .tup [.int (0), .int (8)])
theorem m12B3_ok : chkE tb wf m12TA 16 8 m12B3 = true := by kernel_rfl
def m12B4 : Nat × List W × W := (32, [.tup [.int (2), .tup [.tup [.int (0), .int (1)], .tup [.int (0), .int (1)], .tup [.int (0), .int (1)], .tup [.int (0), .int (1)], .tup [.int (0), .int (1)], .tup [.int (0), .int (1)], .tup [.int (0), .int (1)], .tup [.int (0), .int (1)], .tup [.int (0), .int (1)], .tup [.int (0), .int (1)], .tup [.int (0), .int (1)], .tup [.int (0), .int (1)]], .tup [.tup [.int (0), .int (2), .int (4), .int (6), .int (8), .int (10), .int (12), .int (14), .int (16), .int (18), .int (20), .int (22)], .tup [.int (1), .int (3), .int (5), .int (7), .int (9), .int (11), .int (13), .int (15), .int (17), .int (19), .int (21), .int (23)]]], .int (0), .tup [.int (4)], .str "numbers"], .tup [.int (0), .int (7)])
theorem m12B4_ok : chkE tb wf m12TA 16 8 m12B4 = true := by kernel_rfl
def m12B5 : Nat × List W × W := (32, [.tup [.int (2), .tup [.tup [.int (0), .int (1)], .tup [.int (0), .int (1)], .tup [.int (0), .int (1)], .tup [.int (0), .int (1)], .tup [.int (0), .int (1)], .tup [.int (0), .int (1)], .tup [.int (0), .int (1)], .tup [.int (0), .int (1)], .tup [.int (0), .int (1)], .tup [.int (0), .int (1)], .tup [.int (0), .int (1)], .tup [.int (0), .int (1)]], .tup [.tup [.int (0), .int (2), .int (4), .int (6), .int (8), .int (10), .int (12), .int (14), .int (16), .int (18), .int (20), .int (22)], .tup [.int (1), .int (3), .int (5), .int (7), .int (9), .int (11), .int (13), .int (15), .int (17), .int (19), .int (21), .int (23)]]], .int (0), .tup [.int (5)], .str "numbers"], .tup [.int (0), .int (6)])
theorem m12B5_ok : chkE tb wf m12TA 16 8 m12B5 = true := by kernel_rfl
def m12B6 : Nat × List W × W := (32, [.tup [.int (2), .tup [.tup [.int (0), .int (1)], .tup [.int (0), .int (1)], .tup [.int (0), .int (1)], .tup [.int (0), .int (1)], .tup [.int (0), .int (1)], .tup [.int (0), .int (1)], .tup [.int (0), .int (1)], .tup [.int (0), .int (1)], .tup [.int (0), .int (1)], .tup [.int (0), .int (1)], .tup [.int (0), .int (1)], .tup [.int (0), .int (1)]], .tup [.tup [.int (0), .int (2), .int (4), .int (6), .int (8), .int (10), .int (12), .int (14), .int (16), .int (18), .int (20), .int (22)], .tup [.int (1), .int (3), .int (5), .int (7), .int (9), .int (11), .int (13), .int (15), .int (17), .int (19), .int (21), .int (23)]]], .int (0), .tup [.int (6)], .str "numbers"], .tup [.int (0), .int (5)])
theorem m12B6_ok : chkE tb wf m12TA 16 8 m12B6 = true := by kernel_rfl
def m12B7 : Nat × List W × W := (32, [.tup [.int (2), .tup [.tup [.int (0), .int (1)], .tup [.int (0), .int (1)], .tup [.int (0), .int (1)], .tup [.int (0), .int (1)], .tup [.int (0), .int (1)], .tup [.int (0), .int (1)], .tup [.int (0), .int (1)], .tup [.int (0), .int (1)], .tup [.int (0), .int (1)], .tup [.int (0), .int (1)], .tup [.int (0), .int (1)], .tup [.int (0), .int (1)]], .tup [.tup [.int (0), .int (2), .int (4), .int (6), .int (8), .int (10), .int (12), .int (14), .int (16), .int (18), .int (20), .int (22)], .tup [.int (1), .int (3), .int (5), .int (7), .int (9), .int (11), .int (13), .int (15), .int (17), .int (19), .int (21), .int (23)]]], .int (0), .tup [.int (7)], .str "numbers"], .tup [.int (0), .int (4)])
theorem m12B7_ok : chkE tb wf m12TA 16 8 m12B7 = true := by kernel_rfl
def m12B8 : Nat × List W × W := (32, [.tup [.int (2), .tup [.tup [.int (0), .int (1)], .tup [.int (0), .int (1)], .tup [.int (0), .int (1)], .tup [.int (0), .int (1)], .tup [.int (0), .int (1)], .tup [.int (0), .int (1)], .tup [.int (0), .int (1)], .tup [.int (0), .int (1)], .tup [.int (0), .int (1)], .tup [.int (0), .int (1)], .tup [.int (0), .int (1)], .tup [.int (0), .int (1)]], .tup [.tup [.int (0), .int (2), .int (4), .int (6), .int (8), .int (10), .int (12), .int (14), .int (16), .int (18), .int (20), .int (22)], .tup [.int (1), .int (3), .int (5), .int (7), .int (9), .int (11), .int (13), .int (15), .int (17), .int (19), .int (21), .int (23)]]], .int (0), .tup [.int (8)], .str "numbers"], .tup [.int (0), .int (3)])
theorem m12B8_ok : chkE tb wf m12TA 16 8 m12B8 = true := by kernel_rfl
def m12B9 : Nat × List W × W := (32, [.tup [.int (2), .tup [.tup [.int (0), .int (1)], .tup [.int (0), .int (1)], .tup [.int (0), .int (1)], .tup [.int (0), .int (1)], .tup [.int (0), .int (1)], .tup [.int (0), .int (1)], .tup [.int (0), .int (1)], .tup [.int (0), .int (1)], .tup [.int (0), .int (1)], .tup [.int (0), .int (1)], .tup [.int (0), .int (1)], .tup [.int (0), .int (1)]], .tup [.tup [.int (0), .int (2), .int (4), .int (6), .int (8), .int (10), .int (12), .int (14), .int (16), .int (18), .int (20), .int (22)], .tup [.int (1), .int (3), .int (5), .int (7), .int (9), .int (11), .int (13), .int (15), .int (17), .int (19), .int (21), .int (23)]]], .int (0), .tup [.int (9)], .str "numbers"], .tup [.int (0), .int (2)])
theorem m12B9_ok : chkE tb wf m12TA 16 8 m12B9 = true := by kernel_rfl
def m12B10 : Nat × List W × W := (32, [.tup [.int (2), .tup [.tup [.int (0), .int (1)], .tup [.int (0), .int (1)], .tup [.int (0), .int (1)], .tup [.int (0), .int (1)], .tup [.int (0), .int (1)], .tup [.int (0), .int (1)], .tup [.int (0), .int (1)], .tup [.int (0), .int (1)], .tup [.int (0), .int (1)], .tup [.int (0), .int (1)], .tup [.int (0), .int (1)], .tup [.int (0), .int (1)]], .tup [.tup [.int (0), .int (2), .int (4), .int (6), .int (8), .int (10), .int (12), .int (14), .int (16), .int (18), .int (20), .int (22)], .tup [.int (1), .int (3), .int (5), .int (7), .int (9), .int (11), .int (13), .int (15), .int (17), .int (19), .int (21), .int (23)]]], .int (0), .tup [.int (10)], .str "numbers"], .tup [.int (0), .int (1)])
theorem m12B10_ok : chkE tb wf m12TA 16 8 m12B10 = true := by kernel_rfl
def m12B11 : Nat × List W × W := (32, [.tup [.int (2), .tup [.tup [.int (0), .int (1)], .tup [.int (0), .int (1)], .tup [.int (0), .int (1)], .tup [.int (0), .int (1)], .tup [.int (0), .int (1)], .tup [.int (0), .int (1)], .tup [.int (0), .int (1)], .tup [.int (0), .int (1)], .tup [.int (0), .int (1)], .tup [.int (0), .int (1)], .tup [.int (0), .int (1)], .tup [.int (0), .int (1)]], .tup [.tup [.int (0), .int (2), .int (4), .int (6), .int (8), .int (10), .int (12), .int (14), .int (16), .int (18), .int (20), .int (22)], .tup [.int (1), .int (3), .int (5), .int (7), .int (9), .int (11), .int (13), .int (15), .int (17), .int (19), .int (21), .int (23)]]], .int (0), .tup [.int (11)], .str "numbers"], .tup [.int (0), .int (0)])
theorem m12B11_ok : chkE tb wf m12TA 16 8 m12B11 = true := by kernel_rfl
def m12B12 : Nat × List W × W := (38, [.tup [.int (2), .tup [.tup [.int (0), .int (1)], .tup [.int (0), .int (1)], .tup [.int (0), .int (1)], .tup [.int (0), .int (1)], .tup [.int (0), .int (1)], .tup [.int (0), .int (1)], .tup [.int (0), .int (1)], .tup [.int (0), .int (1)], .tup [.int (0), .int (1)], .tup [.int (0), .int (1)], .tup [.int (0), .int (1)], .tup [.int (0), .int (1)]], .tup [.tup [.int (0), .int (2), .int (4), .int (6), .int (8), .int (10), .int (12), .int (14), .int (16), .int (18), .int (20), .int (22)], .tup [.int (1), .int (3), .int (5), .int (7), .int (9), .int (11), .int (13), .int (15), .int (17), .int (19), .int (21), .int (23)]]], .int (0)], .tup [.int (0), .int (0)])
theorem m12B12_ok : chkE tb wf m12TA 16 8 m12B12 = true := by kernel_rfl
def m12B13 : Nat × List W × W := (36, [.tup [.int (2), .tup [.tup [.int (0), .int (1)], .tup [.int (0), .int (1)], .tup [.int (0), .int (1)], .tup [.int (0), .int (1)], .tup [.int (0), .int (1)], .tup [.int (0), .int (1)], .tup [.int (0), .int (1)], .tup [.int (0), .int (1)], .tup [.int (0), .int (1)], .tup [.int (0), .int (1)], .tup [.int (0), .int (1)], .tup [.int (0), .int (1)]], .tup [.tup [.int (0), .int (2), .int (4), .int (6), .int (8), .int (10), .int (12), .int (14), .int (16), .int (18), .int (20), .int (22)], .tup [.int (1), .int (3), .int (5), .int (7), .int (9), .int (11), .int (13), .int (15), .int (17), .int (19), .int (21), .int (23)]]]], .tup [.int (1), .int (1), .int (1), .int (1), .int (1), .int (1), .int (1), .int (1), .int (1), .int (1), .int (1), .int (1)])
theorem m12B13_ok : chkE tb wf m12TA 16 8 m12B13 = true := by kernel_rfl
def m12B14 : Nat × List W × W := (4, [.tup [.int (2), .tup [.tup [.int (0), .int (1)], .tup [.int (0), .int (1)], .tup [.int (0), .int (1)], .tup [.int (0), .int (1)], .tup [.int (0), .int (1)], .tup [.int (0), .int (1)], .tup [.int (0), .int (1)], .tup [.int (0), .int (1)], .tup [.int (0), .int (1)], .tup [.int (0), .int (1)], .tup [.int (0), .int (1)], .tup [.int (0), .int (1)]], .tup [.tup [.int (0), .int (2), .int (4), .int (6), .int (8), .int (10), .int (12), .int (14), .int (16), .int (18), .int (20), .int (22)], .tup [.int (1), .int (3), .int (5), .int (7), .int (9), .int (11), .int (13), .int (15), .int (17), .int (19), .int (21), .int (23)]]], .int (0), .tup [.int (0), .int (24)]], .tup [.int (0), .int (0)])
theorem m12B14_ok : chkE tb wf m12TA 16 8 m12B14 = true := by kernel_rfl
def m12B15 : Nat × List W × W := (4, [.tup [.int (2), .tup [.tup [.int (0), .int (1)], .tup [.int (0), .int (1)], .tup [.int (0), .int (1)], .tup [.int (0), .int (1)], .tup [.int (0), .int (1)], .tup [.int (0), .int (1)], .tup [.int (0), .int (1)], .tup [.int (0), .int (1)], .tup [.int (0), .int (1)], .tup [.int (0), .int (1)], .tup [.int (0), .int (1)], .tup [.int (0), .int (1)]], .tup [.tup [.int (0), .int (2), .int (4), .int (6), .int (8), .int (10), .int (12), .int (14), .int (16), .int (18), .int (20), .int (22)], .tup [.int (1), .int (3), .int (5), .int (7), .int (9), .int (11), .int (13), .int (15), .int (17), .int (19), .int (21), .int (23)]]], .int (0), .tup [.int (0), .int (85)]], .tup [.int (0), .int (1)])
theorem m12B15_ok : chkE tb wf m12TA 16 8 m12B15 = true := by kernel_rfl
def m12B16 : Nat × List W × W := (4, [.tup [.int (2), .tup [.tup [.int (0), .int (1)], .tup [.int (0), .int (1)], .tup [.int (0), .int (1)], .tup [.int (0), .int (1)], .tup [.int (0), .int (1)], .tup [.int (0), .int (1)], .tup [.int (0), .int (1)], .tup [.int (0), .int (1)], .tup [.int (0), .int (1)], .tup [.int (0), .int (1)], .tup [.int (0), .int (1)], .tup [.int (0), .int (1)]], .tup [.tup [.int (0), .int (2), .int (4), .int (6), .int (8), .int (10), .int (12), .int (14), .int (16), .int (18), .int (20), .int (22)], .tup [.int (1), .int (3), .int (5), .int (7), .int (9), .int (11), .int (13), .int (15), .int (17), .int (19), .int (21), .int (23)]]], .int (0), .tup [.int (0), .int (12)]], .tup [.int (0), .int (0)])
theorem m12B16_ok : chkE tb wf m12TA 16 8 m12B16 = true := by kernel_rfl
def m12B17 : Nat × List W × W := (4, [.tup [.int (2), .tup [.tup [.int (0), .int (1)], .tup [.int (0), .int (1)], .tup [.int (0), .int (1)], .tup [.int (0), .int (1)], .tup [.int (0), .int (1)], .tup [.int (0), .int (1)], .tup [.int (0), .int (1)], .tup [.int (0), .int (1)], .tup [.int (0), .int (1)], .tup [.int (0), .int (1)], .tup [.int (0), .int (1)], .tup [.int (0), .int (1)]], .tup [.tup [.int (0), .int (2), .int (4), .int (6), .int (8), .int (10), .int (12), .int (14), .int (16), .int (18), .int (20), .int (22)], .tup [.int (1), .int (3), .int (5), .int (7), .int (9), .int (11), .int (13), .int (15), .int (17), .int (19), .int (21), .int (23)]]], .int (0), .tup [.int (0), .int (19)]], .tup [.int (0), .int (7)])
theorem m12B17_ok : chkE tb wf m12TA 16 8 m12B17 = true := by kernel_rfl
def m12B18 : Nat × List W × W := (31, [.tup [.int (2), .tup [.tup [.int (0), .int (1)], .tup [.int (0), .int (1)], .tup [.int (0), .int (1)], .tup [.int (0), .int (1)], .tup [.int (0), .int (1)], .tup [.int (0), .int (1)], .tup [.int (0), .int (1)], .tup [.int (0), .int (1)], .tup [.int (0), .int (1)], .tup [.int (0), .int (1)], .tup [.int (0), .int (1)], .tup [.int (0), .int (1)]], .tup [.tup [.int (0), .int (2), .int (4), .int (6), .int (8), .int (10), .int (12), .int (14), .int (16), .int (18), .int (20), .int (22)], .tup [.int (1), .int (3), .int (5), .int (7), .int (9), .int (11), .int (13), .int (15), .int (17), .int (19), .int (21), .int (23)]]], .int (0), .tup [.int (0), .int (0)], .str "numbers"], .tup [.int (11)])
theorem m12B18_ok : chkE tb wf m12TA 16 8 m12B18 = true := by kernel_rfl
def m12B19 : Nat × List W × W := (31, [.tup [.int (2), .tup [.tup [.int (0), .int (1)], .tup [.int (0), .int (1)], .tup [.int (0), .int (1)], .tup [.int (0), .int (1)], .tup [.int (0), .int (1)], .tup [.int (0), .int (1)], .tup [.int (0), .int (1)], .tup [.int (0), .int (1)], .tup [.int (0), .int (1)], .tup [.int (0), .int (1)], .tup [.int (0), .int (1)], .tup [.int (0), .int (1)]], .tup [.tup [.int (0), .int (2), .int (4), .int (6), .int (8), .int (10), .int (12), .int (14), .int (16), .int (18), .int (20), .int (22)], .tup [.int (1), .int (3), .int (5), .int (7), .int (9), .int (11), .int (13), .int (15), .int (17), .int (19), .int (21), .int (23)]]], .int (0), .tup [.int (0), .int (1)], .str "numbers"], .tup [.int (10)])
theorem m12B19_ok : chkE tb wf m12TA 16 8 m12B19 = true := by kernel_rfl
def m12B20 : Nat × List W × W := (31, [.tup [.int (2), .tup [.tup [.int (0), .int (1)], .tup [.int (0), .int (1)], .tup [.int (0), .int (1)], .tup [.int (0), .int (1)], .tup [.int (0), .int (1)], .tup [.int (0), .int (1)], .tup [.int (0), .int (1)], .tup [.int (0), .int (1)], .tup [.int (0), .int (1)], .tup [.int (0), .int (1)], .tup [.int (0), .int (1)], .tup [.int (0), .int (1)]], .tup [.tup [.int (0), .int (2), .int (4), .int (6), .int (8), .int (10), .int (12), .int (14), .int (16), .int (18), .int (20), .int (22)], .tup [.int (1), .int (3), .int (5), .int (7), .int (9), .int (11), .int (13), .int (15), .int (17), .int (19), .int (21), .int (23)]]], .int (0), .tup [.int (0), .int (2)], .str "numbers"], .tup [.int (9)])
theorem m12B20_ok : chkE tb wf m12TA 16 8 m12B20 = true := by kernel_rfl
def m12B21 : Nat × List W × W := (31, [.tup [.int (2), .tup [.tup [.int (0), .int (1)], .tup [.int (0), .int (1)], .tup [.int (0), .int (1)], .tup [.int (0), .int (1)], .tup [.int (0), .int (1)], .tup [.int (0), .int (1)], .tup [.int (0), .int (1)], .tup [.int (0), .int (1)], .tup [.int (0), .int (1)], .tup [.int (0), .int (1)], .tup [.int (0), .int (1)], .tup [.int (0), .int (1)]], .tup [.tup [.int (0), .int (2), .int (4), .int (6), .int (8), .int (10), .int (12), .int (14), .int (16), .int (18), .int (20), .int (22)], .tup [.int (1), .int (3), .int (5), .int (7), .int (9), .int (11), .int (13), .int (15), .int (17), .int (19), .int (21), .int (23)]]], .int (0), .tup [.int (0), .int (3)], .str "numbers"], .tup [.int (8)])
theorem m12B21_ok : chkE tb wf m12TA 16 8 m12B21 = true := by kernel_rfl
def m12B22 : Nat × List W × W := (31, [.tup [.int (2), .tup [.tup [.int (0), .int (1)], .tup [.int (0), .int (1)], .tup [.int (0), .int (1)], .tup [.int (0), .int (1)], .tup [.int (0), .int (1)], .tup [.int (0), .int (1)], .tup [.int (0), .int (1)], .tup [.int (0), .int (1)], .tup [.int (0), .int (1)], .tup [.int (0), .int (1)], .tup [.int (0), .int (1)], .tup [.int (0), .int (1)]], .tup [.tup [.int (0), .int (2), .int (4), .int (6), .int (8), .int (10), .int (12), .int (14), .int (16), .int (18), .int (20), .int (22)], .tup [.int (1), .int (3), .int (5), .int (7), .int (9), .int (11), .int (13), .int (15), .int (17), .int (19), .int (21), .int (23)]]], .int (0), .tup [.int (0), .int (4)], .str "numbers"], .tup [.int (7)])
theorem m12B22_ok : chkE tb wf m12TA 16 8 m12B22 = true := by kernel_rfl
def m12B23 : Nat × List W × W := (31, [.tup [.int (2), .tup [.tup [.int (0), .int (1)], .tup [.int (0), .int (1)], .tup [.int (0), .int (1)], .tup [.int (0), .int (1)], .tup [.int (0), .int (1)], .tup [.int (0), .int (1)], .tup [.int (0), .int (1)], .tup [.int (0), .int (1)], .tup [.int (0), .int (1)], .tup [.int (0), .int (1)], .tup [.int (0), .int (1)], .tup [.int (0), .int (1)]], .tup [.tup [.int (0), .int (2), .int (4), .int (6), .int (8), .int (10), .int (12), .int (14), .int (16), .int (18), .int (20), .int (22)], .tup [.int (1), .int (3), .int (5), .int (7), .int (9), .int (11), .int (13), .int (15), .int (17), .int (19), .int (21), .int (23)]]], .int (0), .tup [.int (0), .int (5)], .str "numbers"], .tup [.int (6)])
theorem m12B23_ok : chkE tb wf m12TA 16 8 m12B23 = true := by kernel_rfl
def m12B24 : Nat × List W × W := (31, [.tup [.int (2), .tup [.tup [.int (0), .int (1)], .tup [.int (0), .int (1)], .tup [.int (0), .int (1)], .tup [.int (0), .int (1)], .tup [.int (0), .int (1)], .tup [.int (0), .int (1)], .tup [.int (0), .int (1)], .tup [.int (0), .int (1)], .tup [.int (0), .int (1)], .tup [.int (0), .int (1)], .tup [.int (0), .int (1)], .tup [.int (0), .int (1)]], .tup [.tup [.int (0), .int (2), .int (4), .int (6), .int (8), .int (10), .int (12), .int (14), .int (16), .int (18), .int (20), .int (22)], .tup [.int (1), .int (3), .int (5), .int (7), .int (9), .int (11), .int (13), .int (15), .int (17), .int (19), .int (21), .int (23)]]], .int (0), .tup [.int (0), .int (6)], .str "numbers"], .tup [.int (5)])
theorem m12B24_ok : chkE tb wf m12TA 16 8 m12B24 = true := by kernel_rfl
def m12B25 : Nat × List W × W := (31, [.tup [.int (2), .tup [.tup [.int (0), .int (1)], .tup [.int (0), .int (1)], .tup [.int (0), .int (1)], .tup [.int (0), .int (1)], .tup [.int (0), .int (1)], .tup [.int (0), .int (1)], .tup [.int (0), .int (1)], .tup [.int (0), .int (1)], .tup [.int (0), .int (1)], .tup [.int (0), .int (1)], .tup [.int (0), .int (1)], .tup [.int (0), .int (1)]], .tup [.tup [.int (0), .int (2), .int (4), .int (6), .int (8), .int (10), .int (12), .int (14), .int (16), .int (18), .int (20), .int (22)], .tup [.int (1), .int (3), .int (5), .int (7), .int (9), .int (11), .int (13), .int (15), .int (17), .int (19), .int (21), .int (23)]]], .int (0), .tup [.int (0), .int (7)], .str "numbers"], .tup [.int (4)])
theorem m12B25_ok : chkE tb wf m12TA 16 8 m12B25 = true := by kernel_rfl
def m12B26 : Nat × List W × W := (31, [.tup [.int (2), .tup [.tup [.int (0), .int (1)], .tup [.int (0), .int (1)], .tup [.int (0), .int (1)], .tup [.int (0), .int (1)], .tup [.int (0), .int (1)], .tup [.int (0), .int (1)], .tup [.int (0), .int (1)], .tup [.int (0), .int (1)], .tup [.int (0), .int (1)], .tup [.int (0), .int (1)], .tup [.int (0), .int (1)], .tup [.int (0), .int (1)]], .tup [.tup [.int (0), .int (2), .int (4), .int (6), .int (8), .int (10), .int (12), .int (14), .int (16), .int (18), .int (20), .int (22)], .tup [.int (1), .int (3), .int (5), .int (7), .int (9), .int (11), .int (13), .int (15), .int (17), .int (19), .int (21), .int (23)]]], .int (0), .tup [.int (0), .int (8)], .str "numbers"], .tup [.int (3)])
theorem m12B26_ok : chkE tb wf m12TA 16 8 m12B26 = true := by kernel_rfl
def m12B27 : Nat × List W × W := (31, [.tup [.int (2), .tup [.tup [.int (0), .int (1)], .tup [.int (0), .int (1)], .tup [.int (0), .int (1)], .tup [.int (0), .int (1)], .tup [.int (0), .int (1)], .tup [.int (0), .int (1)], .tup [.int (0), .int (1)], .tup [.int (0), .int (1)], .tup [.int (0), .int (1)], .tup [.int (0), .int (1)], .tup [.int (0), .int (1)], .tup [.int (0), .int (1)]], .tup [.tup [.int (0), .int (2), .int (4), .int (6), .int (8), .int (10), .int (12), .int (14), .int (16), .int (18), .int (20), .int (22)], .tup [.int (1), .int (3), .int (5), .int (7), .int (9), .int (11), .int (13), .int (15), .int (17), .int (19), .int (21), .int (23)]]], .int (0), .tup [.int (0), .int (9)], .str "numbers"], .tup [.int (2)])
theorem m12B27_ok : chkE tb wf m12TA 16 8 m12B27 = true := by kernel_rfl
def m12B28 : Nat × List W × W := (31, [.tup [.int (2), .tup [.tup [.int (0), .int (1)], .tup [.int (0), .int (1)], .tup [.int (0), .int (1)], .tup [.int (0), .int (1)], .tup [.int (0), .int (1)], .tup [.int (0), .int (1)], .tup [.int (0), .int (1)], .tup [.int (0), .int (1)], .tup [.int (0), .int (1)], .tup [.int (0), .int (1)], .tup [.int (0), .int (1)], .tup [.int (0), .int (1)]], .tup [.tup [.int (0), .int (2), .int (4), .int (6), .int (8), .int (10), .int (12), .int (14), .int (16), .int (18), .int (20), .int (22)], .tup [.int (1), .int (3), .int (5), .int (7), .int (9), .int (11), .int (13), .int (15), .int (17), .int (19), .int (21), .int (23)]]], .int (0), .tup [.int (0), .int (10)], .str "numbers"], .tup [.int (1)])
theorem m12B28_ok : chkE tb wf m12TA 16 8 m12B28 = true := by kernel_rfl
def m12B29 : Nat × List W × W := (31, [.tup [.int (2), .tup [.tup [.int (0), .int (1)], .tup [.int (0), .int (1)], .tup [.int (0), .int (1)], .tup [.int (0), .int (1)], .tup [.int (0), .int (1)], .tup [.int (0), .int (1)], .tup [.int (0), .int (1)], .tup [.int (0), .int (1)], .tup [.int (0), .int (1)], .tup [.int (0), .int (1)], .tup [.int (0), .int (1)], .tup [.int (0), .int (1)]], .tup [.tup [.int (0), .int (2), .int (4), .int (6), .int (8), .int (10), .int (12), .int (14), .int (16), .int (18), .int (20), .int (22)], .tup [.int (1), .int (3), .int (5), .int (7), .int (9), .int (11), .int (13), .int (15), .int (17), .int (19), .int (21), .int (23)]]], .int (0), .tup [.int (0), .int (11)], .str "numbers"], .tup [.int (0)])
theorem m12B29_ok : chkE tb wf m12TA 16 8 m12B29 = true := by kernel_rfl
def m12B30 : Nat × List W × W := (37, [.tup [.int (2), .tup [.tup [.int (0), .int (1)], .tup [.int (0), .int (1)], .tup [.int (0), .int (1)], .tup [.int (0), .int (1)], .tup [.int (0), .int (1)], .tup [.int (0), .int (1)], .tup [.int (0), .int (1)], .tup [.int (0), .int (1)], .tup [.int (0), .int (1)], .tup [.int (0), .int (1)], .tup [.int (0), .int (1)], .tup [.int (0), .int (1)]], .tup [.tup [.int (0), .int (2), .int (4), .int (6), .int (8), .int (10), .int (12), .int (14), .int (16), .int (18), .int (20), .int (22)], .tup [.int (1), .int (3), .int (5), .int (7), .int (9), .int (11), .int (13), .int (15), .int (17), .int (19), .int (21), .int (23)]]], .int (0), .tup [.int (0), .int (0)]], .tup [.int (0), .int (0)])
theorem m12B30_ok : chkE tb wf m12TA 16 8 m12B30 = true := by kernel_rfl
def m12B31 : Nat × List W × W := (37, [.tup [.int (2), .tup [.tup [.int (0), .int (1)], .tup [.int (0), .int (1)], .tup [.int (0), .int (1)], .tup [.int (0), .int (1)], .tup [.int (0), .int (1)], .tup [.int (0), .int (1)], .tup [.int (0), .int (1)], .tup [.int (0), .int (1)], .tup [.int (0), .int (1)], .tup [.int (0), .int (1)], .tup [.int (0), .int (1)], .tup [.int (0), .int (1)]], .tup [.tup [.int (0), .int (2), .int (4), .int (6), .int (8), .int (10), .int (12), .int (14), .int (16), .int (18), .int (20), .int (22)], .tup [.int (1), .int (3), .int (5), .int (7), .int (9), .int (11), .int (13), .int (15), .int (17), .int (19), .int (21), .int (23)]]], .int (0), .tup [.int (5), .int (-5)]], .tup [.int (0), .int (7)])
theorem m12B31_ok : chkE tb wf m12TA 16 8 m12B31 = true := by kernel_rfl
def m12B32 : Nat × List W × W := (40, [.tup [.int (2), .tup [.tup [.int (0), .int (1)], .tup [.int (0), .int (1)], .tup [.int (0), .int (1)], .tup [.int (0), .int (1)], .tup [.int (0), .int (1)], .tup [.int (0), .int (1)], .tup [.int (0), .int (1)], .tup [.int (0), .int (1)], .tup [.int (0), .int (1)], .tup [.int (0), .int (1)], .tup [.int (0), .int (1)], .tup [.int (0), .int (1)]], .tup [.tup [.int (0), .int (2), .int (4), .int (6), .int (8), .int (10), .int (12), .int (14), .int (16), .int (18), .int (20), .int (22)], .tup [.int (1), .int (3), .int (5), .int (7), .int (9), .int (11), .int (13), .int (15), .int (17), .int (19), .int (21), .int (23)]]], .int (0), .tup [.int (0), .int (11)], .tup [.int (0), .int (1)]], .tup [.int (0), .int (0)])
theorem m12B32_ok : chkE tb wf m12TA 16 8 m12B32 = true := by kernel_rfl
def m12B33 : Nat × List W × W := (6, [.tup [.int (2), .tup [.tup [.int (0), .int (1)], .tup [.int (0), .int (1)], .tup [.int (0), .int (1)], .tup [.int (0), .int (1)], .tup [.int (0), .int (1)], .tup [.int (0), .int (1)], .tup [.int (0), .int (1)], .tup [.int (0), .int (1)], .tup [.int (0), .int (1)], .tup [.int (0), .int (1)], .tup [.int (0), .int (1)], .tup [.int (0), .int (1)]], .tup [.tup [.int (0), .int (2), .int (4), .int (6), .int (8), .int (10), .int (12), .int (14), .int (16), .int (18), .int (20), .int (22)], .tup [.int (1), .int (3), .int (5), .int (7), .int (9), .int (11), .int (13), .int (15), .int (17), .int (19), .int (21), .int (23)]]], .int (0), .tup [.int (0), .int (85)]], .int (84))
theorem m12B33_ok : chkE tb wf m12TA 16 8 m12B33 = true := by kernel_rfl
def m12TB : List (Nat × List W × W) := m12B0 :: m12B1 :: m12B2 :: m12B3 :: m12B4 :: m12B5 :: m12B6 :: m12B7 :: m12B8 :: m12B9 :: m12B10 :: m12B11 :: m12B12 :: m12B13 :: m12B14 :: m12B15 :: m12B16 :: m12B17 :: m12B18 :: m12B19 :: m12B20 :: m12B21 :: m12B22 :: m12B23 :: m12B24 :: m12B25 :: m12B26 :: m12B27 :: m12B28 :: m12B29 :: m12B30 :: m12B31 :: m12B32 :: m12B33 :: m12TA
theorem m12TB_ok : Val tb wf m12TB 25 := Val.put (k := 8) rfl m12TA_ok m12B0_ok (Val.put (k := 8) rfl m12TA_ok m12B1_ok (Val.put (k := 8) rfl m12TA_ok m12B2_ok (Val.put (k := 8) rfl m12TA_ok m12B3_ok (Val.put (k := 8) rfl m12TA_ok m12B4_ok (Val.put (k := 8) rfl m12TA_ok m12B5_ok (Val.put (k := 8) rfl m12TA_ok m12B6_ok (Val.put (k := 8) rfl m12TA_ok m12B7_ok (Val.put (k := 8) rfl m12TA_ok m12B8_ok (Val.put (k := 8) rfl m12TA_ok m12B9_ok (Val.put (k := 8) rfl m12TA_ok m12B10_ok (Val.put (k := 8) rfl m12TA_ok m12B11_ok (Val.put (k := 8) rfl m12TA_ok m12B12_ok (Val.put (k := 8) rfl m12TA_ok m12B13_ok (Val.put (k := 8) rfl m12TA_ok m12B14_ok (Val.put (k := 8) rfl m12TA_ok m12B15_ok (Val.put (k := 8) rfl m12TA_ok m12B16_ok (Val.put (k := 8) rfl m12TA_ok m12B17_ok (Val.put (k := 8) rfl m12TA_ok m12B18_ok (Val.put (k := 8) rfl m12TA_ok m12B19_ok (Val.put (k := 8) rfl m12TA_ok m12B20_ok (Val.put (k := 8) rfl m12TA_ok m12B21_ok (Val.put (k := 8) rfl m12TA_ok m12B22_ok (Val.put (k := 8) rfl m12TA_ok m12B23_ok (Val.put (k := 8) rfl m12TA_ok m12B24_ok (Val.put (k := 8) rfl m12TA_ok m12B25_ok (Val.put (k := 8) rfl m12TA_ok m12B26_ok (Val.put (k := 8) rfl m12TA_ok m12B27_ok (Val.put (k := 8) rfl m12TA_ok m12B28_ok (Val.put (k := 8) rfl m12TA_ok m12B29_ok (Val.put (k := 8) rfl m12TA_ok m12B30_ok (Val.put (k := 8) rfl m12TA_ok m12B31_ok (Val.put (k := 8) rfl m12TA_ok m12B32_ok (Val.put (k := 8) rfl m12TA_ok m12B33_ok (m12TA_ok.add 9))))))))))))))))))))))))))))))))))
theorem m12O : isT1 (runF (callO tb wf m12TB 25 4) wf f__law_many_right [.int 12] Hw.nil) = true := by kernel_rfl
theorem m12 : isT1 (mr 12) = true := by
  obtain ⟨g, e⟩ := isT1_ok m12O
  rw [show mr 12 = _ from (leF (callO_le m12TB_ok 4) wf f__law_many_right [.int 12] Hw.nil).ok e]
  rfl
def m13A0 : Nat × List W × W := (1, [.tup [.int (2), .tup [.tup [.int (0), .int (1)], .tup [.int (0), .int (1)], .tup [.int (0), .int (1)], .tup [.int (0), .int (1)], .tup [.int (0), .int (1)], .tup [.int (0), .int (1)], .tup [.int (0), .int (1)], .tup [.int (0), .int (1)], .tup [.int (0), .int (1)], .tup [.int (0), .int (1)], .tup [.int (0), .int (1)], .tup [.int (0), .int (1)], .tup [.int (0), .int (1)]], .tup [.tup [.int (0), .int (2), .int (4), .int (6), .int (8), .int (10), .int (12), .int (14), .int (16), .int (18), .int (20), .int (22), .int (24)], .tup [.int (1), .int (3), .int (5), .int (7), .int (9), .int (11), .int (13), .int (15), .int (17), .int (19), .int (21), .int (23), .int (25)]]]], .tup [.int (13), .int (13)])
theorem m13A0_ok : chkE tb wf [] 15 0 m13A0 = true := by kernel_rfl
def m13A1 : Nat × List W × W := (22, [.tup [.int (2), .tup [.tup [.int (0), .int (1)], .tup [.int (0), .int (1)], .tup [.int (0), .int (1)], .tup [.int (0), .int (1)], .tup [.int (0), .int (1)], .tup [.int (0), .int (1)], .tup [.int (0), .int (1)], .tup [.int (0), .int (1)], .tup [.int (0), .int (1)], .tup [.int (0), .int (1)], .tup [.int (0), .int (1)], .tup [.int (0), .int (1)], .tup [.int (0), .int (1)]], .tup [.tup [.int (0), .int (2), .int (4), .int (6), .int (8), .int (10), .int (12), .int (14), .int (16), .int (18), .int (20), .int (22), .int (24)], .tup [.int (1), .int (3), .int (5), .int (7), .int (9), .int (11), .int (13), .int (15), .int (17), .int (19), .int (21), .int (23), .int (25)]]], .tup [.int (0)]], .bl true)
theorem m13A1_ok : chkE tb wf [] 15 0 m13A1 = true := by kernel_rfl
def m13A2 : Nat × List W × W := (22, [.tup [.int (2), .tup [.tup [.int (0), .int (1)], .tup [.int (0), .int (1)], .tup [.int (0), .int (1)], .tup [.int (0), .int (1)], .tup [.int (0), .int (1)], .tup [.int (0), .int (1)], .tup [.int (0), .int (1)], .tup [.int (0), .int (1)], .tup [.int (0), .int (1)], .tup [.int (0), .int (1)], .tup [.int (0), .int (1)], .tup [.int (0), .int (1)], .tup [.int (0), .int (1)]], .tup [.tup [.int (0), .int (2), .int (4), .int (6), .int (8), .int (10), .int (12), .int (14), .int (16), .int (18), .int (20), .int (22), .int (24)], .tup [.int (1), .int (3), .int (5), .int (7), .int (9), .int (11), .int (13), .int (15), .int (17), .int (19), .int (21), .int (23), .int (25)]]], .tup [.int (1)]], .bl true)
theorem m13A2_ok : chkE tb wf [] 15 0 m13A2 = true := by kernel_rfl
def m13A3 : Nat × List W × W := (22, [.tup [.int (2), .tup [.tup [.int (0), .int (1)], .tup [.int (0), .int (1)], .tup [.int (0), .int (1)], .tup [.int (0), .int (1)], .tup [.int (0), .int (1)], .tup [.int (0), .int (1)], .tup [.int (0), .int (1)], .tup [.int (0), .int (1)], .tup [.int (0), .int (1)], .tup [.int (0), .int (1)], .tup [.int (0), .int (1)], .tup [.int (0), .int (1)], .tup [.int (0), .int (1)]], .tup [.tup [.int (0), .int (2), .int (4), .int (6), .int (8), .int (10), .int (12), .int (14), .int (16), .int (18), .int (20), .int (22), .int (24)], .tup [.int (1), .int (3), .int (5), .int (7), .int (9), .int (11), .int (13), .int (15), .int (17), .int (19), .int (21), .int (23), .int (25)]]], .tup [.int (2)]], .bl true)
theorem m13A3_ok : chkE tb wf [] 15 0 m13A3 = true := by kernel_rfl
def m13A4 : Nat × List W × W := (22, [.tup [.int (2), .tup [.tup [.int (0), .int (1)], .tup [.int (0), .int (1)], .tup [.int (0), .int (1)], .tup [.int (0), .int (1)], .tup [.int (0), .int (1)], .tup [.int (0), .int (1)], .tup [.int (0), .int (1)], .tup [.int (0), .int (1)], .tup [.int (0), .int (1)], .tup [.int (0), .int (1)], .tup [.int (0), .int (1)], .tup [.int (0), .int (1)], .tup [.int (0), .int (1)]], .tup [.tup [.int (0), .int (2), .int (4), .int (6), .int (8), .int (10), .int (12), .int (14), .int (16), .int (18), .int (20), .int (22), .int (24)], .tup [.int (1), .int (3), .int (5), .int (7), .int (9), .int (11), .int (13), .int (15), .int (17), .int (19), .int (21), .int (23), .int (25)]]], .tup [.int (3)]], .bl true)
theorem m13A4_ok : chkE tb wf [] 15 0 m13A4 = true := by kernel_rfl
def m13A5 : Nat × List W × W := (22, [.tup [.int (2), .tup [.tup [.int (0), .int (1)], .tup [.int (0), .int (1)], .tup [.int (0), .int (1)], .tup [.int (0), .int (1)], .tup [.int (0), .int (1)], .tup [.int (0), .int (1)], .tup [.int (0), .int (1)], .tup [.int (0), .int (1)], .tup [.int (0), .int (1)], .tup [.int (0), .int (1)], .tup [.int (0), .int (1)], .tup [.int (0), .int (1)], .tup [.int (0), .int (1)]], .tup [.tup [.int (0), .int (2), .int (4), .int (6), .int (8), .int (10), .int (12), .int (14), .int (16), .int (18), .int (20), .int (22), .int (24)], .tup [.int (1), .int (3), .int (5), .int (7), .int (9), .int (11), .int (13), .int (15), .int (17), .int (19), .int (21), .int (23), .int (25)]]], .tup [.int (4)]], .bl true)
theorem m13A5_ok : chkE tb wf [] 15 0 m13A5 = true := by kernel_rfl
def m13A6 : Nat × List W × W := (22, [.tup [.int (2), .tup [.tup [.int (0), .int (1)], .tup [.int (0), .int (1)], .tup [.int (0), .int (1)], .tup [.int (0), .int (1)], .tup [.int (0), .int (1)], .tup [.int (0), .int (1)], .tup [.int (0), .int (1)], .tup [.int (0), .int (1)], .tup [.int (0), .int (1)], .tup [.int (0), .int (1)], .tup [.int (0), .int (1)], .tup [.int (0), .int (1)], .tup [.int (0), .int (1)]], .tup [.tup [.int (0), .int (2), .int (4), .int (6), .int (8), .int (10), .int (12), .int (14), .int (16), .int (18), .int (20), .int (22), .int (24)], .tup [.int (1), .int (3), .int (5), .int (7), .int (9), .int (11), .int (13), .int (15), .int (17), .int (19), .int (21), .int (23), .int (25)]]], .tup [.int (5)]], .bl true)
theorem m13A6_ok : chkE tb wf [] 15 0 m13A6 = true := by kernel_rfl
def m13A7 : Nat × List W × W := (22, [.tup [.int (2), .tup [.tup [.int (0), .int (1)], .tup [.int (0), .int (1)], .tup [.int (0), .int (1)], .tup [.int (0), .int (1)], .tup [.int (0), .int (1)], .tup [.int (0), .int (1)], .tup [.int (0), .int (1)], .tup [.int (0), .int (1)], .tup [.int (0), .int (1)], .tup [.int (0), .int (1)], .tup [.int (0), .int (1)], .tup [.int (0), .int (1)], .tup [.int (0), .int (1)]], .tup [.tup [.int (0), .int (2), .int (4), .int (6), .int (8), .int (10), .int (12), .int (14), .int (16), .int (18), .int (20), .int (22), .int (24)], .tup [.int (1), .int (3), .int (5), .int (7), .int (9), .int (11), .int (13), .int (15), .int (17), .int (19), .int (21), .int (23), .int (25)]]], .tup [.int (6)]], .bl true)
theorem m13A7_ok : chkE tb wf [] 15 0 m13A7 = true := by kernel_rfl
def m13A8 : Nat × List W × W := (22, [.tup [.int (2), .tup [.tup [.int (0), .int (1)], .tup [.int (0), .int (1)], .tup [.int (0), .int (1)], .tup [.int (0), .int (1)], .tup [.int (0), .int (1)], .tup [.int (0), .int (1)], .tup [.int (0), .int (1)], .tup [.int (0), .int (1)], .tup [.int (0), .int (1)], .tup [.int (0), .int (1)], .tup [.int (0), .int (1)], .tup [.int (0), .int (1)], .tup [.int (0), .int (1)]], .tup [.tup [.int (0), .int (2), .int (4), .int (6), .int (8), .int (10), .int (12), .int (14), .int (16), .int (18), .int (20), .int (22), .int (24)], .tup [.int (1), .int (3), .int (5), .int (7), .int (9), .int (11), .int (13), .int (15), .int (17), .int (19), .int (21), .int (23), .int (25)]]], .tup [.int (7)]], .bl true)
theorem m13A8_ok : chkE tb wf [] 15 0 m13A8 = true := by kernel_rfl
def m13A9 : Nat × List W × W := (22, [.tup [.int (2), .tup [.tup [.int (0), .int (1)], .tup [.int (0), .int (1)], .tup [.int (0), .int (1)], .tup [.int (0), .int (1)], .tup [.int (0), .int (1)], .tup [.int (0), .int (1)], .tup [.int (0), .int (1)], .tup [.int (0), .int (1)], .tup [.int (0), .int (1)], .tup [.int (0), .int (1)], .tup [.int (0), .int (1)], .tup [.int (0), .int (1)], .tup [.int (0), .int (1)]], .tup [.tup [.int (0), .int (2), .int (4), .int (6), .int (8), .int (10), .int (12), .int (14), .int (16), .int (18), .int (20), .int (22), .int (24)], .tup [.int (1), .int (3), .int (5), .int (7), .int (9), .int (11), .int (13), .int (15), .int (17), .int (19), .int (21), .int (23), .int (25)]]], .tup [.int (8)]], .bl true)
theorem m13A9_ok : chkE tb wf [] 15 0 m13A9 = true := by kernel_rfl
def m13A10 : Nat × List W × W := (22, [.tup [.int (2), .tup [.tup [.int (0), .int (1)], .tup [.int (0), .int (1)], .tup [.int (0), .int (1)], .tup [.int (0), .int (1)], .tup [.int (0), .int (1)], .tup [.int (0), .int (1)], .tup [.int (0), .int (1)], .tup [.int (0), .int (1)], .tup [.int (0), .int (1)], .tup [.int (0), .int (1)], .tup [.int (0), .int (1)], .tup [.int (0), .int (1)], .tup [.int (0), .int (1)]], .tup [.tup [.int (0), .int (2), .int (4), .int (6), .int (8), .int (10), .int (12), .int (14), .int (16), .int (18), .int (20), .int (22), .int (24)], .tup [.int (1), .int (3), .int (5), .int (7), .int (9), .int (11), .int (13), .int (15), .int (17), .int (19), .int (21), .int (23), .int (25)]]], .tup [.int (9)]], .bl true)
theorem m13A10_ok : chkE tb wf [] 15 0 m13A10 = true := by kernel_rfl
def m13A11 : Nat × List W × W := (22, [.tup [.int (2), .tup [.tup [.int (0), .int (1)], .tup [.int (0), .int (1)], .tup [.int (0), .int (1)], .tup [.int (0), .int (1)], .tup [.int (0), .int (1)], .tup [.int (0), .int (1)], .tup [.int (0), .int (1)], .tup [.int (0), .int (1)], .tup [.int (0), .int (1)], .tup [.int (0), .int (1)], .tup [.int (0), .int (1)], .tup [.int (0), .int (1)], .tup [.int (0), .int (1)]], .tup [.tup [.int (0), .int (2), .int (4), .int (6), .int (8), .int (10), .int (12), .int (14), .int (16), .int (18), .int (20), .int (22), .int (24)], .tup [.int (1), .int (3), .int (5), .int (7), .int (9), .int (11), .int (13), .int (15), .int (17), .int (19), .int (21), .int (23), .int (25)]]], .tup [.int (10)]], .bl true)
theorem m13A11_ok : chkE tb wf [] 15 0 m13A11 = true := by kernel_rfl
def m13A12 : Nat × List W × W := (22, [.tup [.int (2), .tup [.tup [.int (0), .int (1)], .tup [.int (0), .int (1)], .tup [.int (0), .int (1)], .tup [.int (0), .int (1)], .tup [.int (0), .int (1)], .tup [.int (0), .int (1)], .tup [.int (0), .int (1)], .tup [.int (0), .int (1)], .tup [.int (0), .int (1)], .tup [.int (0), .int (1)], .tup [.int (0), .int (1)], .tup [.int (0), .int (1)], .tup [.int (0), .int (1)]], .tup [.tup [.int (0), .int (2), .int (4), .int (6), .int (8), .int (10), .int (12), .int (14), .int (16), .int (18), .int (20), .int (22), .int (24)], .tup [.int (1), .int (3), .int (5), .int (7), .int (9), .int (11), .int (13), .int (15), .int (17), .int (19), .int (21), .int (23), .int (25)]]], .tup [.int (11)]], .bl true)
theorem m13A12_ok : chkE tb wf [] 15 0 m13A12 = true := by kernel_rfl
def m13A13 : Nat × List W × W := (22, [.tup [.int (2), .tup [.tup [.int (0), .int (1)], .tup [.int (0), .int (1)], .tup [.int (0), .int (1)], .tup [.int (0), .int (1)], .tup [.int (0), .int (1)], .tup [.int (0), .int (1)], .tup [.int (0), .int (1)], .tup [.int (0), .int (1)], .tup [.int (0), .int (1)], .tup [.int (0), .int (1)], .tup [.int (0), .int (1)], .tup [.int (0), .int (1)], .tup [.int (0), .int (1)]], .tup [.tup [.int (0), .int (2), .int (4), .int (6), .int (8), .int (10), .int (12), .int (14), .int (16), .int (18), .int (20), .int (22), .int (24)], .tup [.int (1), .int (3), .int (5), .int (7), .int (9), .int (11), .int (13), .int (15), .int (17), .int (19), .int (21), .int (23), .int (25)]]], .tup [.int (12)]], .bl true)
theorem m13A13_ok : chkE tb wf [] 15 0 m13A13 = true := by kernel_rfl
def m13A14 : Nat × List W × W := (3, [.tup [.int (2), .tup [.tup [.int (0), .int (1)], .tup [.int (0), .int (1)], .tup [.int (0), .int (1)], .tup [.int (0), .int (1)], .tup [.int (0), .int (1)], .tup [.int (0), .int (1)], .tup [.int (0), .int (1)], .tup [.int (0), .int (1)], .tup [.int (0), .int (1)], .tup [.int (0), .int (1)], .tup [.int (0), .int (1)], .tup [.int (0), .int (1)], .tup [.int (0), .int (1)]], .tup [.tup [.int (0), .int (2), .int (4), .int (6), .int (8), .int (10), .int (12), .int (14), .int (16), .int (18), .int (20), .int (22), .int (24)], .tup [.int (1), .int (3), .int (5), .int (7), .int (9), .int (11), .int (13), .int (15), .int (17), .int (19), .int (21), .int (23), .int (25)]]], .int (0), .tup [.int (0), .int (26)]], .tup [.tup [.int (0), .int (0)], .tup [.int (0), .int (2)]])
theorem m13A14_ok : chkE tb wf [] 15 0 m13A14 = true := by kernel_rfl
def m13A15 : Nat × List W × W := (3, [.tup [.int (2), .tup [.tup [.int (0), .int (1)], .tup [.int (0), .int (1)], .tup [.int (0), .int (1)], .tup [.int (0), .int (1)], .tup [.int (0), .int (1)], .tup [.int (0), .int (1)], .tup [.int (0), .int (1)], .tup [.int (0), .int (1)], .tup [.int (0), .int (1)], .tup [.int (0), .int (1)], .tup [.int (0), .int (1)], .tup [.int (0), .int (1)], .tup [.int (0), .int (1)]], .tup [.tup [.int (0), .int (2), .int (4), .int (6), .int (8), .int (10), .int (12), .int (14), .int (16), .int (18), .int (20), .int (22), .int (24)], .tup [.int (1), .int (3), .int (5), .int (7), .int (9), .int (11), .int (13), .int (15), .int (17), .int (19), .int (21), .int (23), .int (25)]]], .int (0), .tup [.int (0), .int (92)]], .tup [.tup [.int (0), .int (1)], .tup [.int (0), .int (7)]])
theorem m13A15_ok : chkE tb wf [] 15 0 m13A15 = true := by kernel_rfl
def m13A16 : Nat × List W × W := (3, [.tup [.int (2), .tup [.tup [.int (0), .int (1)], .tup [.int (0), .int (1)], .tup [.int (0), .int (1)], .tup [.int (0), .int (1)], .tup [.int (0), .int (1)], .tup [.int (0), .int (1)], .tup [.int (0), .int (1)], .tup [.int (0), .int (1)], .tup [.int (0), .int (1)], .tup [.int (0), .int (1)], .tup [.int (0), .int (1)], .tup [.int (0), .int (1)], .tup [.int (0), .int (1)]], .tup [.tup [.int (0), .int (2), .int (4), .int (6), .int (8), .int (10), .int (12), .int (14), .int (16), .int (18), .int (20), .int (22), .int (24)], .tup [.int (1), .int (3), .int (5), .int (7), .int (9), .int (11), .int (13), .int (15), .int (17), .int (19), .int (21), .int (23), .int (25)]]], .int (0), .tup [.int (0), .int (13)]], .tup [.tup [.int (0), .int (0)], .tup [.int (0), .int (1)]])
theorem m13A16_ok : chkE tb wf [] 15 0 m13A16 = true := by kernel_rfl
def m13A17 : Nat × List W × W := (3, [.tup [.int (2), .tup [.tup [.int (0), .int (1)], .tup [.int (0), .int (1)], .tup [.int (0), .int (1)], .tup [.int (0), .int (1)], .tup [.int (0), .int (1)], .tup [.int (0), .int (1)], .tup [.int (0), .int (1)], .tup [.int (0), .int (1)], .tup [.int (0), .int (1)], .tup [.int (0), .int (1)], .tup [.int (0), .int (1)], .tup [.int (0), .int (1)], .tup [.int (0), .int (1)]], .tup [.tup [.int (0), .int (2), .int (4), .int (6), .int (8), .int (10), .int (12), .int (14), .int (16), .int (18), .int (20), .int (22), .int (24)], .tup [.int (1), .int (3), .int (5), .int (7), .int (9), .int (11), .int (13), .int (15), .int (17), .int (19), .int (21), .int (23), .int (25)]]], .int (0), .tup [.int (0), .int (21)]], .tup [.tup [.int (0), .int (8)], .tup [.int (0), .int (1)]])
theorem m13A17_ok : chkE tb wf [] 15 0 m13A17 = true := by kernel_rfl
def m13A18 : Nat × List W × W := (35, [.tup [.int (2), .tup [.tup [.int (0), .int (1)], .tup [.int (0), .int (1)], .tup [.int (0), .int (1)], .tup [.int (0), .int (1)], .tup [.int (0), .int (1)], .tup [.int (0), .int (1)], .tup [.int (0), .int (1)], .tup [.int (0), .int (1)], .tup [.int (0), .int (1)], .tup [.int (0), .int (1)], .tup [.int (0), .int (1)], .tup [.int (0), .int (1)], .tup [.int (0), .int (1)]], .tup [.tup [.int (0), .int (2), .int (4), .int (6), .int (8), .int (10), .int (12), .int (14), .int (16), .int (18), .int (20), .int (22), .int (24)], .tup [.int (1), .int (3), .int (5), .int (7), .int (9), .int (11), .int (13), .int (15), .int (17), .int (19), .int (21), .int (23), .int (25)]]], .tup [.int (0)]], .tup [.int (1), .int (2), .int (3), .int (4), .int (5), .int (6), .int (7), .int (8), .int (9), .int (10), .int (11), .int (12)])
theorem m13A18_ok : chkE tb wf [] 15 0 m13A18 = true := by kernel_rfl
def m13A19 : Nat × List W × W := (35, [.tup [.int (2), .tup [.tup [.int (0), .int (1)], .tup [.int (0), .int (1)], .tup [.int (0), .int (1)], .tup [.int (0), .int (1)], .tup [.int (0), .int (1)], .tup [.int (0), .int (1)], .tup [.int (0), .int (1)], .tup [.int (0), .int (1)], .tup [.int (0), .int (1)], .tup [.int (0), .int (1)], .tup [.int (0), .int (1)], .tup [.int (0), .int (1)], .tup [.int (0), .int (1)]], .tup [.tup [.int (0), .int (2), .int (4), .int (6), .int (8), .int (10), .int (12), .int (14), .int (16), .int (18), .int (20), .int (22), .int (24)], .tup [.int (1), .int (3), .int (5), .int (7), .int (9), .int (11), .int (13), .int (15), .int (17), .int (19), .int (21), .int (23), .int (25)]]], .tup [.int (1)]], .tup [.int (2), .int (3), .int (4), .int (5), .int (6), .int (7), .int (8), .int (9), .int (10), .int (11), .int (12)])
theorem m13A19_ok : chkE tb wf [] 15 0 m13A19 = true := by kernel_rfl
def m13A20 : Nat × List W × W := (35, [.tup [.int (2), .tup [.tup [.int (0), .int (1)], .tup [.int (0), .int (1)], .tup [.int (0), .int (1)], .tup [.int (0), .int (1)], .tup [.int (0), .int (1)], .tup [.int (0), .int (1)], .tup [.int (0), .int (1)], .tup [.int (0), .int (1)], .tup [.int (0), .int (1)], .tup [.int (0), .int (1)], .tup [.int (0), .int (1)], .tup [.int (0), .int (1)], .tup [.int (0), .int (1)]], .tup [.tup [.int (0), .int (2), .int (4), .int (6), .int (8), .int (10), .int (12), .int (14), .int (16), .int (18), .int (20), .int (22), .int (24)], .tup [.int (1), .int (3), .int (5), .int (7), .int (9), .int (11), .int (13), .int (15), .int (17), .int (19), .int (21), .int (23), .int (25)]]], .tup [.int (2)]], .tup [.int (3), .int (4), .int (5), .int (6), .int (7), .int (8), .int (9), .int (10), .int (11), .int (12)])
theorem m13A20_ok : chkE tb wf [] 15 0 m13A20 = true := by kernel_rfl
def m13A21 : Nat × List W × W := (35, [.tup [.int (2), .tup [.tup [.int (0), .int (1)], .tup [.int (0), .int (1)], .tup [.int (0), .int (1)], .tup [.int (0), .int (1)], .tup [.int (0), .int (1)], .tup [.int (0), .int (1)], .tup [.int (0), .int (1)], .tup [.int (0), .int (1)], .tup [.int (0), .int (1)], .tup [.int (0), .int (1)], .tup [.int (0), .int (1)], .tup [.int (0), .int (1)], .tup [.int (0), .int (1)]], .tup [.tup [.int (0), .int (2), .int (4), .int (6), .int (8), .int (10), .int (12), .int (14), .int (16), .int (18), .int (20), .int (22), .int (24)], .tup [.int (1), .int (3), .int (5), .int (7), .int (9), .int (11), .int (13), .int (15), .int (17), .int (19), .int (21), .int (23), .int (25)]]], .tup [.int (3)]], .tup [.int (4), .int (5), .int (6), .int (7), .int (8), .int (9), .int (10), .int (11), .int (12)])
theorem m13A21_ok : chkE tb wf [] 15 0 m13A21 = true := by kernel_rfl
def m13A22 : Nat × List W × W := (35, [.tup [.int (2), .tup [.tup [.int (0), .int (1)], .tup [.int (0), .int (1)], .tup [.int (0), .int (1)], .tup [.int (0), .int (1)], .tup [.int (0), .int (1)], .tup [.int (0), .int (1)], .tup [.int (0), .int (1)], .tup [.int (0), .int (1)], .tup [.int (0), .int (1)], .tup [.int (0), .int (1)], .tup [.int (0), .int (1)], .tup [.int (0), .int (1)], .tup [.int (0), .int (1)]], .tup [.tup [.int (0), .int (2), .int (4), .int (6), .int (8), .int (10), .int (12), .int (14), .int (16), .int (18), .int (20), .int (22), .int (24)], .tup [.int (1), .int (3), .int (5), .int (7), .int (9), .int (11), .int (13), .int (15), .int (17), .int (19), .int (21), .int (23), .int (25)]]], .tup [.int (4)]], .tup [.int (5), .int (6), .int (7), .int (8), .int (9), .int (10), .int (11), .int (12)])
theorem m13A22_ok : chkE tb wf [] 15 0 m13A22 = true := by kernel_rfl
def m13A23 : Nat × List W × W := (35, [.tup [.int (2), .tup [.tup [.int (0), .int (1)], .tup [.int (0), .int (1)], .tup [.int (0), .int (1)], .tup [.int (0), .int (1)], .tup [.int (0), .int (1)], .tup [.int (0), .int (1)], .tup [.int (0), .int (1)], .tup [.int (0), .int (1)], .tup [.int (0), .int (1)], .tup [.int (0), .int (1)], .tup [.int (0), .int (1)], .tup [.int (0), .int (1)], .tup [.int (0), .int (1)]], .tup [.tup [.int (0), .int (2), .int (4), .int (6), .int (8), .int (10), .int (12), .int (14), .int (16), .int (18), .int (20), .int (22), .int (24)], .tup [.int (1), .int (3), .int (5), .int (7), .int (9), .int (11), .int (13), .int (15), .int (17), .int (19), .int (21), .int (23), .int (25)]]], .tup [.int (5)]], .tup [.int (6), .int (7), .int (8), .int (9), .int (10), .int (11), .int (12)])
theorem m13A23_ok : chkE tb wf [] 15 0 m13A23 = true := by kernel_rfl
def m13A24 : Nat × List W × W := (35, [.tup [.int (2), .tup [.tup [.int (0), .int (1)], .tup [.int (0), .int (1)], .tup [.int (0), .int (1)], .tup [.int (0), .int (1)], .tup [.int (0), .int (1)], .tup [.int (0), .int (1)], .tup [.int (0), .int (1)], .tup [.int (0), .int (1)], .tup [.int (0), .int (1)], .tup [.int (0), .int (1)], .tup [.int (0), .int (1)], .tup [.int (0), .int (1)], .tup [.int (0), .int (1)]], .tup [.tup [.int (0), .int (2), .int (4), .int (6), .int (8), .int (10), .int (12), .int (14), .int (16), .int (18), .int (20), .int (22), .int (24)], .tup [.int (1), .int (3), .int (5), .int (7), .int (9), .int (11), .int (13), .int (15), .int (17), .int (19), .int (21), .int (23), .int (25)]]], .tup [.int (6)]], .tup [.int (7), .int (8), .int (9), .int (10), .int (11), .int (12)])
theorem m13A24_ok : chkE tb wf [] 15 0 m13A24 = true := by kernel_rfl
def m13A25 : Nat × List W × W := (35, [.tup [.int (2), .tup [.tup [.int (0), .int (1)], .tup [.int (0), .int (1)], .tup [.int (0), .int (1)], .tup [.int (0), .int (1)], .tup [.int (0), .int (1)], .tup [.int (0), .int (1)], .tup [.int (0), .int (1)], .tup [.int (0), .int (1)], .tup [.int (0), .int (1)], .tup [.int (0), .int (1)], .tup [.int (0), .int (1)], .tup [.int (0), .int (1)], .tup [.int (0), .int (1)]], .tup [.tup [.int (0), .int (2), .int (4), .int (6), .int (8), .int (10), .int (12), .int (14), .int (16), .int (18), .int (20), .int (22), .int (24)], .tup [.int (1), .int (3), .int (5), .int (7), .int (9), .int (11), .int (13), .int (15), .int (17), .int (19), .int (21), .int (23), .int (25)]]], .tup [.int (7)]], .tup [.int (8), .int (9), .int (10), .int (11), .int (12)])
theorem m13A25_ok : chkE tb wf [] 15 0 m13A25 = true := by kernel_rfl
def m13A26 : Nat × List W × W := (35, [.tup [.int (2), .tup [.tup [.int (0), .int (1)], .tup [.int (0), .int (1)], .tup [.int (0), .int (1)], .tup [.int (0), .int (1)], .tup [.int (0), .int (1)], .tup [.int (0), .int (1)], .tup [.int (0), .int (1)], .tup [.int (0), .int (1)], .tup [.int (0), .int (1)], .tup [.int (0), .int (1)], .tup [.int (0), .int (1)], .tup [.int (0), .int (1)], .tup [.int (0), .int (1)]], .tup [.tup [.int (0), .int (2), .int (4), .int (6), .int (8), .int (10), .int (12), .int (14), .int (16), .int (18), .int (20), .int (22), .int (24)], .tup [.int (1), .int (3), .int (5), .int (7), .int (9), .int (11), .int (13), .int (15), .int (17), .int (19), .int (21), .int (23), .int (25)]]], .tup [.int (8)]], .tup [.int (9), .int (10), .int (11), .int (12)])
theorem m13A26_ok : chkE tb wf [] 15 0 m13A26 = true := by kernel_rfl
def m13A27 : Nat × List W × W := (35, [.tup [.int (2), .tup [.tup [.int (0), .int (1)], .tup [.int (0), .int (1)], .tup [.int (0), .int (1)], .tup [.int (0), .int (1)], .tup [.int (0), .int (1)], .tup [.int (0), .int (1)], .tup [.int (0), .int (1)], .tup [.int (0), .int (1)], .tup [.int (0), .int (1)], .tup [.int (0), .int (1)], .tup [.int (0), .int (1)], .tup [.int (0), .int (1)], .tup [.int (0), .int (1)]], .tup [.tup [.int (0), .int (2), .int (4), .int (6), .int (8), .int (10), .int (12), .int (14), .int (16), .int (18), .int (20), .int (22), .int (24)], .tup [.int (1), .int (3), .int (5), .int (7), .int (9), .int (11), .int (13), .int (15), .int (17), .int (19), .int (21), .int (23), .int (25)]]], .tup [.int (9)]], .tup [.int (10), .int (11), .int (12)])
theorem m13A27_ok : chkE tb wf [] 15 0 m13A27 = true := by kernel_rfl
def m13A28 : Nat × List W × W := (35, [.tup [.int (2), .tup [.tup [.int (0), .int (1)], .tup [.int (0), .int (1)], .tup [.int (0), .int (1)], .tup [.int (0), .int (1)], .tup [.int (0), .int (1)], .tup [.int (0), .int (1)], .tup [.int (0), .int (1)], .tup [.int (0), .int (1)], .tup [.int (0), .int (1)], .tup [.int (0), .int (1)], .tup [.int (0), .int (1)], .tup [.int (0), .int (1)], .tup [.int (0), .int (1)]], .tup [.tup [.int (0), .int (2), .int (4), .int (6), .int (8), .int (10), .int (12), .int (14), .int (16), .int (18), .int (20), .int (22), .int (24)], .tup [.int (1), .int (3), .int (5), .int (7), .int (9), .int (11), .int (13), .int (15), .int (17), .int (19), .int (21), .int (23), .int (25)]]], .tup [.int (10)]], .tup [.int (11), .int (12)])
theorem m13A28_ok : chkE tb wf [] 15 0 m13A28 = true := by kernel_rfl
def m13A29 : Nat × List W × W := (35, [.tup [.int (2), .tup [.tup [.int (0), .int (1)], .tup [.int (0), .int (1)], .tup [.int (0), .int (1)], .tup [.int (0), .int (1)], .tup [.int (0), .int (1)], .tup [.int (0), .int (1)], .tup [.int (0), .int (1)], .tup [.int (0), .int (1)], .tup [.int (0), .int (1)], .tup [.int (0), .int (1)], .tup [.int (0), .int (1)], .tup [.int (0), .int (1)], .tup [.int (0), .int (1)]], .tup [.tup [.int (0), .int (2), .int (4), .int (6), .int (8), .int (10), .int (12), .int (14), .int (16), .int (18), .int (20), .int (22), .int (24)], .tup [.int (1), .int (3), .int (5), .int (7), .int (9), .int (11), .int (13), .int (15), .int (17), .int (19), .int (21), .int (23), .int (25)]]], .tup [.int (11)]], .tup [.int (12)])
theorem m13A29_ok : chkE tb wf [] 15 0 m13A29 = true := by kernel_rfl
def m13A30 : Nat × List W × W := (35, [.tup [.int (2), .tup [.tup [.int (0), .int (1)], .tup [.int (0), .int (1)], .tup [.int (0), .int (1)], .tup [.int (0), .int (1)], .tup [.int (0), .int (1)], .tup [.int (0), .int (1)], .tup [.int (0), .int (1)], .tup [.int (0), .int (1)], .tup [.int (0), .int (1)], .tup [.int (0), .int (1)], .tup [.int (0), .int (1)], .tup [.int (0), .int (1)], .tup [.int (0), .int (1)]], .tup [.tup [.int (0), .int (2), .int (4), .int (6), .int (8), .int (10), .int (12), .int (14), .int (16), .int (18), .int (20), .int (22), .int (24)], .tup [.int (1), .int (3), .int (5), .int (7), .int (9), .int (11), .int (13), .int (15), .int (17), .int (19), .int (21), .int (23), .int (25)]]], .tup [.int (12)]], .tup [])
theorem m13A30_ok : chkE tb wf [] 15 0 m13A30 = true := by kernel_rfl
def m13A31 : Nat × List W × W := (11, [.tup [.int (2), .tup [.tup [.int (0), .int (1)], .tup [.int (0), .int (1)], .tup [.int (0), .int (1)], .tup [.int (0), .int (1)], .tup [.int (0), .int (1)], .tup [.int (0), .int (1)], .tup [.int (0), .int (1)], .tup [.int (0), .int (1)], .tup [.int (0), .int (1)], .tup [.int (0), .int (1)], .tup [.int (0), .int (1)], .tup [.int (0), .int (1)], .tup [.int (0), .int (1)]], .tup [.tup [.int (0), .int (2), .int (4), .int (6), .int (8), .int (10), .int (12), .int (14), .int (16), .int (18), .int (20), .int (22), .int (24)], .tup [.int (1), .int (3), .int (5), .int (7), .int (9), .int (11), .int (13), .int (15), .int (17), .int (19), .int (21), .int (23), .int (25)]]], .int (0), .tup [.int (0), .int (0)]], .bl true)
theorem m13A31_ok : chkE tb wf [] 15 0 m13A31 = true := by kernel_rfl
def m13A32 : Nat × List W × W := (11, [.tup [.int (2), .tup [.tup [.int (0), .int (1)], .tup [.int (0), .int (1)], .tup [.int (0), .int (1)], .tup [.int (0), .int (1)], .tup [.int (0), .int (1)], .tup [.int (0), .int (1)], .tup [.int (0), .int (1)], .tup [.int (0), .int (1)], .tup [.int (0), .int (1)], .tup [.int (0), .int (1)], .tup [.int (0), .int (1)], .tup [.int (0), .int (1)], .tup [.int (0), .int (1)]], .tup [.tup [.int (0), .int (2), .int (4), .int (6), .int (8), .int (10), .int (12), .int (14), .int (16), .int (18), .int (20), .int (22), .int (24)], .tup [.int (1), .int (3), .int (5), .int (7), .int (9), .int (11), .int (13), .int (15), .int (17), .int (19), .int (21), .int (23), .int (25)]]], .int (0), .tup [.int (0), .int (1)]], .bl true)
theorem m13A32_ok : chkE tb wf [] 15 0 m13A32 = true := by kernel_rfl
def m13A33 : Nat × List W × W := (11, [.tup [.int (2), .tup [.tup [.int (0), .int (1)], .tup [.int (0), .int (1)], .tup [.int (0), .int (1)], .tup [.int (0), .int (1)], .tup [.int (0), .int (1)], .tup [.int (0), .int (1)], .tup [.int (0), .int (1)], .tup [.int (0), .int (1)], .tup [.int (0), .int (1)], .tup [.int (0), .int (1)], .tup [.int (0), .int (1)], .tup [.int (0), .int (1)], .tup [.int (0), .int (1)]], .tup [.tup [.int (0), .int (2), .int (4), .int (6), .int (8), .int (10), .int (12), .int (14), .int (16), .int (18), .int (20), .int (22), .int (24)], .tup [.int (1), .int (3), .int (5), .int (7), .int (9), .int (11), .int (13), .int (15), .int (17), .int (19), .int (21), .int (23), .int (25)]]], .int (0), .tup [.int (0), .int (2)]], .bl true)
theorem m13A33_ok : chkE tb wf [] 15 0 m13A33 = true := by kernel_rfl
def m13A34 : Nat × List W × W := (11, [.tup [.int (2), .tup [.tup [.int (0), .int (1)], .tup [.int (0), .int (1)], .tup [.int (0), .int (1)], .tup [.int (0), .int (1)], .tup [.int (0), .int (1)], .tup [.int (0), .int (1)], .tup [.int (0), .int (1)], .tup [.int (0), .int (1)], .tup [.int (0), .int (1)], .tup [.int (0), .int (1)], .tup [.int (0), .int (1)], .tup [.int (0), .int (1)], .tup [.int (0), .int (1)]], .tup [.tup [.int (0), .int (2), .int (4), .int (6), .int (8), .int (10), .int (12), .int (14), .int (16), .int (18), .int (20), .int (22), .int (24)], .tup [.int (1), .int (3), .int (5), .int (7), .int (9), .int (11), .int (13), .int (15), .int (17), .int (19), .int (21), .int (23), .int (25)]]], .int (0), .tup [.int (0), .int (3)]], .bl true)
theorem m13A34_ok : chkE tb wf [] 15 0 m13A34 = true := by kernel_rfl
def m13A35 : Nat × List W × W := (11, [.tup [.int (2), .tup [.tup [.int (0), .int (1)], .tup [.int (0), .int (1)], .tup [.int (0), .int (1)], .tup [.int (0), .int (1)], .tup [.int (0), .int (1)], .tup [.int (0), .int (1)], .tup [.int (0), .int (1)], .tup [.int (0), .int (1)], .tup [.int (0), .int (1)], .tup [.int (0), .int (1)], .tup [.int (0), .int (1)], .tup [.int (0), .int (1)], .tup [.int (0), .int (1)]], .tup [.tup [.int (0), .int (2), .int (4), .int (6), .int (8), .int (10), .int (12), .int (14), .int (16), .int (18), .int (20), .int (22), .int (24)], .tup [.int (1), .int (3), .int (5), .int (7), .int (9), .int (11), .int (13), .int (15), .int (17), .int (19), .int (21), .int (23), .int (25)]]], .int (0), .tup [.int (0), .int (4)]], .bl true)
theorem m13A35_ok : chkE tb wf [] 15 0 m13A35 = true := by kernel_rfl
def m13A36 : Nat × List W × W := (11, [.tup [.int (2), .tup [.tup [.int (0), .int (1)], .tup [.int (0), .int (1)], .tup [.int (0), .int (1)], .tup [.int (0), .int (1)], .tup [.int (0), .int (1)], .tup [.int (0), .int (1)], .tup [.int (0), .int (1)], .tup [.int (0), .int (1)], .tup [.int (0), .int (1)], .tup [.int (0), .int (1)], .tup [.int (0), .int (1)], .tup [.int (0), .int (1)], .tup [.int (0), .int (1)]], .tup [.tup [.int (0), .int (2), .int (4), .int (6), .int (8), .int (10), .int (12), .int (14), .int (16), .int (18), .int (20), .int (22), .int (24)], .tup [.int (1), .int (3), .int (5), .int (7), .int (9), .int (11), .int (13), .int (15), .int (17), .int (19), .int (21), .int (23), .int (25)]]], .int (0), .tup [.int (0), .int (5)]], .bl true)
theorem m13A36_ok : chkE tb wf [] 15 0 m13A36 = true := by kernel_rfl
def m13A37 : Nat × List W × W := (11, [.tup [.int (2), .tup [.tup [.int (0), .int (1)], .tup [.int (0), .int (1)], .tup [.int (0), .int (1)], .tup [.int (0), .int (1)], .tup [.int (0), .int (1)], .tup [.int (0), .int (1)], .tup [.int (0), .int (1)], .tup [.int (0), .int (1)], .tup [.int (0), .int (1)], .tup [.int (0), .int (1)], .tup [.int (0), .int (1)], .tup [.int (0), .int (1)], .tup [.int (0), .int (1)]], .tup [.tup [.int (0), .int (2), .int (4), .int (6), .int (8), .int (10), .int (12), .int (14), .int (16), .int (18), .int (20), .int (22), .int (24)], .tup [.int (1), .int (3), .int (5), .int (7), .int (9), .int (11), .int (13), .int (15), .int (17), .int (19), .int (21), .int (23), .int (25)]]], .int (0), .tup [.int (0), .int (6)]], .bl true)
theorem m13A37_ok : chkE tb wf [] 15 0 m13A37 = true := by kernel_rfl
def m13A38 : Nat × List W × W := (11, [.tup [.int (2), .tup [.tup [.int (0), .int (1)], .tup [.int (0), .int (1)], .tup [.int (0), .int (1)], .tup [.int (0), .int (1)], .tup [.int (0), .int (1)], .tup [.int (0), .int (1)], .tup [.int (0), .int (1)], .tup [.int (0), .int (1)], .tup [.int (0), .int (1)], .tup [.int (0), .int (1)], .tup [.int (0), .int (1)], .tup [.int (0), .int (1)], .tup [.int (0), .int (1)]], .tup [.tup [.int (0), .int (2), .int (4), .int (6), .int (8), .int (10), .int (12), .int (14), .int (16), .int (18), .int (20), .int (22), .int (24)], .tup [.int (1), .int (3), .int (5), .int (7), .int (9), .int (11), .int (13), .int (15), .int (17), .int (19), .int (21), .int (23), .int (25)]]], .int (0), .tup [.int (0), .int (7)]], .bl true)
theorem m13A38_ok : chkE tb wf [] 15 0 m13A38 = true := by kernel_rfl
def m13A39 : Nat × List W × W := (11, [.tup [.int (2), .tup [.tup [.int (0), .int (1)], .tup [.int (0), .int (1)], .tup [.int (0), .int (1)], .tup [.int (0), .int (1)], .tup [.int (0), .int (1)], .tup [.int (0), .int (1)], .tup [.int (0), .int (1)], .tup [.int (0), .int (1)], .tup [.int (0), .int (1)], .tup [.int (0), .int (1)], .tup [.int (0), .int (1)], .tup [.int (0), .int (1)], .tup [.int (0), .int (1)]], .tup [.tup [.int (0), .int (2), .int (4), .int (6), .int (8), .int (10), .int (12), .int (14), .int (16), .int (18), .int (20), .int (22), .int (24)], .tup [.int (1), .int (3), .int (5), .int (7), .int (9), .int (11), .int (13), .int (15), .int (17), .int (19), .int (21), .int (23), .int (25)]]], .int (0), .tup [.int (0), .int (8)]], .bl true)
theorem m13A39_ok : chkE tb wf [] 15 0 m13A39 = true := by kernel_rfl
def m13A40 : Nat × List W × W := (11, [.tup [.int (2), .tup [.tup [.int (0), .int (1)], .tup [.int (0), .int (1)], .tup [.int (0), .int (1)], .tup [.int (0), .int (1)], .tup [.int (0), .int (1)], .tup [.int (0), .int (1)], .tup [.int (0), .int (1)], .tup [.int (0), .int (1)], .tup [.int (0), .int (1)], .tup [.int (0), .int (1)], .tup [.int (0), .int (1)], .tup [.int (0), .int (1)], .tup [.int (0), .int (1)]], .tup [.tup [.int (0), .int (2), .int (4), .int (6), .int (8), .int (10), .int (12), .int (14), .int (16), .int (18), .int (20), .int (22), .int (24)], .tup [.int (1), .int (3), .int (5), .int (7), .int (9), .int (11), .int (13), .int (15), .int (17), .int (19), .int (21), .int (23), .int (25)]]], .int (0), .tup [.int (0), .int (9)]], .bl true)
theorem m13A40_ok : chkE tb wf [] 15 0 m13A40 = true := by kernel_rfl
def m13A41 : Nat × List W × W := (11, [.tup [.int (2), .tup [.tup [.int (0), .int (1)], .tup [.int (0), .int (1)], .tup [.int (0), .int (1)], .tup [.int (0), .int (1)], .tup [.int (0), .int (1)], .tup [.int (0), .int (1)], .tup [.int (0), .int (1)], .tup [.int (0), .int (1)], .tup [.int (0), .int (1)], .tup [.int (0), .int (1)], .tup [.int (0), .int (1)], .tup [.int (0), .int (1)], .tup [.int (0), .int (1)]], .tup [.tup [.int (0), .int (2), .int (4), .int (6), .int (8), .int (10), .int (12), .int (14), .int (16), .int (18), .int (20), .int (22), .int (24)], .tup [.int (1), .int (3), .int (5), .int (7), .int (9), .int (11), .int (13), .int (15), .int (17), .int (19), .int (21), .int (23), .int (25)]]], .int (0), .tup [.int (0), .int (10)]], .bl true)
theorem m13A41_ok : chkE tb wf [] 15 0 m13A41 = true := by kernel_rfl
def m13A42 : Nat × List W × W := (11, [.tup [.int (2), .tup [.tup [.int (0), .int (1)], .tup [.int (0), .int (1)], .tup [.int (0), .int (1)], .tup [.int (0), .int (1)], .tup [.int (0), .int (1)], .tup [.int (0), .int (1)], .tup [.int (0), .int (1)], .tup [.int (0), .int (1)], .tup [.int (0), .int (1)], .tup [.int (0), .int (1)], .tup [.int (0), .int (1)], .tup [.int (0), .int (1)], .tup [.int (0), .int (1)]], .tup [.tup [.int (0), .int (2), .int (4), .int (6), .int (8), .int (10), .int (12), .int (14), .int (16), .int (18), .int (20), .int (22), .int (24)], .tup [.int (1), .int (3), .int (5), .int (7), .int (9), .int (11), .int (13), .int (15), .int (17), .int (19), .int (21), .int (23), .int (25)]]], .int (0), .tup [.int (0), .int (11)]], .bl true)
theorem m13A42_ok : chkE tb wf [] 15 0 m13A42 = true := by kernel_rfl
def m13A43 : Nat × List W × W := (11, [.tup [.int (2), .tup [.tup [.int (0), .int (1)], .tup [.int (0), .int (1)], .tup [.int (0), .int (1)], .tup [.int (0), .int (1)], .tup [.int (0), .int (1)], .tup [.int (0), .int (1)], .tup [.int (0), .int (1)], .tup [.int (0), .int (1)], .tup [.int (0), .int (1)], .tup [.int (0), .int (1)], .tup [.int (0), .int (1)], .tup [.int (0), .int (1)], .tup [.int (0), .int (1)]], .tup [.tup [.int (0), .int (2), .int (4), .int (6), .int (8), .int (10), .int (12), .int (14), .int (16), .int (18), .int (20), .int (22), .int (24)], .tup [.int (1), .int (3), .int (5), .int (7), .int (9), .int (11), .int (13), .int (15), .int (17), .int (19), .int (21), .int (23), .int (25)]]], .int (0), .tup [.int (0), .int (12)]], .bl true)
theorem m13A43_ok : chkE tb wf [] 15 0 m13A43 = true := by kernel_rfl
def m13TA : List (Nat × List W × W) := [m13A0, m13A1, m13A2, m13A3, m13A4, m13A5, m13A6, m13A7, m13A8, m13A9, m13A10, m13A11, m13A12, m13A13, m13A14, m13A15, m13A16, m13A17, m13A18, m13A19, m13A20, m13A21, m13A22, m13A23, m13A24, m13A25, m13A26, m13A27, m13A28, m13A29, m13A30, m13A31, m13A32, m13A33, m13A34, m13A35, m13A36, m13A37, m13A38, m13A39, m13A40, m13A41, m13A42, m13A43]
theorem m13TA_ok : Val tb wf m13TA 16 := Val.put (k := 0) rfl (Val.nil tb wf 15) m13A0_ok (Val.put (k := 0) rfl (Val.nil tb wf 15) m13A1_ok (Val.put (k := 0) rfl (Val.nil tb wf 15) m13A2_ok (Val.put (k := 0) rfl (Val.nil tb wf 15) m13A3_ok (Val.put (k := 0) rfl (Val.nil tb wf 15) m13A4_ok (Val.put (k := 0) rfl (Val.nil tb wf 15) m13A5_ok (Val.put (k := 0) rfl (Val.nil tb wf 15) m13A6_ok (Val.put (k := 0) rfl (Val.nil tb wf 15) m13A7_ok (Val.put (k := 0) rfl (Val.nil tb wf 15) m13A8_ok (Val.put (k := 0) rfl (Val.nil tb wf 15) m13A9_ok (Val.put (k := 0) rfl (Val.nil tb wf 15) m13A10_ok (Val.put (k := 0) rfl (Val.nil tb wf 15) m13A11_ok (Val.put (k := 0) rfl (Val.nil tb wf 15) m13A12_ok (Val.put (k := 0) rfl (Val.nil tb wf 15) m13A13_ok (Val.put (k := 0) rfl (Val.nil tb wf 15) m13A14_ok (Val.put (k := 0) rfl (Val.nil tb wf 15) m13A15_ok (Val.put (k := 0) rfl (Val.nil tb wf 15) m13A16_ok (Val.put (k := 0) rfl (Val.nil tb wf 15) m13A17_ok (Val.put (k := 0) rfl (Val.nil tb wf 15) m13A18_ok (Val.put (k := 0) rfl (Val.nil tb wf 15) m13A19_ok (Val.put (k := 0) rfl (Val.nil tb wf 15) m13A20_ok (Val.put (k := 0) rfl (Val.nil tb wf 15) m13A21_ok (Val.put (k := 0) rfl (Val.nil tb wf 15) m13A22_ok (Val.put (k := 0) rfl (Val.nil tb wf 15) m13A23_ok (Val.put (k := 0) rfl (Val.nil tb wf 15) m13A24_ok (Val.put (k := 0) rfl (Val.nil tb wf 15) m13A25_ok (Val.put (k := 0) rfl (Val.nil tb wf 15) m13A26_ok (Val.put (k := 0) rfl (Val.nil tb wf 15) m13A27_ok (Val.put (k := 0) rfl (Val.nil tb wf 15) m13A28_ok (Val.put (k := 0) rfl (Val.nil tb wf 15) m13A29_ok (Val.put (k := 0) rfl (Val.nil tb wf 15) m13A30_ok (Val.put (k := 0) rfl (Val.nil tb wf 15) m13A31_ok (Val.put (k := 0) rfl (Val.nil tb wf 15) m13A32_ok (Val.put (k := 0) rfl (Val.nil tb wf 15) m13A33_ok (Val.put (k := 0) rfl (Val.nil tb wf 15) m13A34_ok (Val.put (k := 0) rfl (Val.nil tb wf 15) m13A35_ok (Val.put (k := 0) rfl (Val.nil tb wf 15) m13A36_ok (Val.put (k := 0) rfl (Val.nil tb wf 15) m13A37_ok (Val.put (k := 0) rfl (Val.nil tb wf 15) m13A38_ok (Val.put (k := 0) rfl (Val.nil tb wf 15) m13A39_ok (Val.put (k := 0) rfl (Val.nil tb wf 15) m13A40_ok (Val.put (k := 0) rfl (Val.nil tb wf 15) m13A41_ok (Val.put (k := 0) rfl (Val.nil tb wf 15) m13A42_ok (Val.put (k := 0) rfl (Val.nil tb wf 15) m13A43_ok (Val.nil tb wf 16))))))))))))))))))))))))))))))))))))))))))))
def m13B0 : Nat × List W × W := (32, [.tup [.int (2), .tup [.tup [.int (0), .int (1)], .tup [.int (0), .int (1)], .tup [.int (0), .int (1)], .tup [.int (0), .int (1)], .tup [.int (0), .int (1)], .tup [.int (0), .int (1)], .tup [.int (0), .int (1)], .tup [.int (0), .int (1)], .tup [.int (0), .int (1)], .tup [.int (0), .int (1)], .tup [.int (0), .int (1)], .tup [.int (0), .int (1)], .tup [.int (0), .int (1)]], .tup [.tup [.int (0), .int (2), .int (4), .int (6), .int (8), .int (10), .int (12), .int (14), .int (16), .int (18), .int (20), .int (22), .int (24)], .tup [.int (1), .int (3), .int (5), .int (7), .int (9), .int (11), .int (13), .int (15), .int (17), .int (19), .int (21), .int (23), .int (25)]]], .int (0), .tup [.int (0)], .str "numbers"], .tup [.int (0), .int (12)])
theorem m13B0_ok : chkE tb wf m13TA 16 8 m13B0 = true := by kernel_rfl
def m13B1 : Nat × List W × W := (32, [.tup [.int (2), .tup [.tup [.int (0), .int (1)], .tup [.int (0), .int (1)], .tup [.int (0), .int (1)], .tup [.int (0), .int (1)], .tup [.int (0), .int (1)], .tup [.int (0), .int (1)], .tup [.int (0), .int (1)], .tup [.int (0), .int (1)], .tup [.int (0), .int (1)], .tup [.int (0), .int (1)], .tup [.int (0), .int (1)], .tup [.int (0), .int (1)], .tup [.int (0), .int (1)]], .tup [.tup [.int (0), .int (2), .int (4), .int (6), .int (8), .int (10), .int (12), .int (14), .int (16), .int (18), .int (20), .int (22), .int (24)], .tup [.int (1), .int (3), .int (5), .int (7), .int (9), .int (11), .int (13), .int (15), .int (17), .int (19), .int (21), .int (23), .int (25)]]], .int (0), .tup [.int (1)], .str "numbers"], .tup [.int (0), .int (11)])
theorem m13B1_ok : chkE tb wf m13TA 16 8 m13B1 = true := by kernel_rfl
def m13B2 : Nat × List W × W := (32, [.tup [.int (2), .tup [.tup [.int (0), .int (1)], .tup [.int (0), .int (1)], .tup [.int (0), .int (1)], .tup [.int (0), .int (1)], .tup [.int (0), .int (1)], .tup [.int (0), .int (1)], .tup [.int (0), .int (1)], .tup [.int (0), .int (1)], .tup [.int (0), .int (1)], .tup [.int (0), .int (1)], .tup [.int (0), .int (1)], .tup [.int (0), .int (1)], .tup [.int (0), .int (1)]], .tup [.tup [.int (0), .int (2), .int (4), .int (6), .int (8), .int (10), .int (12), .int (14), .int (16), .int (18), .int (20), .int (22), .int (24)], .tup [.int (1), .int (3), .int (5), .int (7), .int (9), .int (11), .int (13), .int (15), .int (17), .int (19), .int (21), .int (23), .int (25)]]], .int (0), .tup [.int (2)], .str "numbers"], .tup [.int (0), .int (10)])
theorem m13B2_ok : chkE tb wf m13TA 16 8 m13B2 = true := by kernel_rfl
def m13B3 : Nat × List W × W := (32, [.tup [.int (2), .tup [.tup [.int (0), .int (1)], .tup [.int (0), .int (1)], .tup [.int (0), .int (1)], .tup [.int (0), .int (1)], .tup [.int (0), .int (1)], .tup [.int (0), .int (1)], .tup [.int (0), .int (1)], .tup [.int (0), .int (1)], .tup [.int (0), .int (1)], .tup [.int (0), .int (1)], .tup [.int (0), .int (1)], .tup [.int (0), .int (1)], .tup [.int (0), .int (1)]], .tup [.tup [.int (0), .int (2), .int (4), .int (6), .int (8), .int (10), .int (12), .int (14), .int (16), .int (18), .int (20), .int (22), .int (24)], .tup [.int (1), .int (3), .int (5), .int (7), .int (9), .int (11), .int (13), .int (15), .int (17), .int (19), .int (21), .int (23), .int (25)]]], .int (0), .tup [.int (3)], .str "numbers"], .tup [.int (0), .int (9)])
theorem m13B3_ok : chkE tb wf m13TA 16 8 m13B3 = true := by kernel_rfl
def m13B4 : Nat × List W × W := (32, [.tup [.int (2), .tup [.tup [.int (0), .int (1)], .tup [.int (0), .int (1)], .tup [.int (0), .int (1)], .tup [.int (0), .int (1)], .tup [.int (0), .int (1)], .tup [.int (0), .int (1)], .tup [.int (0), .int (1)], .tup [.int (0), .int (1)], .tup [.int (0), .int (1)], .tup [.int (0), .int (1)], .tup [.int (0), .int (1)], .tup [.int (0), .int (1)], .tup [.int (0), .int (1)]], .tup [.tup [.int (0), .int (2), .int (4), .int (6), .int (8), .int (10), .int (12), .int (14), .int (16), .int (18), .int (20), .int (22), .int (24)], .tup [.int (1), .int (3), .int (5), .int (7), .int (9), .int (11), .int (13), .int (15), .int (17), .int (19), .int (21), .int (23), .int (25)]]], .int (0), .tup [.int (4)], .str "numbers"], .tup [.int (0), .int (8)])
theorem m13B4_ok : chkE tb wf m13TA 16 8 m13B4 = true := by kernel_rfl
def m13B5 : Nat × List W × W := (32, [.tup [.int (2), .tup [.tup [.int (0), .int (1)], .tup [.int (0), .int (1)], .tup [.int (0), .int (1)], .tup [.int (0), .int (1)], .tup [.int (0), .int (1)], .tup [.int (0), .int (1)], .tup [.int (0), .int (1)], .tup [.int (0), .int (1)], .tup [.int (0), .int (1)], .tup [.int (0), .int (1)], .tup [.int (0), .int (1)], .tup [.int (0), .int (1)], .tup [.int (0), .int (1)]], .tup [.tup [.int (0), .int (2), .int (4), .int (6), .int (8), .int (10), .int (12), .int (14), .int (16), .int (18), .int (20), .int (22), .int (24)], .tup [.int (1), .int (3), .int (5), .int (7), .int (9), .int (11), .int (13), .int (15), .int (17), .int (19), .int (21), .int (23), .int (25)]]], .int (0), .tup [.int (5)], .str "numbers"], .tup [.int (0), .int (7)])
theorem m13B5_ok : chkE tb wf m13TA 16 8 m13B5 = true := by kernel_rfl
def m13B6 : Nat × List W × W := (32, [.tup [.int (2), .tup [.tup [.int (0), .int (1)], .tup [.int (0), .int (1)], .tup [.int (0), .int (1)], .tup [.int (0), .int (1)], .tup [.int (0), .int (1)], .tup [.int (0), .int (1)], .tup [.int (0), .int (1)], .tup [.int (0), .int (1)], .tup [.int (0), .int (1)], .tup [.int (0), .int (1)], .tup [.int (0), .int (1)], .tup [.int (0), .int (1)], .tup [.int (0), .int (1)]], .tup [.tup [.int (0), .int (2), .int (4), .int (6), .int (8), .int (10), .int (12), .int (14), .int (16), .int (18), .int (20), .int (22), .int (24)], .tup [.int (1), .int (3), .int (5), .int (7), .int (9), .int (11), .int (13), .int (15), .int (17), .int (19), .int (21), .int (23), .int (25)]]], .int (0), .tup [.int (6)], .str "numbers"], .tup [.int (0), .int (6)])
theorem m13B6_ok : chkE tb wf m13TA 16 8 m13B6 = true := by kernel_rfl
def m13B7 : Nat × List W × W := (32, [.tup [.int (2), .tup [.tup [.int (0), .int (1)], .tup [.int (0), .int (1)], .tup [.int (0), .int (1)], .tup [.int (0), .int (1)], .tup [.int (0), .int (1)], .tup [.int (0), .int (1)], .tup [.int (0), .int (1)], .tup [.int (0), .int (1)], .tup [.int (0), .int (1)], .tup [.int (0), .int (1)], .tup [.int (0), .int (1)], .tup [.int (0), .int (1)], .tup [.int (0), .int (1)]], .tup [.tup [.int (0), .int (2), .int (4), .int (6), .int (8), .int (10), .int (12), .int (14), .int (16), .int (18), .int (20), .int (22), .int (24)], .tup [.int (1), .int (3), .int (5), .int (7), .int (9), .int (11), .int (13), .int (15), .int (17), .int (19), .int (21), .int (23), .int (25)]]], .int (0), .tup [.int (7)], .str "numbers"], .tup [.int (0), .int (5)])
theorem m13B7_ok : chkE tb wf m13TA 16 8 m13B7 = true := by kernel_rfl
def m13B8 : Nat × List W × W := (32, [.tup [.int (2), .tup [.tup [.int (0), .int (1)], .tup [.int (0), .int (1)], .tup [.int (0), .int (1)], .tup [.int (0), .int (1)], .tup [.int (0), .int (1)], .tup [.int (0), .int (1)], .tup [.int (0), .int (1)], .tup [.int (0), .int (1)], .tup [.int (0), .int (1)], .tup [.int (0), .int (1)], .tup [.int (0), .int (1)], .tup [.int (0), .int (1)], .tup [.int (0), .int (1)]], .tup [.tup [.int (0), .int (2), .int (4), .int (6), .int (8), .int (10), .int (12), .int (14), .int (16), .int (18), .int (20), .int (22), .int (24)], .tup [.int (1), .int (3), .int (5), .int (7), .int (9), .int (11), .int (13), .int (15), .int (17), .int (19), .int (21), .int (23), .int (25)]]], .int (0), .tup [.int (8)], .str "numbers"], .tup [.int (0), .int (4)])
theorem m13B8_ok : chkE tb wf m13TA 16 8 m13B8 = true := by kernel_rfl
def m13B9 : Nat × List W × W := (32, [.tup [.int (2), .tup [.tup [.int (0), .int (1)], .tup [.int (0), .int (1)], .tup [.int (0), .int (1)], .tup [.int (0), .int (1)], .tup [.int (0), .int (1)], .tup [.int (0), .int (1)], .tup [.int (0), .int (1)], .tup [.int (0), .int (1)], .tup [.int (0), .int (1)], .tup [.int (0), .int (1)], .tup [.int (0), .int (1)], .tup [.int (0), .int (1)], .tup [.int (0), .int (1)]], .tup [.tup [.int (0), .int (2), .int (4), .int (6), .int (8), .int (10), .int (12), .int (14), .int (16), .int (18), .int (20), .int (22), .int (24)], .tup [.int (1), .int (3), .int (5), .int (7), .int (9), .int (11), .int (13), .int (15), .int (17), .int (19), .int (21), .int (23), .int (25)]]], .int (0), .tup [.int (9)], .str "numbers"], .tup [.int (0), .int (3)])
theorem m13B9_ok : chkE tb wf m13TA 16 8 m13B9 = true := by kernel_rfl
def m13B10 : Nat × List W × W := (32, [.tup [.int (2), .tup [.tup [.int (0), .int (1)], .tup [.int (0), .int (1)], .tup [.int (0), .int (1)], .tup [.int (0), .int (1)], .tup [.int (0), .int (1)], .tup [.int (0), .int (1)], .tup [.int (0), .int (1)], .tup [.int (0), .int (1)], .tup [.int (0), .int (1)], .tup [.int (0), .int (1)], .tup [.int (0), .int (1)], .tup [.int (0), .int (1)], .tup [.int (0), .int (1)]], .tup [.tup [.int (0), .int (2), .int (4), .int (6), .int (8), .int (10), .int (12), .int (14), .int (16), .int (18), .int (20), .int (22), .int (24)], .tup [.int (1), .int (3), .int (5), .int (7), .int (9), .int (11), .int (13), .int (15), .int (17), .int (19), .int (21), .int (23), .int (25)]]], .int (0), .tup [.int (10)], .str "numbers"], .tup [.int (0), .int (2)])
theorem m13B10_ok : chkE tb wf m13TA 16 8 m13B10 = true := by kernel_rfl
def m13B11 : Nat × List W × W := (32, [.tup [.int (2), .tup [.tup [.int (0), .int (1)], .tup [.int (0), .int (1)], .tup [.int (0), .int (1)], .tup [.int (0), .int (1)], .tup [.int (0), .int (1)], .tup [.int (0), .int (1)], .tup [.int (0), .int (1)], .tup [.int (0), .int (1)], .tup [.int (0), .int (1)], .tup [.int (0), .int (1)], .tup [.int (0), .int (1)], .tup [.int (0), .int (1)], .tup [.int (0), .int (1)]], .tup [.tup [.int (0), .int (2), .int (4), .int (6), .int (8), .int (10), .int (12), .int (14), .int (16), .int (18), .int (20), .int (22), .int (24)], .tup [.int (1), .int (3), .int (5), .int (7), .int (9), .int (11), .int (13), .int (15), .int (17), .int (19), .int (21), .int (23), .int (25)]]], .int (0), .tup [.int (11)], .str "numbers"], .tup [.int (0), .int (1)])
theorem m13B11_ok : chkE tb wf m13TA 16 8 m13B11 = true := by kernel_rfl
def m13B12 : Nat × List W × W := (32, [.tup [.int (2), .tup [.tup [.int (0), .int (1)], .tup [.int (0), .int (1)], .tup [.int (0), .int (1)], .tup [.int (0), .int (1)], .tup [.int (0), .int (1)], .tup [.int (0), .int (1)], .tup [.int (0), .int (1)], .tup [.int (0), .int (1)], .tup [.int (0), .int (1)], .tup [.int (0), .int (1)], .tup [.int (0), .int (1)], .tup [.int (0), .int (1)], .tup [.int (0), .int (1)]], .tup [.tup [.int (0), .int (2), .int (4), .int (6), .int (8), .int (10), .int (12), .int (14), .int (16), .int (18), .int (20), .int (22), .int (24)], .tup [.int (1), .int (3), .int (5), .int (7), .int (9), .int (11), .int (13), .int (15), .int (17), .int (19), .int (21), .int (23), .int (25)]]], .int (0), .tup [.int (12)], .str "numbers"], .tup [.int (0), .int (0)])
theorem m13B12_ok : chkE tb wf m13TA 16 8 m13B12 = true := by kernel_rfl
def m13B13 : Nat × List W × W := (38, [.tup [.int (2), .tup [.tup [.int (0), .int (1)], .tup [.int (0), .int (1)], .tup [.int (0), .int (1)], .tup [.int (0), .int (1)], .tup [.int (0), .int (1)], .tup [.int (0), .int (1)], .tup [.int (0), .int (1)], .tup [.int (0), .int (1)], .tup [.int (0), .int (1)], .tup [.int (0), .int (1)], .tup [.int (0), .int (1)], .tup [.int (0), .int (1)], .tup [.int (0), .int (1)]], .tup [.tup [.int (0), .int (2), .int (4), .int (6), .int (8), .int (10), .int (12), .int (14), .int (16), .int (18), .int (20), .int (22), .int (24)], .tup [.int (1), .int (3), .int (5), .int (7), .int (9), .int (11), .int (13), .int (15), .int (17), .int (19), .int (21), .int (23), .int (25)]]], .int (0)], .tup [.int (0), .int (0)])
theorem m13B13_ok : chkE tb wf m13TA 16 8 m13B13 = true := by kernel_rfl
def m13B14 : Nat × List W × W := (36, [.tup [.int (2), .tup [.tup [.int (0), .int (1)], .tup [.int (0), .int (1)], .tup [.int (0), .int (1)], .tup [.int (0), .int (1)], .tup [.int (0), .int (1)], .tup [.int (0), .int (1)], .tup [.int (0), .int (1)], .tup [.int (0), .int (1)], .tup [.int (0), .int (1)], .tup [.int (0), .int (1)], .tup [.int (0), .int (1)], .tup [.int (0), .int (1)], .tup [.int (0), .int (1)]], .tup [.tup [.int (0), .int (2), .int (4), .int (6), .int (8), .int (10), .int (12), .int (14), .int (16), .int (18), .int (20), .int (22), .int (24)], .tup [.int (1), .int (3), .int (5), .int (7), .int (9), .int (11), .int (13), .int (15), .int (17), .int (19), .int (21), .int (23), .int (25)]]]], .tup [.int (1), .int (1), .int (1), .int (1), .int (1), .int (1), .int (1), .int (1), .int (1), .int (1), .int (1), .int (1), .int (1)])
theorem m13B14_ok : chkE tb wf m13TA 16 8 m13B14 = true := by kernel_rfl
def m13B15 : Nat × List W × W := (4, [.tup [.int (2), .tup [.tup [.int (0), .int (1)], .tup [.int (0), .int (1)], .tup [.int (0), .int (1)], .tup [.int (0), .int (1)], .tup [.int (0), .int (1)], .tup [.int (0), .int (1)], .tup [.int (0), .int (1)], .tup [.int (0), .int (1)], .tup [.int (0), .int (1)], .tup [.int (0), .int (1)], .tup [.int (0), .int (1)], .tup [.int (0), .int (1)], .tup [.int (0), .int (1)]], .tup [.tup [.int (0), .int (2), .int (4), .int (6), .int (8), .int (10), .int (12), .int (14), .int (16), .int (18), .int (20), .int (22), .int (24)], .tup [.int (1), .int (3), .int (5), .int (7), .int (9), .int (11), .int (13), .int (15), .int (17), .int (19), .int (21), .int (23), .int (25)]]], .int (0), .tup [.int (0), .int (26)]], .tup [.int (0), .int (0)])
theorem m13B15_ok : chkE tb wf m13TA 16 8 m13B15 = true := by kernel_rfl
def m13B16 : Nat × List W × W := (4, [.tup [.int (2), .tup [.tup [.int (0), .int (1)], .tup [.int (0), .int (1)], .tup [.int (0), .int (1)], .tup [.int (0), .int (1)], .tup [.int (0), .int (1)], .tup [.int (0), .int (1)], .tup [.int (0), .int (1)], .tup [.int (0), .int (1)], .tup [.int (0), .int (1)], .tup [.int (0), .int (1)], .tup [.int (0), .int (1)], .tup [.int (0), .int (1)], .tup [.int (0), .int (1)]], .tup [.tup [.int (0), .int (2), .int (4), .int (6), .int (8), .int (10), .int (12), .int (14), .int (16), .int (18), .int (20), .int (22), .int (24)], .tup [.int (1), .int (3), .int (5), .int (7), .int (9), .int (11), .int (13), .int (15), .int (17), .int (19), .int (21), .int (23), .int (25)]]], .int (0), .tup [.int (0), .int (92)]], .tup [.int (0), .int (1)])
theorem m13B16_ok : chkE tb wf m13TA 16 8 m13B16 = true := by kernel_rfl
def m13B17 : Nat × List W × W := (4, [.tup [.int (2), .tup [.tup [.int (0), .int (1)], .tup [.int (0), .int (1)], .tup [.int (0), .int (1)], .tup [.int (0), .int (1)], .tup [.int (0), .int (1)], .tup [.int (0), .int (1)], .tup [.int (0), .int (1)], .tup [.int (0), .int (1)], .tup [.int (0), .int (1)], .tup [.int (0), .int (1)], .tup [.int (0), .int (1)], .tup [.int (0), .int (1)], .tup [.int (0), .int (1)]], .tup [.tup [.int (0), .int (2), .int (4), .int (6), .int (8), .int (10), .int (12), .int (14), .int (16), .int (18), .int (20), .int (22), .int (24)], .tup [.int (1), .int (3), .int (5), .int (7), .int (9), .int (11), .int (13), .int (15), .int (17), .int (19), .int (21), .int (23), .int (25)]]], .int (0), .tup [.int (0), .int (13)]], .tup [.int (0), .int (0)])
theorem m13B17_ok : chkE tb wf m13TA 16 8 m13B17 = true := by kernel_rfl
def m13B18 : Nat × List W × W := (4, [.tup [.int (2), .tup [.tup [.int (0), .int (1)], .tup [.int (0), .int (1)], .tup [.int (0), .int (1)], .tup [.int (0), .int (1)], .tup [.int (0), .int (1)], .tup [.int (0), .int (1)], .tup [.int (0), .int (1)], .tup [.int (0), .int (1)], .tup [.int (0), .int (1)], .tup [.int (0), .int (1)], .tup [.int (0), .int (1)], .tup [.int (0), .int (1)], .tup [.int (0), .int (1)]], .tup [.tup [.int (0), .int (2), .int (4), .int (6), .int (8), .int (10), .int (12), .int (14), .int (16), .int (18), .int (20), .int (22), .int (24)], .tup [.int (1), .int (3), .int (5), .int (7), .int (9), .int (11), .int (13), .int (15), .int (17), .int (19), .int (21), .int (23), .int (25)]]], .int (0), .tup [.int (0), .int (21)]], .tup [.int (0), .int (8)])
theorem m13B18_ok : chkE tb wf m13TA 16 8 m13B18 = true := by kernel_rfl
def m13B19 : Nat × List W × W := (31, [.tup [.int (2), .tup [.tup [.int (0), .int (1)], .tup [.int (0), .int (1)], .tup [.int (0), .int (1)], .tup [.int (0), .int (1)], .tup [.int (0), .int (1)], .tup [.int (0), .int (1)], .tup [.int (0), .int (1)], .tup [.int (0), .int (1)], .tup [.int (0), .int (1)], .tup [.int (0), .int (1)], .tup [.int (0), .int (1)], .tup [.int (0), .int (1)], .tup [.int (0), .int (1)]], .tup [.tup [.int (0), .int (2), .int (4), .int (6), .int (8), .int (10), .int (12), .int (14), .int (16), .int (18), .int (20), .int (22), .int (24)], .tup [.int (1), .int (3), .int (5), .int (7), .int (9), .int (11), .int (13), .int (15), .int (17), .int (19), .int (21), .int (23), .int (25)]]], .int (0), .tup [.int (0), .int (0)], .str "numbers"], .tup [.int (12)])
theorem m13B19_ok : chkE tb wf m13TA 16 8 m13B19 = true := by kernel_rfl
def m13B20 : Nat × List W × W := (31, [.tup [.int (2), .tup [.tup [.int (0), .int (1)], .tup [.int (0), .int (1)], .tup [.int (0), .int (1)], .tup [.int (0), .int (1)], .tup [.int (0), .int (1)], .tup [.int (0), .int (1)], .tup [.int (0), .int (1)], .tup [.int (0), .int (1)], .tup [.int (0), .int (1)], .tup [.int (0), .int (1)], .tup [.int (0), .int (1)], .tup [.int (0), .int (1)], .tup [.int (0), .int (1)]], .tup [.tup [.int (0), .int (2), .int (4), .int (6), .int (8), .int (10), .int (12), .int (14), .int (16), .int (18), .int (20), .int (22), .int (24)], .tup [.int (1), .int (3), .int (5), .int (7), .int (9), .int (11), .int (13), .int (15), .int (17), .int (19), .int (21), .int (23), .int (25)]]], .int (0), .tup [.int (0), .int (1)], .str "numbers"], .tup [.int (11)])
theorem m13B20_ok : chkE tb wf m13TA 16 8 m13B20 = true := by kernel_rfl
def m13B21 : Nat × List W × W := (31, [.tup [.int (2), .tup [.tup [.int (0), .int (1)], .tup [.int (0), .int (1)], .tup [.int (0), .int (1)], .tup [.int (0), .int (1)], .tup [.int (0), .int (1)], .tup [.int (0), .int (1)], .tup [.int (0), .int (1)], .tup [.int (0), .int (1)], .tup [.int (0), .int (1)], .tup [.int (0), .int (1)], .tup [.int (0), .int (1)], .tup [.int (0), .int (1)], .tup [.int (0), .int (1)]], .tup [.tup [.int (0), .int (2), .int (4), .int (6), .int (8), .int (10), .int (12), .int (14), .int (16), .int (18), .int (20), .int (22), .int (24)], .tup [.int (1), .int (3), .int (5), .int (7), .int (9), .int (11), .int (13), .int (15), .int (17), .int (19), .int (21), .int (23), .int (25)]]], .int (0), .tup [.int (0), .int (2)], .str "numbers"], .tup [.int (10)])
theorem m13B21_ok : chkE tb wf m13TA 16 8 m13B21 = true := by kernel_rfl
def m13B22 : Nat × List W × W := (31, [.tup [.int (2), .tup [.tup [.int (0), .int (1)], .tup [.int (0), .int (1)], .tup [.int (0), .int (1)], .tup [.int (0), .int (1)], .tup [.int (0), .int (1)], .tup [.int (0), .int (1)], .tup [.int (0), .int (1)], .tup [.int (0), .int (1)], .tup [.int (0), .int (1)], .tup [.int (0), .int (1)], .tup [.int (0), .int (1)], .tup [.int (0), .int (1)], .tup [.int (0), .int (1)]], .tup [.tup [.int (0), .int (2), .int (4), .int (6), .int (8), .int (10), .int (12), .int (14), .int (16), .int (18), .int (20), .int (22), .int (24)], .tup [.int (1), .int (3), .int (5), .int (7), .int (9), .int (11), .int (13), .int (15), .int (17), .int (19), .int (21), .int (23), .int (25)]]], .int (0), .tup [.int (0), .int (3)], .str "numbers"], .tup [.int (9)])
theorem m13B22_ok : chkE tb wf m13TA 16 8 m13B22 = true := by kernel_rfl
def m13B23 : Nat × List W × W := (31, [.tup [.int (2), .tup [.tup [.int (0), .int (1)], .tup [.int (0), .int (1)], .tup [.int (0), .int (1)], .tup [.int (0), .int (1)], .tup [.int (0), .int (1)], .tup [.int (0), .int (1)], .tup [.int (0), .int (1)], .tup [.int (0), .int (1)], .tup [.int (0), .int (1)], .tup [.int (0), .int (1)], .tup [.int (0), .int (1)], .tup [.int (0), .int (1)], .tup [.int (0), .int (1)]], .tup [.tup [.int (0), .int (2), .int (4), .int (6), .int (8), .int (10), .int (12), .int (14), .int (16), .int (18), .int (20), .int (22), .int (24)], .tup [.int (1), .int (3), .int (5), .int (7), .int (9), .int (11), .int (13), .int (15), .int (17), .int (19), .int (21), .int (23), .int (25)]]], .int (0), .tup [.int (0), .int (4)], .str "numbers"], .tup [.int (8)])
theorem m13B23_ok : chkE tb wf m13TA 16 8 m13B23 = true := by kernel_rfl
def m13B24 : Nat × List W × W := (31, [.tup [.int (2), .tup [.tup [.int (0), .int (1)], .tup [.int (0), .int (1)], .tup [.int (0), .int (1)], .tup [.int (0), .int (1)], .tup [.int (0), .int (1)], .tup [.int (0), .int (1)], .tup [.int (0), .int (1)], .tup [.int (0), .int (1)], .tup [.int (0), .int (1)], .tup [.int (0), .int (1)], .tup [.int (0), .int (1)], .tup [.int (0), .int (1)], .tup [.int (0), .int (1)]], .tup [.tup [.int (0), .int (2), .int (4), .int (6), .int (8), .int (10), .int (12), .int (14), .int (16), .int (18), .int (20), .int (22), .int (24)], .tup [.int (1), .int (3), .int (5), .int (7), .int (9), .int (11), .int (13), .int (15), .int (17), .int (19), .int (21), .int (23), .int (25)]]], .int (0), .tup [.int (0), .int (5)], .str "numbers"], .tup [.int (7)])
theorem m13B24_ok : chkE tb wf m13TA 16 8 m13B24 = true := by kernel_rfl
def m13B25 : Nat × List W × W := (31, [.tup [.int (2), .tup [.tup [.int (0), .int (1)], .tup [.int (0), .int (1)], .tup [.int (0), .int (1)], .tup [.int (0), .int (1)], .tup [.int (0), .int (1)], .tup [.int (0), .int (1)], .tup [.int (0), .int (1)], .tup [.int (0), .int (1)], .tup [.int (0), .int (1)], .tup [.int (0), .int (1)], .tup [.int (0), .int (1)], .tup [.int (0), .int (1)], .tup [.int (0), .int (1)]], .tup [.tup [.int (0), .int (2), .int (4), .int (6), .int (8), .int (10), .int (12), .int (14), .int (16), .int (18), .int (20), .int (22), .int (24)], .tup [.int (1), .int (3), .int (5), .int (7), .int (9), .int (11), .int (13), .int (15), .int (17), .int (19), .int (21), .int (23), .int (25)]]], .int (0), .tup [.int (0), .int (6)], .str "numbers"], .tup [.int (6)])
theorem m13B25_ok : chkE tb wf m13TA 16 8 m13B25 = true := by kernel_rfl
def m13B26 : Nat × List W × W := (31, [.tup [.int (2), .tup [.tup [.int (0), .int (1)], .tup [.int (0), .int (1)], .tup [.int (0), .int (1)], .tup [.int (0), .int (1)], .tup [.int (0), .int (1)], .tup [.int (0), .int (1)], .tup [.int (0), .int (1)], .tup [.int (0), .int (1)], .tup [.int (0), .int (1)], .tup [.int (0), .int (1)], .tup [.int (0), .int (1)], .tup [.int (0), .int (1)], .tup [.int (0), .int (1)]], .tup [.tup [.int (0), .int (2), .int (4), .int (6), .int (8), .int (10), .int (12), .int (14), .int (16), .int (18), .int (20), .int (22), .int (24)], .tup [.int (1), .int (3), .int (5), .int (7), .int (9), .int (11), .int (13), .int (15), .int (17), .int (19), .int (21), .int (23), .int (25)]]], .int (0), .tup [.int (0), .int (7)], .str "numbers"], .tup [.int (5)])
theorem m13B26_ok : chkE tb wf m13TA 16 8 m13B26 = true := by kernel_rfl
def m13B27 : Nat × List W × W := (31, [.tup [.int (2), .tup [.tup [.int (0), .int (1)], .tup [.int (0), .int (1)], .tup [.int (0), .int (1)], .tup [.int (0), .int (1)], .tup [.int (0), .int (1)], .tup [.int (0), .int (1)], .tup [.int (0), .int (1)], .tup [.int (0), .int (1)], .tup [.int (0), .int (1)], .tup [.int (0), .int (1)], .tup [.int (0), .int (1)], .tup [.int (0), .int (1)], .tup [.int (0), .int (1)]], .tup [.tup [.int (0), .int (2), .int (4), .int (6), .int (8), .int (10), .int (12), .int (14), .int (16), .int (18), .int (20), .int (22), .int (24)], .tup [.int (1), .int (3), .int (5), .int (7), .int (9), .int (11), .int (13), .int (15), .int (17), .int (19), .int (21), .int (23), .int (25)]]], .int (0), .tup [.int (0), .int (8)], .str "numbers"], .tup [.int (4)])
theorem m13B27_ok : chkE tb wf m13TA 16 8 m13B27 = true := by kernel_rfl
def m13B28 : Nat × List W × W := (31, [.tup [.int (2), .tup [.tup [.int (0), .int (1)], .tup [.int (0), .int (1)], .tup [.int (0), .int (1)], .tup [.int (0), .int (1)], .tup [.int (0), .int (1)], .tup [.int (0), .int (1)], .tup [.int (0), .int (1)], .tup [.int (0), .int (1)], .tup [.int (0), .int (1)], .tup [.int (0), .int (1)], .tup [.int (0), .int (1)], .tup [.int (0), .int (1)], .tup [.int (0), .int (1)]], .tup [.tup [.int (0), .int (2), .int (4), .int (6), .int (8), .int (10), .int (12), .int (14), .int (16), .int (18), .int (20), .int (22), .int (24)], .tup [.int (1), .int (3), .int (5), .int (7), .int (9), .int (11), .int (13), .int (15), .int (17), .int (19), .int (21), .int (23), .int (25)]]], .int (0), .tup [.int (0), .int (9)], .str "numbers"], .tup [.int (3)])
theorem m13B28_ok : chkE tb wf m13TA 16 8 m13B28 = true := by kernel_rfl
def m13B29 : Nat × List W × W := (31, [.tup [.int (2), .tup [.tup [.int (0), .int (1)], .tup [.int (0), .int (1)], .tup [.int (0), .int (1)], .tup [.int (0), .int (1)], .tup [.int (0), .int (1)], .tup [.int (0), .int (1)], .tup [.int (0), .int (1)], .tup [.int (0), .int (1)], .tup [.int (0), .int (1)], .tup [.int (0), .int (1)], .tup [.int (0), .int (1)], .tup [.int (0), .int (1)], .tup [.int (0), .int (1)]], .tup [.tup [.int (0), .int (2), .int (4), .int (6), .int (8), .int (10), .int (12), .int (14), .int (16), .int (18), .int (20), .int (22), .int (24)], .tup [.int (1), .int (3), .int (5), .int (7), .int (9), .int (11), .int (13), .int (15), .int (17), .int (19), .int (21), .int (23), .int (25)]]], .int (0), .tup [.int (0), .int (10)], .str "numbers"], .tup [.int (2)])
theorem m13B29_ok : chkE tb wf m13TA 16 8 m13B29 = true := by kernel_rfl
def m13B30 : Nat × List W × W := (31, [.tup [.int (2), .tup [.tup [.int (0), .int (1)], .tup [.int (0), .int (1)], .tup [.int (0), .int (1)], .tup [.int (0), .int (1)], .tup [.int (0), .int (1)], .tup [.int (0), .int (1)], .tup [.int (0), .int (1)], .tup [.int (0), .int (1)], .tup [.int (0), .int (1)], .tup [.int (0), .int (1)], .tup [.int (0), .int (1)], .tup [.int (0), .int (1)], .tup [.int (0), .int (1)]], .tup [.tup [.int (0), .int (2), .int (4), .int (6), .int (8), .int (10), .int (12), .int (14), .int (16), .int (18), .int (20), .int (22), .int (24)], .tup [.int (1), .int (3), .int (5), .int (7), .int (9), .int (11), .int (13), .int (15), .int (17), .int (19), .int (21), .int (23), .int (25)]]], .int (0), .tup [.int (0), .int (11)], .str "numbers"], .tup [.int (1)])
theorem m13B30_ok : chkE tb wf m13TA 16 8 m13B30 = true := by kernel_rfl
def m13B31 : Nat × List W × W := (31, [.tup [.int (2), .tup [.tup [.int (0), .int (1)], .tup [.int (0), .int (1)], .tup [.int (0), .int (1)], .tup [.int (0), .int (1)], .tup [.int (0), .int (1)], .tup [.int (0), .int (1)], .tup [.int (0), .int (1)], .tup [.int (0), .int (1)], .tup [.int (0), .int (1)], .tup [.int (0), .int (1)], .tup [.int (0), .int (1)], .tup [.int (0), .int (1)], .tup [.int (0), .int (1)]], .tup [.tup [.int (0), .int (2), .int (4), .int (6), .int (8), .int (10), .int (12), .int (14), .int (16), .int (18), .int (20), .int (22), .int (24)], .tup [.int (1), .int (3), .int (5), .int (7), .int (9), .int (11), .int (13), .int (15), .int (17), .int (19), .int (21), .int (23), .int (25)]]], .int (0), .tup [.int (0), .int (12)], .str "numbers"], .tup [.int (0)])
theorem m13B31_ok : chkE tb wf m13TA 16 8 m13B31 = true := by kernel_rfl
def m13B32 : Nat × List W × W := (37, [.tup [.int (2), .tup [.tup [.int (0), .int (1)], .tup [.int (0), .int (1)], .tup [.int (0), .int (1)], .tup [.int (0), .int (1)], .tup [.int (0), .int (1)], .tup [.int (0), .int (1)], .tup [.int (0), .int (1)], .tup [.int (0), .int (1)], .tup [.int (0), .int (1)], .tup [.int (0), .int (1)], .tup [.int (0), .int (1)], .tup [.int (0), .int (1)], .tup [.int (0), .int (1)]], .tup [.tup [.int (0), .int (2), .int (4), .int (6), .int (8), .int (10), .int (12), .int (14), .int (16), .int (18), .int (20), .int (22), .int (24)], .tup [.int (1), .int (3), .int (5), .int (7), .int (9), .int (11), .int (13), .int (15), .int (17), .int (19), .int (21), .int (23), .int (25)]]], .int (0), .tup [.int (0), .int (0)]], .tup [.int (0), .int (0)])
theorem m13B32_ok : chkE tb wf m13TA 16 8 m13B32 = true := by kernel_rfl
def m13B33 : Nat × List W × W := (37, [.tup [.int (2), .tup [.tup [.int (0), .int (1)], .tup [.int (0), .int (1)], .tup [.int (0), .int (1)], .tup [.int (0), .int (1)], .tup [.int (0), .int (1)], .tup [.int (0), .int (1)], .tup [.int (0), .int (1)], .tup [.int (0), .int (1)], .tup [.int (0), .int (1)], .tup [.int (0), .int (1)], .tup [.int (0), .int (1)], .tup [.int (0), .int (1)], .tup [.int (0), .int (1)]], .tup [.tup [.int (0), .int (2), .int (4), .int (6), .int (8), .int (10), .int (12), .int (14), .int (16), .int (18), .int (20), .int (22), .int (24)], .tup [.int (1), .int (3), .int (5), .int (7), .int (9), .int (11), .int (13), .int (15), .int (17), .int (19), .int (21), .int (23), .int (25)]]], .int (0), .tup [.int (5), .int (-5)]], .tup [.int (0), .int (8)])
theorem m13B33_ok : chkE tb wf m13TA 16 8 m13B33 = true := by kernel_rfl
def m13B34 : Nat × List W × W := (40, [.tup [.int (2), .tup [.tup [.int (0), .int (1)], .tup [.int (0), .int (1)], .tup [.int (0), .int (1)], .tup [.int (0), .int (1)], .tup [.int (0), .int (1)], .tup [.int (0), .int (1)], .tup [.int (0), .int (1)], .tup [.int (0), .int (1)], .tup [.int (0), .int (1)], .tup [.int (0), .int (1)], .tup [.int (0), .int (1)], .tup [.int (0), .int (1)], .tup [.int (0), .int (1)]], .tup [.tup [.int (0), .int (2), .int (4), .int (6), .int (8), .int (10), .int (12), .int (14), .int (16), .int (18), .int (20), .int (22), .int (24)], .tup [.int (1), .int (3), .int (5), .int (7), .int (9), .int (11), .int (13), .int (15), .int (17), .int (19), .int (21), .int (23), .int (25)]]], .int (0), .tup [.int (0), .int (12)], .tup [.int (0), .int (1)]], .tup [.int (0), .int (0)])
theorem m13B34_ok : chkE tb wf m13TA 16 8 m13B34 = true := by kernel_rfl
def m13B35 : Nat × List W × W := (6, [.tup [.int (2), .tup [.tup [.int (0), .int (1)], .tup [.int (0), .int (1)], .tup [.int (0), .int (1)], .tup [.int (0), .int (1)], .tup [.int (0), .int (1)], .tup [.int (0), .int (1)], .tup [.int (0), .int (1)], .tup [.int (0), .int (1)], .tup [.int (0), .int (1)], .tup [.int (0), .int (1)], .tup [.int (0), .int (1)], .tup [.int (0), .int (1)], .tup [.int (0), .int (1)]], .tup [.tup [.int (0), .int (2), .int (4), .int (6), .int (8), .int (10), .int (12), .int (14), .int (16), .int (18), .int (20), .int (22), .int (24)], .tup [.int (1), .int (3), .int (5), .int (7), .int (9), .int (11), .int (13), .int (15), .int (17), .int (19), .int (21), .int (23), .int (25)]]], .int (0), .tup [.int (0), .int (92)]], .int (91))
theorem m13B35_ok : chkE tb wf m13TA 16 8 m13B35 = true := by kernel_rfl
def m13TB : List (Nat × List W × W) := m13B0 :: m13B1 :: m13B2 :: m13B3 :: m13B4 :: m13B5 :: m13B6 :: m13B7 :: m13B8 :: m13B9 :: m13B10 :: m13B11 :: m13B12 :: m13B13 :: m13B14 :: m13B15 :: m13B16 :: m13B17 :: m13B18 :: m13B19 :: m13B20 :: m13B21 :: m13B22 :: m13B23 :: m13B24 :: m13B25 :: m13B26 :: m13B27 :: m13B28 :: m13B29 :: m13B30 :: m13B31 :: m13B32 :: m13B33 :: m13B34 :: m13B35 :: m13TA
theorem m13TB_ok : Val tb wf m13TB 25 := Val.put (k := 8) rfl m13TA_ok m13B0_ok (Val.put (k := 8) rfl m13TA_ok m13B1_ok (Val.put (k := 8) rfl m13TA_ok m13B2_ok (Val.put (k := 8) rfl m13TA_ok m13B3_ok (Val.put (k := 8) rfl m13TA_ok m13B4_ok (Val.put (k := 8) rfl m13TA_ok m13B5_ok (Val.put (k := 8) rfl m13TA_ok m13B6_ok (Val.put (k := 8) rfl m13TA_ok m13B7_ok (Val.put (k := 8) rfl m13TA_ok m13B8_ok (Val.put (k := 8) rfl m13TA_ok m13B9_ok (Val.put (k := 8) rfl m13TA_ok m13B10_ok (Val.put (k := 8) rfl m13TA_ok m13B11_ok (Val.put (k := 8) rfl m13TA_ok m13B12_ok (Val.put (k := 8) rfl m13TA_ok m13B13_ok (Val.put (k := 8) rfl m13TA_ok m13B14_ok (Val.put (k := 8) rfl m13TA_ok m13B15_ok (Val.put (k := 8) rfl m13TA_ok m13B16_ok (Val.put (k := 8) rfl m13TA_ok m13B17_ok (Val.put (k := 8) rfl m13TA_ok m13B18_ok (Val.put (k := 8) rfl m13TA_ok m13B19_ok (Val.put (k := 8) rfl m13TA_ok m13B20_ok (Val.put (k := 8) rfl m13TA_ok m13B21_ok (Val.put (k := 8) rfl m13TA_ok m13B22_ok (Val.put (k := 8) rfl m13TA_ok m13B23_ok (Val.put (k := 8) rfl m13TA_ok m13B24_ok (Val.put (k := 8) rfl m13TA_ok m13B25_ok (Val.put (k := 8) rfl m13TA_ok m13B26_ok (Val.put (k := 8) rfl m13TA_ok m13B27_ok (Val.put (k := 8) rfl m13TA_ok m13B28_ok (Val.put (k := 8) rfl m13TA_ok m13B29_ok (Val.put (k := 8) rfl m13TA_ok m13B30_ok (Val.put (k := 8) rfl m13TA_ok m13B31_ok (Val.put (k := 8) rfl m13TA_ok m13B32_ok (Val.put (k := 8) rfl m13TA_ok m13B33_ok (Val.put (k := 8) rfl m13TA_ok m13B34_ok (Val.put (k := 8) rfl m13TA_ok m13B35_ok (m13TA_ok.add 9))))))))))))))))))))))))))))))))))))
theorem m13O : isT1 (runF (callO tb wf m13TB 25 4) wf f__law_many_right [.int 13] Hw.nil) = true := by kernel_rfl
theorem m13 : isT1 (mr 13) = true := by
  obtain ⟨g, e⟩ := isT1_ok m13O
  rw [show mr 13 = _ from (leF (callO_le m13TB_ok 4) wf f__law_many_right [.int 13] Hw.nil).ok e]
  rfl
def m14A0 : Nat × List W × W := (1, [.tup [.int (2), .tup [.tup [.int (0), .int (1)], .tup [.int (0), .int (1)], .tup [.int (0), .int (1)], .tup [.int (0), .int (1)], .tup [.int (0), .int (1)], .tup [.int (0), .int (1)], .tup [.int (0), .int (1)], .tup [.int (0), .int (1)], .tup [.int (0), .int (1)], .tup [.int (0), .int (1)], .tup [.int (0), .int (1)], .tup [.int (0), .int (1)], .tup [.int (0), .int (1)], .tup [.int (0), .int (1)]], .tup [.tup [.int (0), .int (2), .int (4), .int (6), .int (8), .int (10), .int (12), .int (14), .int (16), .int (18), .int (20), .int (22), .int (24), .int (26)], .tup [.int (1), .int (3), .int (5), .int (7), .int (9), .int (11), .int (13), .int (15), .int (17), .int (19), .int (21), .int (23), .int (25), .int (27)]]]], .tup [.int (14), .int (14)])
theorem m14A0_ok : chkE tb wf [] 15 0 m14A0 = true := by kernel_rfl
def m14A1 : Nat × List W × W := (22, [.tup [.int (2), .tup [.tup [.int (0), .int (1)], .tup [.int (0), .int (1)], .tup [.int (0), .int (1)], .tup [.int (0), .int (1)], .tup [.int (0), .int (1)], .tup [.int (0), .int (1)], .tup [.int (0), .int (1)], .tup [.int (0), .int (1)], .tup [.int (0), .int (1)], .tup [.int (0), .int (1)], .tup [.int (0), .int (1)], .tup [.int (0), .int (1)], .tup [.int (0), .int (1)], .tup [.int (0), .int (1)]], .tup [.tup [.int (0), .int (2), .int (4), .int (6), .int (8), .int (10), .int (12), .int (14), .int (16), .int (18), .int (20), .int (22), .int (24), .int (26)], .tup [.int (1), .int (3), .int (5), .int (7), .int (9), .int (11), .int (13), .int (15), .int (17), .int (19), .int (21), .int (23), .int (25), .int (27)]]], .tup [.int (0)]], .bl true)
theorem m14A1_ok : chkE tb wf [] 15 0 m14A1 = true := by kernel_rfl
def m14A2 : Nat × List W × W := (22, [.tup [.int (2), .tup [.tup [.int (0), .int (1)], .tup [.int (0), .int (1)], .tup [.int (0), .int (1)], .tup [.int (0), .int (1)], .tup [.int (0), .int (1)], .tup [.int (0), .int (1)], .tup [.int (0), .int (1)], .tup [.int (0), .int (1)], .tup [.int (0), .int (1)], .tup [.int (0), .int (1)], .tup [.int (0), .int (1)], .tup [.int (0), .int (1)], .tup [.int (0), .int (1)], .tup [.int (0), .int (1)]], .tup [.tup [.int (0), .int (2), .int (4), .int (6), .int (8), .int (10), .int (12), .int (14), .int (16), .int (18), .int (20), .int (22), .int (24), .int (26)], .tup [.int (1), .int (3), .int (5), .int (7), .int (9), .int (11), .int (13), .int (15), .int (17), .int (19), .int (21), .int (23), .int (25), .int (27)]]], .tup [.int (1)]], .bl true)
theorem m14A2_ok : chkE tb wf [] 15 0 m14A2 = true := by kernel_rfl
def m14A3 : Nat × List W × W := (22, [.tup [.int (2), .tup [.tup [.int (0), .int (1)], .tup [.int (0), .int (1)], .tup [.int (0), .int (1)], .tup [.int (0), .int (1)], .tup [.int (0), .int (1)], .tup [.int (0), .int (1)], .tup [.int (0), .int (1)], .tup [.int (0), .int (1)], .tup [.int (0), .int (1)], .tup [.int (0), .int (1)], .tup [.int (0), .int (1)], .tup [.int (0), .int (1)], .tup [.int (0), .int (1)], .tup [.int (0), .int (1)]], .tup [.tup [.int (0), .int (2), .int (4), .int (6), .int (8), .int (10), .int (12), .int (14), .int (16), .int (18), .int (20), .int (22), .int (24), .int (26)], .tup [.int (1), .int (3), .int (5), .int (7), .int (9), .int (11), .int (13), .int (15), .int (17), .int (19), .int (21), .int (23), .int (25), .int (27)]]], .tup [.int (2)]], .bl true)
theorem m14A3_ok : chkE tb wf [] 15 0 m14A3 = true := by kernel_rfl
def m14A4 : Nat × List W × W := (22, [.tup [.int (2), .tup [.tup [.int (0), .int (1)], .tup [.int (0), .int (1)], .tup [.int (0), .int (1)], .tup [.int (0), .int (1)], .tup [.int (0), .int (1)], .tup [.int (0), .int (1)], .tup [.int (0), .int (1)], .tup [.int (0), .int (1)], .tup [.int (0), .int (1)], .tup [.int (0), .int (1)], .tup [.int (0), .int (1)], .tup [.int (0), .int (1)], .tup [.int (0), .int (1)], .tup [.int (0), .int (1)]], .tup [.tup [.int (0), .int (2), .int (4), .int (6), .int (8), .int (10), .int (12), .int (14), .int (16), .int (18), .int (20), .int (22), .int (24), .int (26)], .tup [.int (1), .int (3), .int (5), .int (7), .int (9), .int (11), .int (13), .int (15), .int (17), .int (19), .int (21), .int (23), .int (25), .int (27)]]], .tup [.int (3)]], .bl true)
theorem m14A4_ok : chkE tb wf [] 15 0 m14A4 = true := by kernel_rfl
def m14A5 : Nat × List W × W := (22, [.tup [.int (2), .tup [.tup [.int (0), .int (1)], .tup [.int (0), .int (1)], .tup [.int (0), .int (1)], .tup [.int (0), .int (1)], .tup [.int (0), .int (1)], .tup [.int (0), .int (1)], .tup [.int (0), .int (1)], .tup [.int (0), .int (1)], .tup [.int (0), .int (1)], .tup [.int (0), .int (1)], .tup [.int (0), .int (1)], .tup [.int (0), .int (1)], .tup [.int (0), .int (1)], .tup [.int (0), .int (1)]], .tup [.tup [.int (0), .int (2), .int (4), .int (6), .int (8), .int (10), .int (12), .int (14), .int (16), .int (18), .int (20), .int (22), .int (24), .int (26)], .tup [.int (1), .int (3), .int (5), .int (7), .int (9), .int (11), .int (13), .int (15), .int (17), .int (19), .int (21), .int (23), .int (25), .int (27)]]], .tup [.int (4)]], .bl true)
theorem m14A5_ok : chkE tb wf [] 15 0 m14A5 = true := by kernel_rfl
def m14A6 : Nat × List W × W := (22, [.tup [.int (2), .tup [.tup [.int (0), .int (1)], .tup [.int (0), .int (1)], .tup [.int (0), .int (1)], .tup [.int (0), .int (1)], .tup [.int (0), .int (1)], .tup [.int (0), .int (1)], .tup [.int (0), .int (1)], .tup [.int (0), .int (1)], .tup [.int (0), .int (1)], .tup [.int (0), .int (1)], .tup [.int (0), .int (1)], .tup [.int (0), .int (1)], .tup [.int (0), .int (1)], .tup [.int (0), .int (1)]], .tup [.tup [.int (0), .int (2), .int (4), .int (6), .int (8), .int (10), .int (12), .int (14), .int (16), .int (18), .int (20), .int (22), .int (24), .int (26)], .tup [.int (1), .int (3), .int (5), .int (7), .int (9), .int (11), .int (13), .int (15), .int (17), .int (19), .int (21), .int (23), .int (25), .int (27)]]], .tup [.int (5)]], .bl true)
theorem m14A6_ok : chkE tb wf [] 15 0 m14A6 = true := by kernel_rfl
def m14A7 : Nat × List W × W := (22, [.tup [.int (2), .tup [.tup [.int (0), .int (1)], .tup [.int (0), .int (1)], .tup [.int (0), .int (1)], .tup [.int (0), .int (1)], .tup [.int (0), .int (1)], .tup [.int (0), .int (1)], .tup [.int (0), .int (1)], .tup [.int (0), .int (1)], .tup [.int (0), .int (1)], .tup [.int (0), .int (1)], .tup [.int (0), .int (1)], .tup [.int (0), .int (1)], .tup [.int (0), .int (1)], .tup [.int (0), .int (1)]], .tup [.tup [.int (0), .int (2), .int (4), .int (6), .int (8), .int (10), .int (12), .int (14), .int (16), .int (18), .int (20), .int (22), .int (24), .int (26)], .tup [.int (1), .int (3), .int (5), .int (7), .int (9), .int (11), .int (13), .int (15), .int (17), .int (19), .int (21), .int (23), .int (25), .int (27)]]], .tup [.int (6)]], .bl true)
theorem m14A7_ok : chkE tb wf [] 15 0 m14A7 = true := by kernel_rfl
def m14A8 : Nat × List W × W := (22, [.tup [.int (2), .tup [.tup [.int (0), .int (1)], .tup [.int (0), .int (1)], .tup [.int (0), .int (1)], .tup [.int (0), .int (1)], .tup [.int (0), .int (1)], .tup [.int (0), .int (1)], .tup [.int (0), .int (1)], .tup [.int (0), .int (1)], .tup [.int (0), .int (1)], .tup [.int (0), .int (1)], .tup [.int (0), .int (1)], .tup [.int (0), .int (1)], .tup [.int (0), .int (1)], .tup [.int (0), .int (1)]], .tup [.tup [.int (0), .int (2), .int (4), .int (6), .int (8), .int (10), .int (12), .int (14), .int (16), .int (18), .int (20), .int (22), .int (24), .int (26)], .tup [.int (1), .int (3), .int (5), .int (7), .int (9), .int (11), .int (13), .int (15), .int (17), .int (19), .int (21), .int (23), .int (25), .int (27)]]], .tup [.int (7)]], .bl true)
theorem m14A8_ok : chkE tb wf [] 15 0 m14A8 = true := by kernel_rfl
def m14A9 : Nat × List W × W := (22, [.tup [.int (2), .tup [.tup [.int (0), .int (1)], .tup [.int (0), .int (1)], .tup [.int (0), .int (1)], .tup [.int (0), .int (1)], .tup [.int (0), .int (1)], .tup [.int (0), .int (1)], .tup [.int (0), .int (1)], .tup [.int (0), .int (1)], .tup [.int (0), .int (1)], .tup [.int (0), .int (1)], .tup [.int (0), .int (1)], .tup [.int (0), .int (1)], .tup [.int (0), .int (1)], .tup [.int (0), .int (1)]], .tup [.tup [.int (0), .int (2), .int (4), .int (6), .int (8), .int (10), .int (12), .int (14), .int (16), .int (18), .int (20), .int (22), .int (24), .int (26)], .tup [.int (1), .int (3), .int (5), .int (7), .int (9), .int (11), .int (13), .int (15), .int (17), .int (19), .int (21), .int (23), .int (25), .int (27)]]], .tup [.int (8)]], .bl true)
theorem m14A9_ok : chkE tb wf [] 15 0 m14A9 = true := by kernel_rfl
def m14A10 : Nat × List W × W := (22, [.tup [.int (2), .tup [.tup [.int (0), .int (1)], .tup [.int (0), .int (1)], .tup [.int (0), .int (1)], .tup [.int (0), .int (1)], .tup [.int (0), .int (1)], .tup [.int (0), .int (1)], .tup [.int (0), .int (1)], .tup [.int (0), .int (1)], .tup [.int (0), .int (1)], .tup [.int (0), .int (1)], .tup [.int (0), .int (1)], .tup [.int (0), .int (1)], .tup [.int (0), .int (1)], .tup [.int (0), .int (1)]], .tup [.tup [.int (0), .int (2), .int (4), .int (6), .int (8), .int (10), .int (12), .int (14), .int (16), .int (18), .int (20), .int (22), .int (24), .int (26)], .tup [.int (1), .int (3), .int (5), .int (7), .int (9), .int (11), .int (13), .int (15), .int (17), .int (19), .int (21), .int (23), .int (25), .int (27)]]], .tup [.int (9)]], .bl true)
theorem m14A10_ok : chkE tb wf [] 15 0 m14A10 = true := by kernel_rfl
def m14A11 : Nat × List W × W := (22, [.tup [.int (2), .tup [.tup [.int (0), .int (1)], .tup [.int (0), .int (1)], .tup [.int (0), .int (1)], .tup [.int (0), .int (1)], .tup [.int (0), .int (1)], .tup [.int (0), .int (1)], .tup [.int (0), .int (1)], .tup [.int (0), .int (1)], .tup [.int (0), .int (1)], .tup [.int (0), .int (1)], .tup [.int (0), .int (1)], .tup [.int (0), .int (1)], .tup [.int (0), .int (1)], .tup [.int (0), .int (1)]], .tup [.tup [.int (0), .int (2), .int (4), .int (6), .int (8), .int (10), .int (12), .int (14), .int (16), .int (18), .int (20), .int (22), .int (24), .int (26)], .tup [.int (1), .int (3), .int (5), .int (7), .int (9), .int (11), .int (13), .int (15), .int (17), .int (19), .int (21), .int (23), .int (25), .int (27)]]], .tup [.int (10)]], .bl true)
theorem m14A11_ok : chkE tb wf [] 15 0 m14A11 = true := by kernel_rfl
def m14A12 : Nat × List W × W := (22, [.tup [.int (2), .tup [.tup [.int (0), .int (1)], .tup [.int (0), .int (1)], .tup [.int (0), .int (1)], .tup [.int (0), .int (1)], .tup [.int (0), .int (1)], .tup [.int (0), .int (1)], .tup [.int (0), .int (1)], .tup [.int (0), .int (1)], .tup [.int (0), .int (1)], .tup [.int (0), .int (1)], .tup [.int (0), .int (1)], .tup [.int (0), .int (1)], .tup [.int (0), .int (1)], .tup [.int (0), .int (1)]], .tup [.tup [.int (0), .int (2), .int (4), .int (6), .int (8), .int (10), .int (12), .int (14), .int (16), .int (18), .int (20), .int (22), .int (24), .int (26)], .tup [.int (1), .int (3), .int (5), .int (7), .int (9), .int (11), .int (13), .int (15), .int (17), .int (19), .int (21), .int (23), .int (25), .int (27)]]], .tup [.int (11)]], .bl true)
theorem m14A12_ok : chkE tb wf [] 15 0 m14A12 = true := by kernel_rfl
def m14A13 : Nat × List W × W := (22, [.tup [.int (2), .tup [.tup [.int (0), .int (1)], .tup [.int (0), .int (1)], .tup [.int (0), .int (1)], .tup [.int (0), .int (1)], .tup [.int (0), .int (1)], .tup [.int (0), .int (1)], .tup [.int (0), .int (1)], .tup [.int (0), .int (1)], .tup [.int (0), .int (1)], .tup [.int (0), .int (1)], .tup [.int (0), .int (1)], .tup [.int (0), .int (1)], .tup [.int (0), .int (1)], .tup [.int (0), .int (1)]], .tup [.tup [.int (0), .int (2), .int (4), .int (6), .int (8), .int (10), .int (12), .int (14), .int (16), .int (18), .int (20), .int (22), .int (24), .int (26)], .tup [.int (1), .int (3), .int (5), .int (7), .int (9), .int (11), .int (13), .int (15), .int (17), .int (19), .int (21), .int (23), .int (25), .int (27)]]], .tup [.int (12)]], .bl true)
theorem m14A13_ok : chkE tb wf [] 15 0 m14A13 = true := by kernel_rfl
def m14A14 : Nat × List W × W := (22, [.tup [.int (2), .tup [.tup [.int (0), .int (1)], .tup [.int (0), .int (1)], .tup [.int (0), .int (1)], .tup [.int (0), .int (1)], .tup [.int (0), .int (1)], .tup [.int (0), .int (1)], .tup [.int (0), .int (1)], .tup [.int (0), .int (1)], .tup [.int (0), .int (1)], .tup [.int (0), .int (1)], .tup [.int (0), .int (1)], .tup [.int (0), .int (1)], .tup [.int (0), .int (1)], .tup [.int (0), .int (1)]], .tup [.tup [.int (0), .int (2), .int (4), .int (6), .int (8), .int (10), .int (12), .int (14), .int (16), .int (18), .int (20), .int (22), .int (24), .int (26)], .tup [.int (1), .int (3), .int (5), .int (7), .int (9), .int (11), .int (13), .int (15), .int (17), .int (19), .int (21), .int (23), .int (25), .int (27)]]], .tup [.int (13)]], .bl true)
theorem m14A14_ok : chkE tb wf [] 15 0 m14A14 = true := by kernel_rfl
def m14A15 : Nat × List W × W := (3, [.tup [.int (2), .tup [.tup [.int (0), .int (1)], .tup [.int (0), .int (1)], .tup [.int (0), .int (1)], .tup [.int (0), .int (1)], .tup [.int (0), .int (1)], .tup [.int (0), .int (1)], .tup [.int (0), .int (1)], .tup [.int (0), .int (1)], .tup [.int (0), .int (1)], .tup [.int (0), .int (1)], .tup [.int (0), .int (1)], .tup [.int (0), .int (1)], .tup [.int (0), .int (1)], .tup [.int (0), .int (1)]], .tup [.tup [.int (0), .int (2), .int (4), .int (6), .int (8), .int (10), .int (12), .int (14), .int (16), .int (18), .int (20), .int (22), .int (24), .int (26)], .tup [.int (1), .int (3), .int (5), .int (7), .int (9), .int (11), .int (13), .int (15), .int (17), .int (19), .int (21), .int (23), .int (25), .int (27)]]], .int (0), .tup [.int (0), .int (28)]], .tup [.tup [.int (0), .int (0)], .tup [.int (0), .int (2)]])
theorem m14A15_ok : chkE tb wf [] 15 0 m14A15 = true := by kernel_rfl
def m14A16 : Nat × List W × W := (3, [.tup [.int (2), .tup [.tup [.int (0), .int (1)], .tup [.int (0), .int (1)], .tup [.int (0), .int (1)], .tup [.int (0), .int (1)], .tup [.int (0), .int (1)], .tup [.int (0), .int (1)], .tup [.int (0), .int (1)], .tup [.int (0), .int (1)], .tup [.int (0), .int (1)], .tup [.int (0), .int (1)], .tup [.int (0), .int (1)], .tup [.int (0), .int (1)], .tup [.int (0), .int (1)], .tup [.int (0), .int (1)]], .tup [.tup [.int (0), .int (2), .int (4), .int (6), .int (8), .int (10), .int (12), .int (14), .int (16), .int (18), .int (20), .int (22), .int (24), .int (26)], .tup [.int (1), .int (3), .int (5), .int (7), .int (9), .int (11), .int (13), .int (15), .int (17), .int (19), .int (21), .int (23), .int (25), .int (27)]]], .int (0), .tup [.int (0), .int (99)]], .tup [.tup [.int (0), .int (1)], .tup [.int (0), .int (7)]])
theorem m14A16_ok : chkE tb wf [] 15 0 m14A16 = true := by kernel_rfl
def m14A17 : Nat × List W × W := (3, [.tup [.int (2), .tup [.tup [.int (0), .int (1)], .tup [.int (0), .int (1)], .tup [.int (0), .int (1)], .tup [.int (0), .int (1)], .tup [.int (0), .int (1)], .tup [.int (0), .int (1)], .tup [.int (0), .int (1)], .tup [.int (0), .int (1)], .tup [.int (0), .int (1)], .tup [.int (0), .int (1)], .tup [.int (0), .int (1)], .tup [.int (0), .int (1)], .tup [.int (0), .int (1)], .tup [.int (0), .int (1)]], .tup [.tup [.int (0), .int (2), .int (4), .int (6), .int (8), .int (10), .int (12), .int (14), .int (16), .int (18), .int (20), .int (22), .int (24), .int (26)], .tup [.int (1), .int (3), .int (5), .int (7), .int (9), .int (11), .int (13), .int (15), .int (17), .int (19), .int (21), .int (23), .int (25), .int (27)]]], .int (0), .tup [.int (0), .int (14)]], .tup [.tup [.int (0), .int (0)], .tup [.int (0), .int (1)]])
theorem m14A17_ok : chkE tb wf [] 15 0 m14A17 = true := by kernel_rfl
def m14A18 : Nat × List W × W := (3, [.tup [.int (2), .tup [.tup [.int (0), .int (1)], .tup [.int (0), .int (1)], .tup [.int (0), .int (1)], .tup [.int (0), .int (1)], .tup [.int (0), .int (1)], .tup [.int (0), .int (1)], .tup [.int (0), .int (1)], .tup [.int (0), .int (1)], .tup [.int (0), .int (1)], .tup [.int (0), .int (1)], .tup [.int (0), .int (1)], .tup [.int (0), .int (1)], .tup [.int (0), .int (1)], .tup [.int (0), .int (1)]], .tup [.tup [.int (0), .int (2), .int (4), .int (6), .int (8), .int (10), .int (12), .int (14), .int (16), .int (18), .int (20), .int (22), .int (24), .int (26)], .tup [.int (1), .int (3), .int (5), .int (7), .int (9), .int (11), .int (13), .int (15), .int (17), .int (19), .int (21), .int (23), .int (25), .int (27)]]], .int (0), .tup [.int (0), .int (23)]], .tup [.tup [.int (0), .int (9)], .tup [.int (0), .int (1)]])
theorem m14A18_ok : chkE tb wf [] 15 0 m14A18 = true := by kernel_rfl
def m14A19 : Nat × List W × W := (35, [.tup [.int (2), .tup [.tup [.int (0), .int (1)], .tup [.int (0), .int (1)], .tup [.int (0), .int (1)], .tup [.int (0), .int (1)], .tup [.int (0), .int (1)], .tup [.int (0), .int (1)], .tup [.int (0), .int (1)], .tup [.int (0), .int (1)], .tup [.int (0), .int (1)], .tup [.int (0), .int (1)], .tup [.int (0), .int (1)], .tup [.int (0), .int (1)], .tup [.int (0), .int (1)], .tup [.int (0), .int (1)]], .tup [.tup [.int (0), .int (2), .int (4), .int (6), .int (8), .int (10), .int (12), .int (14), .int (16), .int (18), .int (20), .int (22), .int (24), .int (26)], .tup [.int (1), .int (3), .int (5), .int (7), .int (9), .int (11), .int (13), .int (15), .int (17), .int (19), .int (21), .int (23), .int (25), .int (27)]]], .tup [.int (0)]], .tup [.int (1), .int (2), .int (3), .int (4), .int (5), .int (6), .int (7), .int (8), .int (9), .int (10), .int (11), .int (12), .int (13)])
theorem m14A19_ok : chkE tb wf [] 15 0 m14A19 = true := by kernel_rfl
def m14A20 : Nat × List W × W := (35, [.tup [.int (2), .tup [.tup [.int (0), .int (1)], .tup [.int (0), .int (1)], .tup [.int (0), .int (1)], .tup [.int (0), .int (1)], .tup [.int (0), .int (1)], .tup [.int (0), .int (1)], .tup [.int (0), .int (1)], .tup [.int (0), .int (1)], .tup [.int (0), .int (1)], .tup [.int (0), .int (1)], .tup [.int (0), .int (1)], .tup [.int (0), .int (1)], .tup [.int (0), .int (1)], .tup [.int (0), .int (1)]], .tup [.tup [.int (0), .int (2), .int (4), .int (6), .int (8), .int (10), .int (12), .int (14), .int (16), .int (18), .int (20), .int (22), .int (24), .int (26)], .tup [.int (1), .int (3), .int (5), .int (7), .int (9), .int (11), .int (13), .int (15), .int (17), .int (19), .int (21), .int (23), .int (25), .int (27)]]], .tup [.int (1)]], .tup [.int (2), .int (3), .int (4), .int (5), .int (6), .int (7), .int (8), .int (9), .int (10), .int (11), .int (12), .int (13)])
theorem m14A20_ok : chkE tb wf [] 15 0 m14A20 = true := by kernel_rfl
def m14A21 : Nat × List W × W := (35, [.tup [.int (2), .tup [.tup [.int (0), .int (1)], .tup [.int (0), .int (1)], .tup [.int (0), .int (1)], .tup [.int (0), .int (1)], .tup [.int (0), .int (1)], .tup [.int (0), .int (1)], .tup [.int (0), .int (1)], .tup [.int (0), .int (1)], .tup [.int (0), .int (1)], .tup [.int (0), .int (1)], .tup [.int (0), .int (1)], .tup [.int (0), .int (1)], .tup [.int (0), .int (1)], .tup [.int (0), .int (1)]], .tup [.tup [.int (0), .int (2), .int (4), .int (6), .int (8), .int (10), .int (12), .int (14), .int (16), .int (18), .int (20), .int (22), .int (24), .int (26)], .tup [.int (1), .int (3), .int (5), .int (7), .int (9), .int (11), .int (13), .int (15), .int (17), .int (19), .int (21), .int (23), .int (25), .int (27)]]], .tup [.int (2)]], .tup [.int (3), .int (4), .int (5), .int (6), .int (7), .int (8), .int (9), .int (10), .int (11), .int (12), .int (13)])
theorem m14A21_ok : chkE tb wf [] 15 0 m14A21 = true := by kernel_rfl
def m14A22 : Nat × List W × W := (35, [.tup [.int (2), .tup [.tup [.int (0), .int (1)], .tup [.int (0), .int (1)], .tup [.int (0), .int (1)], .tup [.int (0), .int (1)], .tup [.int (0), .int (1)], .tup [.int (0), .int (1)], .tup [.int (0), .int (1)], .tup [.int (0), .int (1)], .tup [.int (0), .int (1)], .tup [.int (0), .int (1)], .tup [.int (0), .int (1)], .tup [.int (0), .int (1)], .tup [.int (0), .int (1)], .tup [.int (0), .int (1)]], .tup [.tup [.int (0), .int (2), .int (4), .int (6), .int (8), .int (10), .int (12), .int (14), .int (16), .int (18), .int (20), .int (22), .int (24), .int (26)], .tup [.int (1), .int (3), .int (5), .int (7), .int (9), .int (11), .int (13), .int (15), .int (17), .int (19), .int (21), .int (23), .int (25), .int (27)]]], .tup [.int (3)]], .tup [.int (4), .int (5), .int (6), .int (7), .int (8), .int (9), .int (10), .int (11), .int (12), .int (13)])
theorem m14A22_ok : chkE tb wf [] 15 0 m14A22 = true := by kernel_rfl
def m14A23 : Nat × List W × W := (35, [.tup [.int (2), .tup [.tup [.int (0), .int (1)], .tup [.int (0), .int (1)], .tup [.int (0), .int (1)], .tup [.int (0), .int (1)], .tup [.int (0), .int (1)], .tup [.int (0), .int (1)], .tup [.int (0), .int (1)], .tup [.int (0), .int (1)], .tup [.int (0), .int (1)], .tup [.int (0), .int (1)], .tup [.int (0), .int (1)], .tup [.int (0), .int (1)], .tup [.int (0), .int (1)], .tup [.int (0), .int (1)]], .tup [.tup [.int (0), .int (2), .int (4), .int (6), .int (8), .int (10), .int (12), .int (14), .int (16), .int (18), .int (20), .int (22), .int (24), .int (26)], .tup [.int (1), .int (3), .int (5), .int (7), .int (9), .int (11), .int (13), .int (15), .int (17), .int (19), .int (21), .int (23), .int (25), .int (27)]]], .tup [.int (4)]], .tup [.int (5), .int (6), .int (7), .int (8), .int (9), .int (10), .int (11), .int (12), .int (13)])
theorem m14A23_ok : chkE tb wf [] 15 0 m14A23 = true := by kernel_rfl
def m14A24 : Nat × List W × W := (35, [.tup [.int (2), .tup [.tup [.int (0), .int (1)], .tup [.int (0), .int (1)], .tup [.int (0), .int (1)], .tup [.int (0), .int (1)], .tup [.int (0), .int (1)], .tup [.int (0), .int (1)], .tup [.int (0), .int (1)], .tup [.int (0), .int (1)], .tup [.int (0), .int (1)], .tup [.int (0), .int (1)], .tup [.int (0), .int (1)], .tup [.int (0), .int (1)], .tup [.int (0), .int (1)], .tup [.int (0), .int (1)]], .tup [.tup [.int (0), .int (2), .int (4), .int (6), .int (8), .int (10), .int (12), .int (14), .int (16), .int (18), .int (20), .int (22), .int (24), .int (26)], .tup [.int (1), .int (3), .int (5), .int (7), .int (9), .int (11), .int (13), .int (15), .int (17), .int (19), .int (21), .int (23), .int (25), .int (27)]]], .tup [.int (5)]], .tup [.int (6), .int (7), .int (8), .int (9), .int (10), .int (11), .int (12), .int (13)])
theorem m14A24_ok : chkE tb wf [] 15 0 m14A24 = true := by kernel_rfl
def m14A25 : Nat × List W × W := (35, [.tup [.int (2), .tup [.tup [.int (0), .int (1)], .tup [.int (0), .int (1)], .tup [.int (0), .int (1)], .tup [.int (0), .int (1)], .tup [.int (0), .int (1)], .tup [.int (0), .int (1)], .tup [.int (0), .int (1)], .tup [.int (0), .int (1)], .tup [.int (0), .int (1)], .tup [.int (0), .int (1)], .tup [.int (0), .int (1)], .tup [.int (0), .int (1)], .tup [.int (0), .int (1)], .tup [.int (0), .int (1)]], .tup [.tup [.int (0), .int (2), .int (4), .int (6), .int (8), .int (10), .int (12), .int (14), .int (16), .int (18), .int (20), .int (22), .int (24), .int (26)], .tup [.int (1), .int (3), .int (5), .int (7), .int (9), .int (11), .int (13), .int (15), .int (17), .int (19), .int (21), .int (23), .int (25), .int (27)]]], .tup [.int (6)]], .tup [.int (7), .int (8), .int (9), .int (10), .int (11), .int (12), .int (13)])
theorem m14A25_ok : chkE tb wf [] 15 0 m14A25 = true := by kernel_rfl
def m14A26 : Nat × List W × W := (35, [.tup [.int (2), .tup [.tup [.int (0), .int (1)], .tup [.int (0), .int (1)], .tup [.int (0), .int (1)], .tup [.int (0), .int (1)], .tup [.int (0), .int (1)], .tup [.int (0), .int (1)], .tup [.int (0), .int (1)], .tup [.int (0), .int (1)], .tup [.int (0), .int (1)], .tup [.int (0), .int (1)], .tup [.int (0), .int (1)], .tup [.int (0), .int (1)], .tup [.int (0), .int (1)], .tup [.int (0), .int (1)]], .tup [.tup [.int (0), .int (2), .int (4), .int (6), .int (8), .int (10), .int (12), .int (14), .int (16), .int (18), .int (20), .int (22), .int (24), .int (26)], .tup [.int (1), .int (3), .int (5), .int (7), .int (9), .int (11), .int (13), .int (15), .int (17), .int (19), .int (21), .int (23), .int (25), .int (27)]]], .tup [.int (7)]], .tup [.int (8), .int (9), .int (10), .int (11), .int (12), .int (13)])
theorem m14A26_ok : chkE tb wf [] 15 0 m14A26 = true := by kernel_rfl
def m14A27 : Nat × List W × W := (35, [.tup [.int (2), .tup [.tup [.int (0), .int (1)], .tup [.int (0), .int (1)], .tup [.int (0), .int (1)], .tup [.int (0), .int (1)], .tup [.int (0), .int (1)], .tup [.int (0), .int (1)], .tup [.int (0), .int (1)], .tup [.int (0), .int (1)], .tup [.int (0), .int (1)], .tup [.int (0), .int (1)], .tup [.int (0), .int (1)], .tup [.int (0), .int (1)], .tup [.int (0), .int (1)], .tup [.int (0), .int (1)]], .tup [.tup [.int (0), .int (2), .int (4), .int (6), .int (8), .int (10), .int (12), .int (14), .int (16), .int (18), .int (20), .int (22), .int (24), .int (26)], .tup [.int (1), .int (3), .int (5), .int (7), .int (9), .int (11), .int (13), .int (15), .int (17), .int (19), .int (21), .int (23), .int (25), .int (27)]]], .tup [.int (8)]], .tup [.int (9), .int (10), .int (11), .int (12), .int (13)])
theorem m14A27_ok : chkE tb wf [] 15 0 m14A27 = true := by kernel_rfl
def m14A28 : Nat × List W × W := (35, [.tup [.int (2), .tup [.tup [.int (0), .int (1)], .tup [.int (0), .int (1)], .tup [.int (0), .int (1)], .tup [.int (0), .int (1)], .tup [.int (0), .int (1)], .tup [.int (0), .int (1)], .tup [.int (0), .int (1)], .tup [.int (0), .int (1)], .tup [.int (0), .int (1)], .tup [.int (0), .int (1)], .tup [.int (0), .int (1)], .tup [.int (0), .int (1)], .tup [.int (0), .int (1)], .tup [.int (0), .int (1)]], .tup [.tup [.int (0), .int (2), .int (4), .int (6), .int (8), .int (10), .int (12), .int (14), .int (16), .int (18), .int (20), .int (22), .int (24), .int (26)], .tup [.int (1), .int (3), .int (5), .int (7), .int (9), .int (11), .int (13), .int (15), .int (17), .int (19), .int (21), .int (23), .int (25), .int (27)]]], .tup [.int (9)]], .tup [.int (10), .int (11), .int (12), .int (13)])
theorem m14A28_ok : chkE tb wf [] 15 0 m14A28 = true := by kernel_rfl
def m14A29 : Nat × List W × W := (35, [.tup [.int (2), .tup [.tup [.int (0), .int (1)], .tup [.int (0), .int (1)], .tup [.int (0), .int (1)], .tup [.int (0), .int (1)], .tup [.int (0), .int (1)], .tup [.int (0), .int (1)], .tup [.int (0), .int (1)], .tup [.int (0), .int (1)], .tup [.int (0), .int (1)], .tup [.int (0), .int (1)], .tup [.int (0), .int (1)], .tup [.int (0), .int (1)], .tup [.int (0), .int (1)], .tup [.int (0), .int (1)]], .tup [.tup [.int (0), .int (2), .int (4), .int (6), .int (8), .int (10), .int (12), .int (14), .int (16), .int (18), .int (20), .int (22), .int (24), .int (26)], .tup [.int (1), .int (3), .int (5), .int (7), .int (9), .int (11), .int (13), .int (15), .int (17), .int (19), .int (21), .int (23), .int (25), .int (27)]]], .tup [.int (10)]], .tup [.int (11), .int (12), .int (13)])
theorem m14A29_ok : chkE tb wf [] 15 0 m14A29 = true := by kernel_rfl
def m14A30 : Nat × List W × W := (35, [.tup [.int (2), .tup [.tup [.int (0), .int (1)], .tup [.int (0), .int (1)], .tup [.int (0), .int (1)], .tup [.int (0), .int (1)], .tup [.int (0), .int (1)], .tup [.int (0), .int (1)], .tup [.int (0), .int (1)], .tup [.int (0), .int (1)], .tup [.int (0), .int (1)], .tup [.int (0), .int (1)], .tup [.int (0), .int (1)], .tup [.int (0), .int (1)], .tup [.int (0), .int (1)], .tup [.int (0), .int (1)]], .tup [.tup [.int (0), .int (2), .int (4), .int (6), .int (8), .int (10), .int (12), .int (14), .int (16), .int (18), .int (20), .int (22), .int (24), .int (26)], .tup [.int (1), .int (3), .int (5), .int (7), .int (9), .int (11), .int (13), .int (15), .int (17), .int (19), .int (21), .int (23), .int (25), .int (27)]]], .tup [.int (11)]], .tup [.int (12), .int (13)])
theorem m14A30_ok : chkE tb wf [] 15 0 m14A30 = true := by kernel_rfl
def m14A31 : Nat × List W × W := (35, [.tup [.int (2), .tup [.tup [.int (0), .int (1)], .tup [.int (0), .int (1)], .tup [.int (0), .int (1)], .tup [.int (0), .int (1)], .tup [.int (0), .int (1)], .tup [.int (0), .int (1)], .tup [.int (0), .int (1)], .tup [.int (0), .int (1)], .tup [.int (0), .int (1)], .tup [.int (0), .int (1)], .tup [.int (0), .int (1)], .tup [.int (0), .int (1)], .tup [.int (0), .int (1)], .tup [.int (0), .int (1)]], .tup [.tup [.int (0), .int (2), .int (4), .int (6), .int (8), .int (10), .int (12), .int (14), .int (16), .int (18), .int (20), .int (22), .int (24), .int (26)], .tup [.int (1), .int (3), .int (5), .int (7), .int (9), .int (11), .int (13), .int (15), .int (17), .int (19), .int (21), .int (23), .int (25), .int (27)]]], .tup [.int (12)]], .tup [.int (13)])
theorem m14A31_ok : chkE tb wf [] 15 0 m14A31 = true := by kernel_rfl
def m14A32 : Nat × List W × W := (35, [.tup [.int (2), .tup [.tup [.int (0), .int (1)], .tup [.int (0), .int (1)], .tup [.int (0), .int (1)], .tup [.int (0), .int (1)], .tup [.int (0), .int (1)], .tup [.int (0), .int (1)], .tup [.int (0), .int (1)], .tup [.int (0), .int (1)], .tup [.int (0), .int (1)], .tup [.int (0), .int (1)], .tup [.int (0), .int (1)], .tup [.int (0), .int (1)], .tup [.int (0), .int (1)], .tup [.int (0), .int (1)]], .tup [.tup [.int (0), .int (2), .int (4), .int (6), .int (8), .int (10), .int (12), .int (14), .int (16), .int (18), .int (20), .int (22), .int (24), .int (26)], .tup [.int (1), .int (3), .int (5), .int (7), .int (9), .int (11), .int (13), .int (15), .int (17), .int (19), .int (21), .int (23), .int (25), .int (27)]]], .tup [.int (13)]], .tup [])
theorem m14A32_ok : chkE tb wf [] 15 0 m14A32 = true := by kernel_rfl
def m14A33 : Nat × List W × W := (11, [.tup [.int (2), .tup [.tup [.int (0), .int (1)], .tup [.int (0), .int (1)], .tup [.int (0), .int (1)], .tup [.int (0), .int (1)], .tup [.int (0), .int (1)], .tup [.int (0), .int (1)], .tup [.int (0), .int (1)], .tup [.int (0), .int (1)], .tup [.int (0), .int (1)], .tup [.int (0), .int (1)], .tup [.int (0), .int (1)], .tup [.int (0), .int (1)], .tup [.int (0), .int (1)], .tup [.int (0), .int (1)]], .tup [.tup [.int (0), .int (2), .int (4), .int (6), .int (8), .int (10), .int (12), .int (14), .int (16), .int (18), .int (20), .int (22), .int (24), .int (26)], .tup [.int (1), .int (3), .int (5), .int (7), .int (9), .int (11), .int (13), .int (15), .int (17), .int (19), .int (21), .int (23), .int (25), .int (27)]]], .int (0), .tup [.int (0), .int (0)]], .bl true)
theorem m14A33_ok : chkE tb wf [] 15 0 m14A33 = true := by kernel_rfl
def m14A34 : Nat × List W × W := (11, [.tup [.int (2), .tup [.tup [.int (0), .int (1)], .tup [.int (0), .int (1)], .tup [.int (0), .int (1)], .tup [.int (0), .int (1)], .tup [.int (0), .int (1)], .tup [.int (0), .int (1)], .tup [.int (0), .int (1)], .tup [.int (0), .int (1)], .tup [.int (0), .int (1)], .tup [.int (0), .int (1)], .tup [.int (0), .int (1)], .tup [.int (0), .int (1)], .tup [.int (0), .int (1)], .tup [.int (0), .int (1)]], .tup [.tup [.int (0), .int (2), .int (4), .int (6), .int (8), .int (10), .int (12), .int (14), .int (16), .int (18), .int (20), .int (22), .int (24), .int (26)], .tup [.int (1), .int (3), .int (5), .int (7), .int (9), .int (11), .int (13), .int (15), .int (17), .int (19), .int (21), .int (23), .int (25), .int (27)]]], .int (0), .tup [.int (0), .int (1)]], .bl true)
theorem m14A34_ok : chkE tb wf [] 15 0 m14A34 = true := by kernel_rfl
def m14A35 : Nat × List W × W := (11, [.tup [.int (2), .tup [.tup [.int (0), .int (1)], .tup [.int (0), .int (1)], .tup [.int (0), .int (1)], .tup [.int (0), .int (1)], .tup [.int (0), .int (1)], .tup [.int (0), .int (1)], .tup [.int (0), .int (1)], .tup [.int (0), .int (1)], .tup [.int (0), .int (1)], .tup [.int (0), .int (1)], .tup [.int (0), .int (1)], .tup [.int (0), .int (1)], .tup [.int (0), .int (1)], .tup [.int (0), .int (1)]], .tup [.tup [.int (0), .int (2), .int (4), .int (6), .int (8), .int (10), .int (12), .int (14), .int (16), .int (18), .int (20), .int (22), .int (24), .int (26)], .tup [.int (1), .int (3), .int (5), .int (7), .int (9), .int (11), .int (13), .int (15), .int (17), .int (19), .int (21), .int (23), .int (25), .int (27)]]], .int (0), .tup [.int (0), .int (2)]], .bl true)
theorem m14A35_ok : chkE tb wf [] 15 0 m14A35 = true := by kernel_rfl
def m14A36 : Nat × List W × W := (11, [.tup [.int (2), .tup [.tup [.int (0), .int (1)], .tup [.int (0), .int (1)], .tup [.int (0), .int (1)], .tup [.int (0), .int (1)], .tup [.int (0), .int (1)], .tup [.int (0), .int (1)], .tup [.int (0), .int (1)], .tup [.int (0), .int (1)], .tup [.int (0), .int (1)], .tup [.int (0), .int (1)], .tup [.int (0), .int (1)], .tup [.int (0), .int (1)], .tup [.int (0), .int (1)], .tup [.int (0), .int (1)]], .tup [.tup [.int (0), .int (2), .int (4), .int (6), .int (8), .int (10), .int (12), .int (14), .int (16), .int (18), .int (20), .int (22), .int (24), .int (26)], .tup [.int (1), .int (3), .int (5), .int (7), .int (9), .int (11), .int (13), .int (15), .int (17), .int (19), .int (21), .int (23), .int (25), .int (27)]]], .int (0), .tup [.int (0), .int (3)]], .bl true)
theorem m14A36_ok : chkE tb wf [] 15 0 m14A36 = true := by kernel_rfl
def m14A37 : Nat × List W × W := (11, [.tup [.int (2), .tup [.tup [.int (0), .int (1)], .tup [.int (0), .int (1)], .tup [.int (0), .int (1)], .tup [.int (0), .int (1)], .tup [.int (0), .int (1)], .tup [.int (0), .int (1)], .tup [.int (0), .int (1)], .tup [.int (0), .int (1)], .tup [.int (0), .int (1)], .tup [.int (0), .int (1)], .tup [.int (0), .int (1)], .tup [.int (0), .int (1)], .tup [.int (0), .int (1)], .tup [.int (0), .int (1)]], .tup [.tup [.int (0), .int (2), .int (4), .int (6), .int (8), .int (10), .int (12), .int (14), .int (16), .int (18), .int (20), .int (22), .int (24), .int (26)], .tup [.int (1), .int (3), .int (5), .int (7), .int (9), .int (11), .int (13), .int (15), .int (17), .int (19), .int (21), .int (23), .int (25), .int (27)]]], .int (0), .tup [.int (0), .int (4)]], .bl true)
theorem m14A37_ok : chkE tb wf [] 15 0 m14A37 = true := by kernel_rfl
def m14A38 : Nat × List W × W := (11, [.tup [.int (2), .tup [.tup [.int (0), .int (1)], .tup [.int (0), .int (1)], .tup [.int (0), .int (1)], .tup [.int (0), .int (1)], .tup [.int (0), .int (1)], .tup [.int (0), .int (1)], .tup [.int (0), .int (1)], .tup [.int (0), .int (1)], .tup [.int (0), .int (1)], .tup [.int (0), .int (1)], .tup [.int (0), .int (1)], .tup [.int (0), .int (1)], .tup [.int (0), .int (1)], .tup [.int (0), .int (1)]], .tup [.tup [.int (0), .int (2), .int (4), .int (6), .int (8), .int (10), .int (12), .int (14), .int (16), .int (18), .int (20), .int (22), .int (24), .int (26)], .tup [.int (1), .int (3), .int (5), .int (7), .int (9), .int (11), .int (13), .int (15), .int (17), .int (19), .int (21), .int (23), .int (25), .int (27)]]], .int (0), .tup [.int (0), .int (5)]], .bl true)
theorem m14A38_ok : chkE tb wf [] 15 0 m14A38 = true := by kernel_rfl
def m14A39 : Nat × List W × W := (11, [.tup [.int (2), .tup [.tup [.int (0), .int (1)], .tup [.int (0), .int (1)], .tup [.int (0), .int (1)], .tup [.int (0), .int (1)], .tup [.int (0), .int (1)], .tup [.int (0), .int (1)], .tup [.int (0), .int (1)], .tup [.int (0), .int (1)], .tup [.int (0), .int (1)], .tup [.int (0), .int (1)], .tup [.int (0), .int (1)], .tup [.int (0), .int (1)], .tup [.int (0), .int (1)], .tup [.int (0), .int (1)]], .tup [.tup [.int (0), .int (2), .int (4), .int (6), .int (8), .int (10), .int (12), .int (14), .int (16), .int (18), .int (20), .int (22), .int (24), .int (26)], .tup [.int (1), .int (3), .int (5), .int (7), .int (9), .int (11), .int (13), .int (15), .int (17), .int (19), .int (21), .int (23), .int (25), .int (27)]]], .int (0), .tup [.int (0), .int (6)]], .bl true)
theorem m14A39_ok : chkE tb wf [] 15 0 m14A39 = true := by kernel_rfl
def m14A40 : Nat × List W × W := (11, [.tup [.int (2), .tup [.tup [.int (0), .int (1)], .tup [.int (0), .int (1)], .tup [.int (0), .int (1)], .tup [.int (0), .int (1)], .tup [.int (0), .int (1)], .tup [.int (0), .int (1)], .tup [.int (0), .int (1)], .tup [.int (0), .int (1)], .tup [.int (0), .int (1)], .tup [.int (0), .int (1)], .tup [.int (0), .int (1)], .tup [.int (0), .int (1)], .tup [.int (0), .int (1)], .tup [.int (0), .int (1)]], .tup [.tup [.int (0), .int (2), .int (4), .int (6), .int (8), .int (10), .int (12), .int (14), .int (16), .int (18), .int (20), .int (22), .int (24), .int (26)], .tup [.int (1), .int (3), .int (5), .int (7), .int (9), .int (11), .int (13), .int (15), .int (17), .int (19), .int (21), .int (23), .int (25), .int (27)]]], .int (0), .tup [.int (0), .int (7)]], .bl true)
theorem m14A40_ok : chkE tb wf [] 15 0 m14A40 = true := by kernel_rfl
def m14A41 : Nat × List W × W := (11, [.tup [.int (2), .tup [.tup [.int (0), .int (1)], .tup [.int (0), .int (1)], .tup [.int (0), .int (1)], .tup [.int (0), .int (1)], .tup [.int (0), .int (1)], .tup [.int (0), .int (1)], .tup [.int (0), .int (1)], .tup [.int (0), .int (1)], .tup [.int (0), .int (1)], .tup [.int (0), .int (1)], .tup [.int (0), .int (1)], .tup [.int (0), .int (1)], .tup [.int (0), .int (1)], .tup [.int (0), .int (1)]], .tup [.tup [.int (0), .int (2), .int (4), .int (6), .int (8), .int (10), .int (12), .int (14), .int (16), .int (18), .int (20), .int (22), .int (24), .int (26)], .tup [.int (1), .int (3), .int (5), .int (7), .int (9), .int (11), .int (13), .int (15), .int (17), .int (19), .int (21), .int (23), .int (25), .int (27)]]], .int (0), .tup [.int (0), .int (8)]], .bl true)
theorem m14A41_ok : chkE tb wf [] 15 0 m14A41 = true := by kernel_rfl
def m14A42 : Nat × List W × W := (11, [.tup [.int (2), .tup [.tup [.int (0), .int (1)], .tup [.int (0), .int (1)], .tup [.int (0), .int (1)], .tup [.int (0), .int (1)], .tup [.int (0), .int (1)], .tup [.int (0), .int (1)], .tup [.int (0), .int (1)], .tup [.int (0), .int (1)], .tup [.int (0), .int (1)], .tup [.int (0), .int (1)], .tup [.int (0), .int (1)], .tup [.int (0), .int (1)], .tup [.int (0), .int (1)], .tup [.int (0), .int (1)]], .tup [.tup [.int (0), .int (2), .int (4), .int (6), .int (8), .int (10), .int (12), .int (14), .int (16), .int (18), .int (20), .int (22), .int (24), .int (26)], .tup [.int (1), .int (3), .int (5), .int (7), .int (9), .int (11), .int (13), .int (15), .int (17), .int (19), .int (21), .int (23), .int (25), .int (27)]]], .int (0), .tup [.int (0), .int (9)]], .bl true)
theorem m14A42_ok : chkE tb wf [] 15 0 m14A42 = true := by kernel_rfl
def m14A43 : Nat × List W × W := (11, [.tup [.int (2), .tup [.tup [.int (0), .int (1)], .tup [.int (0), .int (1)], .tup [.int (0), .int (1)], .tup [.int (0), .int (1)], .tup [.int (0), .int (1)], .tup [.int (0), .int (1)], .tup [.int (0), .int (1)], .tup [.int (0), .int (1)], .tup [.int (0), .int (1)], .tup [.int (0), .int (1)], .tup [.int (0), .int (1)], .tup [.int (0), .int (1)], .tup [.int (0), .int (1)], .tup [.int (0), .int (1)]], .tup [.tup [.int (0), .int (2), .int (4), .int (6), .int (8), .int (10), .int (12), .int (14), .int (16), .int (18), .int (20), .int (22), .int (24), .int (26)], .tup [.int (1), .int (3), .int (5), .int (7), .int (9), .int (11), .int (13), .int (15), .int (17), .int (19), .int (21), .int (23), .int (25), .int (27)]]], .int (0), .tup [.int (0), .int (10)]], .bl true)
theorem m14A43_ok : chkE tb wf [] 15 0 m14A43 = true := by kernel_rfl
def m14A44 : Nat × List W × W := (11, [.tup [.int (2), .tup [.tup [.int (0), .int (1)], .tup [.int (0), .int (1)], .tup [.int (0), .int (1)], .tup [.int (0), .int (1)], .tup [.int (0), .int (1)], .tup [.int (0), .int (1)], .tup [.int (0), .int (1)], .tup [.int (0), .int (1)], .tup [.int (0), .int (1)], .tup [.int (0), .int (1)], .tup [.int (0), .int (1)], .tup [.int (0), .int (1)], .tup [.int (0), .int (1)], .tup [.int (0), .int (1)]], .tup [.tup [.int (0), .int (2), .int (4), .int (6), .int (8), .int (10), .int (12), .int (14), .int (16), .int (18), .int (20), .int (22), .int (24), .int (26)], .tup [.int (1), .int (3), .int (5), .int (7), .int (9), .int (11), .int (13), .int (15), .int (17), .int (19), .int (21), .int (23), .int (25), .int (27)]]], .int (0), .tup [.int (0), .int (11)]], .bl true)
theorem m14A44_ok : chkE tb wf [] 15 0 m14A44 = true := by kernel_rfl
def m14A45 : Nat × List W × W := (11, [.tup [.int (2), .tup [.tup [.int (0), .int (1)], .tup [.int (0), .int (1)], .tup [.int (0), .int (1)], .tup [.int (0), .int (1)], .tup [.int (0), .int (1)], .tup [.int (0), .int (1)], .tup [.int (0), .int (1)], .tup [.int (0), .int (1)], .tup [.int (0), .int (1)], .tup [.int (0), .int (1)], .tup [.int (0), .int (1)], .tup [.int (0), .int (1)], .tup [.int (0), .int (1)], .tup [.int (0), .int (1)]], .tup [.tup [.int (0), .int (2), .int (4), .int (6), .int (8), .int (10), .int (12), .int (14), .int (16), .int (18), .int (20), .int (22), .int (24), .int (26)], .tup [.int (1), .int (3), .int (5), .int (7), .int (9), .int (11), .int (13), .int (15), .int (17), .int (19), .int (21), .int (23), .int (25), .int (27)]]], .int (0), .tup [.int (0), .int (12)]], .bl true)
theorem m14A45_ok : chkE tb wf [] 15 0 m14A45 = true := by kernel_rfl
def m14A46 : Nat × List W × W := (11, [.tup [.int (2), .tup [.tup [.int (0), .int (1)], .tup [.int (0), .int (1)], .tup [.int (0), .int (1)], .tup [.int (0), .int (1)], .tup [.int (0), .int (1)], .tup [.int (0), .int (1)], .tup [.int (0), .int (1)], .tup [.int (0), .int (1)], .tup [.int (0), .int (1)], .tup [.int (0), .int (1)], .tup [.int (0), .int (1)], .tup [.int (0), .int (1)], .tup [.int (0), .int (1)], .tup [.int (0), .int (1)]], .tup [.tup [.int (0), .int (2), .int (4), .int (6), .int (8), .int (10), .int (12), .int (14), .int (16), .int (18), .int (20), .int (22), .int (24), .int (26)], .tup [.int (1), .int (3), .int (5), .int (7), .int (9), .int (11), .int (13), .int (15), .int (17), .int (19), .int (21), .int (23), .int (25), .int (27)]]], .int (0), .tup [.int (0), .int (13)]], .bl true)
theorem m14A46_ok : chkE tb wf [] 15 0 m14A46 = true := by kernel_rfl
def m14TA : List (Nat × List W × W) := [m14A0, m14A1, m14A2, m14A3, m14A4, m14A5, m14A6, m14A7, m14A8, m14A9, m14A10, m14A11, m14A12, m14A13, m14A14, m14A15, m14A16, m14A17, m14A18, m14A19, m14A20, m14A21, m14A22, m14A23, m14A24, m14A25, m14A26, m14A27, m14A28, m14A29, m14A30, m14A31, m14A32, m14A33, m14A34, m14A35, m14A36, m14A37, m14A38, m14A39, m14A40, m14A41, m14A42, m14A43, m14A44, m14A45, m14A46]
theorem m14TA_ok : Val tb wf m14TA 16 := Val.put (k := 0) rfl (Val.nil tb wf 15) m14A0_ok (Val.put (k := 0) rfl (Val.nil tb wf 15) m14A1_ok (Val.put (k := 0) rfl (Val.nil tb wf 15) m14A2_ok (Val.put (k := 0) rfl (Val.nil tb wf 15) m14A3_ok (Val.put (k := 0) rfl (Val.nil tb wf 15) m14A4_ok (Val.put (k := 0) rfl (Val.nil tb wf 15) m14A5_ok (Val.put (k := 0) rfl (Val.nil tb wf 15) m14A6_ok (Val.put (k := 0) rfl (Val.nil tb wf 15) m14A7_ok (Val.put (k := 0) rfl (Val.nil tb wf 15) m14A8_ok (Val.put (k := 0) rfl (Val.nil tb wf 15) m14A9_ok (Val.put (k := 0) rfl (Val.nil tb wf 15) m14A10_ok (Val.put (k := 0) rfl (Val.nil tb wf 15) m14A11_ok (Val.put (k := 0) rfl (Val.nil tb wf 15) m14A12_ok (Val.put (k := 0) rfl (Val.nil tb wf 15) m14A13_ok (Val.put (k := 0) rfl (Val.nil tb wf 15) m14A14_ok (Val.put (k := 0) rfl (Val.nil tb wf 15) m14A15_ok (Val.put (k := 0) rfl (Val.nil tb wf 15) m14A16_ok (Val.put (k := 0) rfl (Val.nil tb wf 15) m14A17_ok (Val.put (k := 0) rfl (Val.nil tb wf 15) m14A18_ok (Val.put (k := 0) rfl (Val.nil tb wf 15) m14A19_ok (Val.put (k := 0) rfl (Val.nil tb wf 15) m14A20_ok (Val.put (k := 0) rfl (Val.nil tb wf 15) m14A21_ok (Val.put (k := 0) rfl (Val.nil tb wf 15) m14A22_ok (Val.put (k := 0) rfl (Val.nil tb wf 15) m14A23_ok (Val.put (k := 0) rfl (Val.nil tb wf 15) m14A24_ok (Val.put (k := 0) rfl (Val.nil tb wf 15) m14A25_ok (Val.put (k := 0) rfl (Val.nil tb wf 15) m14A26_ok (Val.put (k := 0) rfl (Val.nil tb wf 15) m14A27_ok (Val.put (k := 0) rfl (Val.nil tb wf 15) m14A28_ok (Val.put (k := 0) rfl (Val.nil tb wf 15) m14A29_ok (Val.put (k := 0) rfl (Val.nil tb wf 15) m14A30_ok (Val.put (k := 0) rfl (Val.nil tb wf 15) m14A31_ok (Val.put (k := 0) rfl (Val.nil tb wf 15) m14A32_ok (Val.put (k := 0) rfl (Val.nil tb wf 15) m14A33_ok (Val.put (k := 0) rfl (Val.nil tb wf 15) m14A34_ok (Val.put (k := 0) rfl (Val.nil tb wf 15) m14A35_ok (Val.put (k := 0) rfl (Val.nil tb wf 15) m14A36_ok (Val.put (k := 0) rfl (Val.nil tb wf 15) m14A37_ok (Val.put (k := 0) rfl (Val.nil tb wf 15) m14A38_ok (Val.put (k := 0) rfl (Val.nil tb wf 15) m14A39_ok (Val.put (k := 0) rfl (Val.nil tb wf 15) m14A40_ok (Val.put (k := 0) rfl (Val.nil tb wf 15) m14A41_ok (Val.put (k := 0) rfl (Val.nil tb wf 15) m14A42_ok (Val.put (k := 0) rfl (Val.nil tb wf 15) m14A43_ok (Val.put (k := 0) rfl (Val.nil tb wf 15) m14A44_ok (Val.put (k := 0) rfl (Val.nil tb wf 15) m14A45_ok (Val.put (k := 0) rfl (Val.nil tb wf 15) m14A46_ok (Val.nil tb wf 16)))))))))))))))))))))))))))))))))))))))))))))))
def m14B0 : Nat × List W × W := (32, [.tup [.int (2), .tup [.tup [.int (0), .int (1)], .tup [.int (0), .int (1)], .tup [.int (0), .int (1)], .tup [.int (0), .int (1)], .tup [.int (0), .int (1)], .tup [.int (0), .int (1)], .tup [.int (0), .int (1)], .tup [.int (0), .int (1)], .tup [.int (0), .int (1)], .tup [.int (0), .int (1)], .tup [.int (0), .int (1)], .tup [.int (0), .int (1)], .tup [.int (0), .int (1)], .tup [.int (0), .int (1)]], .tup [.tup [.int (0), .int (2), .int (4), .int (6), .int (8), .int (10), .int (12), .int (14), .int (16), .int (18), .int (20), .int (22), .int (24), .int (26)], .tup [.int (1), .int (3), .int (5), .int (7), .int (9), .int (11), .int (13), .int (15), .int (17), .int (19), .int (21), .int (23), .int (25), .int (27)]]], .int (0), .tup [.int (0)], .str "numbers"], .tup [.int (0), .int (13)])
theorem m14B0_ok : chkE tb wf m14TA 16 8 m14B0 = true := by kernel_rfl
def m14B1 : Nat × List W × W := (32, [.tup [.int (2), .tup [.tup [.int (0), .int (1)], .tup [.int (0), .int (1)], .tup [.int (0), .int (1)], .tup [.int (0), .int (1)], .tup [.int (0), .int (1)], .tup [.int (0), .int (1)], .tup [.int (0), .int (1)], .tup [.int (0), .int (1)], .tup [.int (0), .int (1)], .tup [.int (0), .int (1)], .tup [.int (0), .int (1)], .tup [.int (0), .int (1)], .tup [.int (0), .int (1)], .tup [.int (0), .int (1)]], .tup [.tup [.int (0), .int (2), .int (4), .int (6), .int (8), .int (10), .int (12), .int (14), .int (16), .int (18), .int (20), .int (22), .int (24), .int (26)], .tup [.int (1), .int (3), .int (5), .int (7), .int (9), .int (11), .int (13), .int (15), .int (17), .int (19), .int (21), .int (23), .int (25), .int (27)]]], .int (0), .tup [.int (1)], .str "numbers"], .tup [.int (0), .int (12)])
theorem m14B1_ok : chkE tb wf m14TA 16 8 m14B1 = true := by kernel_rfl
def m14B2 : Nat × List W × W := (32, [.tup [.int (2), .tup [.tup [.int (0), .int (1)], .tup [.int (0), .int (1)], .tup [.int (0), .int (1)], .tup [.int (0), .int (1)], .tup [.int (0), .int (1)], .tup [.int (0), .int (1)], .tup [.int (0), .int (1)], .tup [.int (0), .int (1)], .tup [.int (0), .int (1)], .tup [.int (0), .int (1)], .tup [.int (0), .int (1)], .tup [.int (0), .int (1)], .tup [.int (0), .int (1)], .tup [.int (0), .int (1)]], .tup [.tup [.int (0), .int (2), .int (4), .int (6), .int (8), .int (10), .int (12), .int (14), .int (16), .int (18), .int (20), .int (22), .int (24), .int (26)], .tup [.int (1), .int (3), .int (5), .int (7), .int (9), .int (11), .int (13), .int (15), .int (17), .int (19), .int (21), .int (23), .int (25), .int (27)]]], .int (0), .tup [.int (2)], .str "numbers"], .tup [.int (0), .int (11)])
theorem m14B2_ok : chkE tb wf m14TA 16 8 m14B2 = true := by kernel_rfl
def m14B3 : Nat × List W × W := (32, [.tup [.int (2), .tup [.tup [.int (0), .int (1)], .tup [.int (0), .int (1)], .tup [.int (0), .int (1)], .tup [.int (0), .int (1)], .tup [.int (0), .int (1)], .tup [.int (0), .int (1)], .tup [.int (0), .int (1)], .tup [.int (0), .int (1)], .tup [.int (0), .int (1)], .tup [.int (0), .int (1)], .tup [.int (0), .int (1)], .tup [.int (0), .int (1)], .tup [.int (0), .int (1)], .tup [.int (0), .int (1)]], .tup [.tup [.int (0), .int (2), .int (4), .int (6), .int (8), .int (10), .int (12), .int (14), .int (16), .int (18), .int (20), .int (22), .int (24), .int (26)], .tup [.int (1), .int (3), .int (5), .int (7), .int (9), .int (11), .int (13), .int (15), .int (17), .int (19), .int (21), .int (23), .int (25), .int (27)]]], .int (0), .tup [.int (3)], .str "numbers"], .tup [.int (0), .int (10)])
theorem m14B3_ok : chkE tb wf m14TA 16 8 m14B3 = true := by kernel_rfl
def m14B4 : Nat × List W × W := (32, [.tup [.int (2), .tup [.tup [.int (0), .int (1)], .tup [.int (0), .int (1)], .tup [.int (0), .int (1)], .tup [.int (0), .int (1)], .tup [.int (0), .int (1)], .tup [.int (0), .int (1)], .tup [.int (0), .int (1)], .tup [.int (0), .int (1)], .tup [.int (0), .int (1)], .tup [.int (0), .int (1)], .tup [.int (0), .int (1)], .tup [.int (0), .int (1)], .tup [.int (0), .int (1)], .tup [.int (0), .int (1)]], .tup [.tup [.int (0), .int (2), .int (4), .int (6), .int (8), .int (10), .int (12), .int (14), .int (16), .int (18), .int (20), .int (22), .int (24), .int (26)], .tup [.int (1), .int (3), .int (5), .int (7), .int (9), .int (11), .int (13), .int (15), .int (17), .int (19), .int (21), .int (23), .int (25), .int (27)]]], .int (0), .tup [.int (4)], .str "numbers"], .tup [.int (0), .int (9)])
theorem m14B4_ok : chkE tb wf m14TA 16 8 m14B4 = true := by kernel_rfl
def m14B5 : Nat × List W × W := (32, [.tup [.int (2), .tup [.tup [.int (0), .int (1)], .tup [.int (0), .int (1)], .tup [.int (0), .int (1)], .tup [.int (0), .int (1)], .tup [.int (0), .int (1)], .tup [.int (0), .int (1)], .tup [.int (0), .int (1)], .tup [.int (0), .int (1)], .tup [.int (0), .int (1)], .tup [.int (0), .int (1)], .tup [.int (0), .int (1)], .tup [.int (0), .int (1)], .tup [.int (0), .int (1)], .tup [.int (0), .int (1)]], .tup [.tup [.int (0), .int (2), .int (4), .int (6), .int (8), .int (10), .int (12), .int (14), .int (16), .int (18), .int (20), .int (22), .int (24), .int (26)], .tup [.int (1), .int (3), .int (5), .int (7), .int (9), .int (11), .int (13), .int (15), .int (17), .int (19), .int (21), .int (23), .int (25), .int (27)]]], .int (0), .tup [.int (5)], .str "numbers"], .tup [.int (0), .int (8)])
theorem m14B5_ok : chkE tb wf m14TA 16 8 m14B5 = true := by kernel_rfl
def m14B6 : Nat × List W × W := (32, [.tup [.int (2), .tup [.tup [.int (0), .int (1)], .tup [.int (0), .int (1)], .tup [.int (0), .int (1)], .tup [.int (0), .int (1)], .tup [.int (0), .int (1)], .tup [.int (0), .int (1)], .tup [.int (0), .int (1)], .tup [.int (0), .int (1)], .tup [.int (0), .int (1)], .tup [.int (0), .int (1)], .tup [.int (0), .int (1)], .tup [.int (0), .int (1)], .tup [.int (0), .int (1)], .tup [.int (0), .int (1)]], .tup [.tup [.int (0), .int (2), .int (4), .int (6), .int (8), .int (10), .int (12), .int (14), .int (16), .int (18), .int (20), .int (22), .int (24), .int (26)], .tup [.int (1), .int (3), .int (5), .int (7), .int (9), .int (11), .int (13), .int (15), .int (17), .int (19), .int (21), .int (23), .int (25), .int (27)]]], .int (0), .tup [.int (6)], .str "numbers"], .tup [.int (0), .int (7)])
theorem m14B6_ok : chkE tb wf m14TA 16 8 m14B6 = true := by kernel_rfl
def m14B7 : Nat × List W × W := (32, [.tup [.int (2), .tup [.tup [.int (0), .int (1)], .tup [.int (0), .int (1)], .tup [.int (0), .int (1)], .tup [.int (0), .int (1)], .tup [.int (0), .int (1)], .tup [.int (0), .int (1)], .tup [.int (0), .int (1)], .tup [.int (0), .int (1)], .tup [.int (0), .int (1)], .tup [.int (0), .int (1)], .tup [.int (0), .int (1)], .tup [.int (0), .int (1)], .tup [.int (0), .int (1)], .tup [.int (0), .int (1)]], .tup [.tup [.int (0), .int (2), .int (4), .int (6), .int (8), .int (10), .int (12), .int (14), .int (16), .int (18), .int (20), .int (22), .int (24), .int (26)], .tup [.int (1), .int (3), .int (5), .int (7), .int (9), .int (11), .int (13), .int (15), .int (17), .int (19), .int (21), .int (23), .int (25), .int (27)]]], .int (0), .tup [.int (7)], .str "numbers"], .tup [.int (0), .int (6)])
theorem m14B7_ok : chkE tb wf m14TA 16 8 m14B7 = true := by kernel_rfl
def m14B8 : Nat × List W × W := (32, [.tup [.int (2), .tup [.tup [.int (0), .int (1)], .tup [.int (0), .int (1)], .tup [.int (0), .int (1)], .tup [.int (0), .int (1)], .tup [.int (0), .int (1)], .tup [.int (0), .int (1)], .tup [.int (0), .int (1)], .tup [.int (0), .int (1)], .tup [.int (0), .int (1)], .tup [.int (0), .int (1)], .tup [.int (0), .int (1)], .tup [.int (0), .int (1)], .tup [.int (0), .int (1)], .tup [.int (0), .int (1)]], .tup [.tup [.int (0), .int (2), .int (4), .int (6), .int (8), .int (10), .int (12), .int (14), .int (16), .int (18), .int (20), .int (22), .int (24), .int (26)], .tup [.int (1), .int (3), .int (5), .int (7), .int (9), .int (11), .int (13), .int (15), .int (17), .int (19), .int (21), .int (23), .int (25), .int (27)]]], .int (0), .tup [.int (8)], .str "numbers"], .tup [.int (0), .int (5)])
theorem m14B8_ok : chkE tb wf m14TA 16 8 m14B8 = true := by kernel_rfl
def m14B9 : Nat × List W × W := (32, [.tup [.int (2), .tup [.tup [.int (0), .int (1)], .tup [.int (0), .int (1)], .tup [.int (0), .int (1)], .tup [.int (0), .int (1)], .tup [.int (0), .int (1)], .tup [.int (0), .int (1)], .tup [.int (0), .int (1)], .tup [.int (0), .int (1)], .tup [.int (0), .int (1)], .tup [.int (0), .int (1)], .tup [.int (0), .int (1)], .tup [.int (0), .int (1)], .tup [.int (0), .int (1)], .tup [.int (0), .int (1)]], .tup [.tup [.int (0), .int (2), .int (4), .int (6), .int (8), .int (10), .int (12), .int (14), .int (16), .int (18), .int (20), .int (22), .int (24), .int (26)], .tup [.int (1), .int (3), .int (5), .int (7), .int (9), .int (11), .int (13), .int (15), .int (17), .int (19), .int (21), .int (23), .int (25), .int (27)]]], .int (0), .tup [.int (9)], .str "numbers"], .tup [.int (0), .int (4)])
theorem m14B9_ok : chkE tb wf m14TA 16 8 m14B9 = true := by kernel_rfl
def m14B10 : Nat × List W × W := (32, [.tup [.int (2), .tup [.tup [.int (0), .int (1)], .tup [.int (0), .int (1)], .tup [.int (0), .int (1)], .tup [.int (0), .int (1)], .tup [.int (0), .int (1)], .tup [.int (0), .int (1)], .tup [.int (0), .int (1)], .tup [.int (0), .int (1)], .tup [.int (0), .int (1)], .tup [.int (0), .int (1)], .tup [.int (0), .int (1)], .tup [.int (0), .int (1)], .tup [.int (0), .int (1)], .tup [.int (0), .int (1)]], .tup [.tup [.int (0), .int (2), .int (4), .int (6), .int (8), .int (10), .int (12), .int (14), .int (16), .int (18), .int (20), .int (22), .int (24), .int (26)], .tup [.int (1), .int (3), .int (5), .int (7), .int (9), .int (11), .int (13), .int (15), .int (17), .int (19), .int (21), .int (23), .int (25), .int (27)]]], .int (0), .tup [.int (10)], .str "numbers"], .tup [.int (0), .int (3)])
theorem m14B10_ok : chkE tb wf m14TA 16 8 m14B10 = true := by kernel_rfl
def m14B11 : Nat × List W × W := (32, [.tup [.int (2), .tup [.tup [.int (0), .int (1)], .tup [.int (0), .int (1)], .tup [.int (0), .int (1)], .tup [.int (0), .int (1)], .tup [.int (0), .int (1)], .tup [.int (0), .int (1)], .tup [.int (0), .int (1)], .tup [.int (0), .int (1)], .tup [.int (0), .int (1)], .tup [.int (0), .int (1)], .tup [.int (0), .int (1)], .tup [.int (0), .int (1)], .tup [.int (0), .int (1)], .tup [.int (0), .int (1)]], .tup [.tup [.int (0), .int (2), .int (4), .int (6), .int (8), .int (10), .int (12), .int (14), .int (16), .int (18), .int (20), .int (22), .int (24), .int (26)], .tup [.int (1), .int (3), .int (5), .int (7), .int (9), .int (11), .int (13), .int (15), .int (17), .int (19), .int (21), .int (23), .int (25), .int (27)]]], .int (0), .tup [.int (11)], .str "numbers"], .tup [.int (0), .int (2)])
theorem m14B11_ok : chkE tb wf m14TA 16 8 m14B11 = true := by kernel_rfl
def m14B12 : Nat × List W × W := (32, [.tup [.int (2), .tup [.tup [.int (0), .int (1)], .tup [.int (0), .int (1)], .tup [.int (0), .int (1)], .tup [.int (0), .int (1)], .tup [.int (0), .int (1)], .tup [.int (0), .int (1)], .tup [.int (0), .int (1)], .tup [.int (0), .int (1)], .tup [.int (0), .int (1)], .tup [.int (0), .int (1)], .tup [.int (0), .int (1)], .tup [.int (0), .int (1)], .tup [.int (0), .int (1)], .tup [.int (0), .int (1)]], .tup [.tup [.int (0), .int (2), .int (4), .int (6), .int (8), .int (10), .int (12), .int (14), .int (16), .int (18), .int (20), .int (22), .int (24), .int (26)], .tup [.int (1), .int (3), .int (5), .int (7), .int (9), .int (11), .int (13), .int (15), .int (17), .int (19), .int (21), .int (23), .int (25), .int (27)]]], .int (0), .tup [.int (12)], .str "numbers"], .tup [.int (0), .int (1)])
theorem m14B12_ok : chkE tb wf m14TA 16 8 m14B12 = true := by kernel_rfl
def m14B13 : Nat × List W × W := (32, [.tup [.int (2), .tup [.tup [.int (0), .int (1)], .tup [.int (0), .int (1)], .tup [.int (0), .int (1)], .tup [.int (0), .int (1)], .tup [.int (0), .int (1)], .tup [.int (0), .int (1)], .tup [.int (0), .int (1)], .tup [.int (0), .int (1)], .tup [.int (0), .int (1)], .tup [.int (0), .int (1)], .tup [.int (0), .int (1)], .tup [.int (0), .int (1)], .tup [.int (0), .int (1)], .tup [.int (0), .int (1)]], .tup [.tup [.int (0), .int (2), .int (4), .int (6), .int (8), .int (10), .int (12), .int (14), .int (16), .int (18), .int (20), .int (22), .int (24), .int (26)], .tup [.int (1), .int (3), .int (5), .int (7), .int (9), .int (11), .int (13), .int (15), .int (17), .int (19), .int (21), .int (23), .int (25), .int (27)]]], .int (0), .tup [.int (13)], .str "numbers"], .tup [.int (0), .int (0)])
theorem m14B13_ok : chkE tb wf m14TA 16 8 m14B13 = true := by kernel_rfl
def m14B14 : Nat × List W × W := (38, [.tup [.int (2), .tup [.tup [.int (0), .int (1)], .tup [.int (0), .int (1)], .tup [.int (0), .int (1)], .tup [.int (0), .int (1)], .tup [.int (0), .int (1)], .tup [.int (0), .int (1)], .tup [.int (0), .int (1)], .tup [.int (0), .int (1)], .tup [.int (0), .int (1)], .tup [.int (0), .int (1)], .tup [.int (0), .int (1)], .tup [.int (0), .int (1)], .tup [.int (0), .int (1)], .tup [.int (0), .int (1)]], .tup [.tup [.int (0), .int (2), .int (4), .int (6), .int (8), .int (10), .int (12), .int (14), .int (16), .int (18), .int (20), .int (22), .int (24), .int (26)], .tup [.int (1), .int (3), .int (5), .int (7), .int (9), .int (11), .int (13), .int (15), .int (17), .int (19), .int (21), .int (23), .int (25), .int (27)]]], .int (0)], .tup [.int (0), .int (0)])
theorem m14B14_ok : chkE tb wf m14TA 16 8 m14B14 = true := by kernel_rfl
def m14B15 : Nat × List W × W := (36, [.tup [.int (2), .tup [.tup [.int (0), .int (1)], .tup [.int (0), .int (1)], .tup [.int (0), .int (1)], .tup [.int (0), .int (1)], .tup [.int (0), .int (1)], .tup [.int (0), .int (1)], .tup [.int (0), .int (1)], .tup [.int (0), .int (1)], .tup [.int (0), .int (1)], .tup [.int (0), .int (1)], .tup [.int (0), .int (1)], .tup [.int (0), .int (1)], .tup [.int (0), .int (1)], .tup [.int (0), .int (1)]], .tup [.tup [.int (0), .int (2), .int (4), .int (6), .int (8), .int (10), .int (12), .int (14), .int (16), .int (18), .int (20), .int (22), .int (24), .int (26)], .tup [.int (1), .int (3), .int (5), .int (7), .int (9), .int (11), .int (13), .int (15), .int (17), .int (19), .int (21), .int (23), .int (25), .int (27)]]]], .tup [.int (1), .int (1), .int (1), .int (1), .int (1), .int (1), .int (1), .int (1), .int (1), .int (1), .int (1), .int (1), .int (1), .int (1)])
theorem m14B15_ok : chkE tb wf m14TA 16 8 m14B15 = true := by kernel_rfl
def m14B16 : Nat × List W × W := (4, [.tup [.int (2), .tup [.tup [.int (0), .int (1)], .tup [.int (0), .int (1)], .tup [.int (0), .int (1)], .tup [.int (0), .int (1)], .tup [.int (0), .int (1)], .tup [.int (0), .int (1)], .tup [.int (0), .int (1)], .tup [.int (0), .int (1)], .tup [.int (0), .int (1)], .tup [.int (0), .int (1)], .tup [.int (0), .int (1)], .tup [.int (0), .int (1)], .tup [.int (0), .int (1)], .tup [.int (0), .int (1)]], .tup [.tup [.int (0), .int (2), .int (4), .int (6), .int (8), .int (10), .int (12), .int (14), .int (16), .int (18), .int (20), .int (22), .int (24), .int (26)], .tup [.int (1), .int (3), .int (5), .int (7), .int (9), .int (11), .int (13), .int (15), .int (17), .int (19), .int (21), .int (23), .int (25), .int (27)]]], .int (0), .tup [.int (0), .int (28)]], .tup [.int (0), .int (0)])
theorem m14B16_ok : chkE tb wf m14TA 16 8 m14B16 = true := by kernel_rfl
def m14B17 : Nat × List W × W := (4, [.tup [.int (2), .tup [.tup [.int (0), .int (1)], .tup [.int (0), .int (1)], .tup [.int (0), .int (1)], .tup [.int (0), .int (1)], .tup [.int (0), .int (1)], .tup [.int (0), .int (1)], .tup [.int (0), .int (1)], .tup [.int (0), .int (1)], .tup [.int (0), .int (1)], .tup [.int (0), .int (1)], .tup [.int (0), .int (1)], .tup [.int (0), .int (1)], .tup [.int (0), .int (1)], .tup [.int (0), .int (1)]], .tup [.tup [.int (0), .int (2), .int (4), .int (6), .int (8), .int (10), .int (12), .int (14), .int (16), .int (18), .int (20), .int (22), .int (24), .int (26)], .tup [.int (1), .int (3), .int (5), .int (7), .int (9), .int (11), .int (13), .int (15), .int (17), .int (19), .int (21), .int (23), .int (25), .int (27)]]], .int (0), .tup [.int (0), .int (99)]], .tup [.int (0), .int (1)])
theorem m14B17_ok : chkE tb wf m14TA 16 8 m14B17 = true := by kernel_rfl
def m14B18 : Nat × List W × W := (4, [.tup [.int (2), .tup [.tup [.int (0), .int (1)], .tup [.int (0), .int (1)], .tup [.int (0), .int (1)], .tup [.int (0), .int (1)], .tup [.int (0), .int (1)], .tup [.int (0), .int (1)], .tup [.int (0), .int (1)], .tup [.int (0), .int (1)], .tup [.int (0), .int (1)], .tup [.int (0), .int (1)], .tup [.int (0), .int (1)], .tup [.int (0), .int (1)], .tup [.int (0), .int (1)], .tup [.int (0), .int (1)]], .tup [.tup [.int (0), .int (2), .int (4), .int (6), .int (8), .int (10), .int (12), .int (14), .int (16), .int (18), .int (20), .int (22), .int (24), .int (26)], .tup [.int (1), .int (3), .int (5), .int (7), .int (9), .int (11), .int (13), .int (15), .int (17), .int (19), .int (21), .int (23), .int (25), .int (27)]]], .int (0), .tup [.int (0), .int (14)]], .tup [.int (0), .int (0)])
theorem m14B18_ok : chkE tb wf m14TA 16 8 m14B18 = true := by kernel_rfl
def m14B19 : Nat × List W × W := (4, [.tup [.int (2), .tup [.tup [.int (0), .int (1)], .tup [.int (0), .int (1)], .tup [.int (0), .int (1)], .tup [.int (0), .int (1)], .tup [.int (0), .int (1)], .tup [.int (0), .int (1)], .tup [.int (0), .int (1)], .tup [.int (0), .int (1)], .tup [.int (0), .int (1)], .tup [.int (0), .int (1)], .tup [.int (0), .int (1)], .tup [.int (0), .int (1)], .tup [.int (0), .int (1)], .tup [.int (0), .int (1)]], .tup [.tup [.int (0), .int (2), .int (4), .int (6), .int (8), .int (10), .int (12), .int (14), .int (16), .int (18), .int (20), .int (22), .int (24), .int (26)], .tup [.int (1), .int (3), .int (5), .int (7), .int (9), .int (11), .int (13), .int (15), .int (17), .int (19), .int (21), .int (23), .int (25), .int (27)]]], .int (0), .tup [.int (0), .int (23)]], .tup [.int (0), .int (9)])
theorem m14B19_ok : chkE tb wf m14TA 16 8 m14B19 = true := by kernel_rfl
def m14B20 : Nat × List W × W := (31, [.tup [.int (2), .tup [.tup [.int (0), .int (1)], .tup [.int (0), .int (1)], .tup [.int (0), .int (1)], .tup [.int (0), .int (1)], .tup [.int (0), .int (1)], .tup [.int (0), .int (1)], .tup [.int (0), .int (1)], .tup [.int (0), .int (1)], .tup [.int (0), .int (1)], .tup [.int (0), .int (1)], .tup [.int (0), .int (1)], .tup [.int (0), .int (1)], .tup [.int (0), .int (1)], .tup [.int (0), .int (1)]], .tup [.tup [.int (0), .int (2), .int (4), .int (6), .int (8), .int (10), .int (12), .int (14), .int (16), .int (18), .int (20), .int (22), .int (24), .int (26)], .tup [.int (1), .int (3), .int (5), .int (7), .int (9), .int (11), .int (13), .int (15), .int (17), .int (19), .int (21), .int (23), .int (25), .int (27)]]], .int (0), .tup [.int (0), .int (0)], .str "numbers"], .tup [.int (13)])
theorem m14B20_ok : chkE tb wf m14TA 16 8 m14B20 = true := by kernel_rfl
def m14B21 : Nat × List W × W := (31, [.tup [.int (2), .tup [.tup [.int (0), .int (1)], .tup [.int (0), .int (1)], .tup [.int (0), .int (1)], .tup [.int (0), .int (1)], .tup [.int (0), .int (1)], .tup [.int (0), .int (1)], .tup [.int (0), .int (1)], .tup [.int (0), .int (1)], .tup [.int (0), .int (1)], .tup [.int (0), .int (1)], .tup [.int (0), .int (1)], .tup [.int (0), .int (1)], .tup [.int (0), .int (1)], .tup [.int (0), .int (1)]], .tup [.tup [.int (0), .int (2), .int (4), .int (6), .int (8), .int (10), .int (12), .int (14), .int (16), .int (18), .int (20), .int (22), .int (24), .int (26)], .tup [.int (1), .int (3), .int (5), .int (7), .int (9), .int (11), .int (13), .int (15), .int (17), .int (19), .int (21), .int (23), .int (25), .int (27)]]], .int (0), .tup [.int (0), .int (1)], .str "numbers"], .tup [.int (12)])
theorem m14B21_ok : chkE tb wf m14TA 16 8 m14B21 = true := by kernel_rfl
def m14B22 : Nat × List W × W := (31, [.tup [.int (2), .tup [.tup [.int (0), .int (1)], .tup [.int (0), .int (1)], .tup [.int (0), .int (1)], .tup [.int (0), .int (1)], .tup [.int (0), .int (1)], .tup [.int (0), .int (1)], .tup [.int (0), .int (1)], .tup [.int (0), .int (1)], .tup [.int (0), .int (1)], .tup [.int (0), .int (1)], .tup [.int (0), .int (1)], .tup [.int (0), .int (1)], .tup [.int (0), .int (1)], .tup [.int (0), .int (1)]], .tup [.tup [.int (0), .int (2), .int (4), .int (6), .int (8), .int (10), .int (12), .int (14), .int (16), .int (18), .int (20), .int (22), .int (24), .int (26)], .tup [.int (1), .int (3), .int (5), .int (7), .int (9), .int (11), .int (13), .int (15), .int (17), .int (19), .int (21), .int (23), .int (25), .int (27)]]], .int (0), .tup [.int (0), .int (2)], .str "numbers"], .tup [.int (11)])
theorem m14B22_ok : chkE tb wf m14TA 16 8 m14B22 = true := by kernel_rfl
def m14B23 : Nat × List W × W := (31, [.tup [.int (2), .tup [.tup [.int (0), .int (1)], .tup [.int (0), .int (1)], .tup [.int (0), .int (1)], .tup [.int (0), .int (1)], .tup [.int (0), .int (1)], .tup [.int (0), .int (1)], .tup [.int (0), .int (1)], .tup [.int (0), .int (1)], .tup [.int (0), .int (1)], .tup [.int (0), .int (1)], .tup [.int (0), .int (1)], .tup [.int (0), .int (1)], .tup [.int (0), .int (1)], .tup [.int (0), .int (1)]], .tup [.tup [.int (0), .int (2), .int (4), .int (6), .int (8), .int (10), .int (12), .int (14), .int (16), .int (18), .int (20), .int (22), .int (24), .int (26)], .tup [.int (1), .int (3), .int (5), .int (7), .int (9), .int (11), .int (13), .int (15), .int (17), .int (19), .int (21), .int (23), .int (25), .int (27)]]], .int (0), .tup [.int (0), .int (3)], .str "numbers"], .tup [.int (10)])
theorem m14B23_ok : chkE tb wf m14TA 16 8 m14B23 = true := by kernel_rfl
def m14B24 : Nat × List W × W := (31, [.tup [.int (2), .tup [.tup [.int (0), .int (1)], .tup [.int (0), .int (1)], .tup [.int (0), .int (1)], .tup [.int (0), .int (1)], .tup [.int (0), .int (1)], .tup [.int (0), .int (1)], .tup [.int (0), .int (1)], .tup [.int (0), .int (1)], .tup [.int (0), .int (1)], .tup [.int (0), .int (1)], .tup [.int (0), .int (1)], .tup [.int (0), .int (1)], .tup [.int (0), .int (1)], .tup [.int (0), .int (1)]], .tup [.tup [.int (0), .int (2), .int (4), .int (6), .int (8), .int (10), .int (12), .int (14), .int (16), .int (18), .int (20), .int (22), .int (24), .int (26)], .tup [.int (1), .int (3), .int (5), .int (7), .int (9), .int (11), .int (13), .int (15), .int (17), .int (19), .int (21), .int (23), .int (25), .int (27)]]], .int (0), .tup [.int (0), .int (4)], .str "numbers"], .tup [.int (9)])
theorem m14B24_ok : chkE tb wf m14TA 16 8 m14B24 = true := by kernel_rfl
def m14B25 : Nat × List W × W := (31, [.tup [.int (2), .tup [.tup [.int (0), .int (1)], .tup [.int (0), .int (1)], .tup [.int (0), .int (1)], .tup [.int (0), .int (1)], .tup [.int (0), .int (1)], .tup [.int (0), .int (1)], .tup [.int (0), .int (1)], .tup [.int (0), .int (1)], .tup [.int (0), .int (1)], .tup [.int (0), .int (1)], .tup [.int (0), .int (1)], .tup [.int (0), .int (1)], .tup [.int (0), .int (1)], .tup [.int (0), .int (1)]], .tup [.tup [.int (0), .int (2), .int (4), .int (6), .int (8), .int (10), .int (12), .int (14), .int (16), .int (18), .int (20), .int (22), .int (24), .int (26)], .tup [.int (1), .int (3), .int (5), .int (7), .int (9), .int (11), .int (13), .int (15), .int (17), .int (19), .int (21), .int (23), .int (25), .int (27)]]], .int (0), .tup [.int (0), .int (5)], .str "numbers"], .tup [.int (8)])
theorem m14B25_ok : chkE tb wf m14TA 16 8 m14B25 = true := by kernel_rfl
def m14B26 : Nat × List W × W := (31, [.tup [.int (2), .tup [.tup [.int (0), .int (1)], .tup [.int (0), .int (1)], .tup [.int (0), .int (1)], .tup [.int (0), .int (1)], .tup [.int (0), .int (1)], .tup [.int (0), .int (1)], .tup [.int (0), .int (1)], .tup [.int (0), .int (1)], .tup [.int (0), .int (1)], .tup [.int (0), .int (1)], .tup [.int (0), .int (1)], .tup [.int (0), .int (1)], .tup [.int (0), .int (1)], .tup [.int (0), .int (1)]], .tup [.tup [.int (0), .int (2), .int (4), .int (6), .int (8), .int (10), .int (12), .int (14), .int (16), .int (18), .int (20), .int (22), .int (24), .int (26)], .tup [.int (1), .int (3), .int (5), .int (7), .int (9), .int (11), .int (13), .int (15), .int (17), .int (19), .int (21), .int (23), .int (25), .int (27)]]], .int (0), .tup [.int (0), .int (6)], .str "numbers"], .tup [.int (7)])
theorem m14B26_ok : chkE tb wf m14TA 16 8 m14B26 = true := by kernel_rfl
def m14B27 : Nat × List W × W := (31, [.tup [.int (2), .tup [.tup [.int (0), .int (1)], .tup [.int (0), .int (1)], .tup [.int (0), .int (1)], .tup [.int (0), .int (1)], .tup [.int (0), .int (1)], .tup [.int (0), .int (1)], .tup [.int (0), .int (1)], .tup [.int (0), .int (1)], .tup [.int (0), .int (1)], .tup [.int (0), .int (1)], .tup [.int (0), .int (1)], .tup [.int (0), .int (1)], .tup [.int (0), .int (1)], .tup [.int (0), .int (1)]], .tup [.tup [.int (0), .int (2), .int (4), .int (6), .int (8), .int (10), .int (12), .int (14), .int (16), .int (18), .int (20), .int (22), .int (24), .int (26)], .tup [.int (1), .int (3), .int (5), .int (7), .int (9), .int (11), .int (13), .int (15), .int (17), .int (19), .int (21), .int (23), .int (25), .int (27)]]], .int (0), .tup [.int (0), .int (7)], .str "numbers"], .tup [.int (6)])
theorem m14B27_ok : chkE tb wf m14TA 16 8 m14B27 = true := by kernel_rfl
def m14B28 : Nat × List W × W := (31, [.tup [.int (2), .tup [.tup [.int (0), .int (1)], .tup [.int (0), .int (1)], .tup [.int (0), .int (1)], .tup [.int (0), .int (1)], .tup [.int (0), .int (1)], .tup [.int (0), .int (1)], .tup [.int (0), .int (1)], .tup [.int (0), .int (1)], .tup [.int (0), .int (1)], .tup [.int (0), .int (1)], .tup [.int (0), .int (1)], .tup [.int (0), .int (1)], .tup [.int (0), .int (1)], .tup [.int (0), .int (1)]], .tup [.tup [.int (0), .int (2), .int (4), .int (6), .int (8), .int (10), .int (12), .int (14), .int (16), .int (18), .int (20), .int (22), .int (24), .int (26)], .tup [.int (1), .int (3), .int (5), .int (7), .int (9), .int (11), .int (13), .int (15), .int (17), .int (19), .int (21), .int (23), .int (25), .int (27)]]], .int (0), .tup [.int (0), .int (8)], .str "numbers"], .tup [.int (5)])
theorem m14B28_ok : chkE tb wf m14TA 16 8 m14B28 = true := by kernel_rfl
def m14B29 : Nat × List W × W := (31, [.tup [.int (2), .tup [.tup [.int (0), .int (1)], .tup [.int (0), .int (1)], .tup [.int (0), .int (1)], .tup [.int (0), .int (1)], .tup [.int (0), .int (1)], .tup [.int (0), .int (1)], .tup [.int (0), .int (1)], .tup [.int (0), .int (1)], .tup [.int (0), .int (1)], .tup [.int (0), .int (1)], .tup [.int (0), .int (1)], .tup [.int (0), .int (1)], .tup [.int (0), .int (1)], .tup [.int (0), .int (1)]], .tup [.tup [.int (0), .int (2), .int (4), .int (6), .int (8), .int (10), .int (12), .int (14), .int (16), .int (18), .int (20), .int (22), .int (24), .int (26)], .tup [.int (1), .int (3), .int (5), .int (7), .int (9), .int (11), .int (13), .int (15), .int (17), .int (19), .int (21), .int (23), .int (25), .int (27)]]], .int (0), .tup [.int (0), .int (9)], .str "numbers"], .tup [.int (4)])
theorem m14B29_ok : chkE tb wf m14TA 16 8 m14B29 = true := by kernel_rfl
def m14B30 : Nat × List W × W := (31, [.tup [.int (2), .tup [.tup [.int (0), .int (1)], .tup [.int (0), .int (1)], .tup [.int (0), .int (1)], .tup [.int (0), .int (1)], .tup [.int (0), .int (1)], .tup [.int (0), .int (1)], .tup [.int (0), .int (1)], .tup [.int (0), .int (1)], .tup [.int (0), .int (1)], .tup [.int (0), .int (1)], .tup [.int (0), .int (1)], .tup [.int (0), .int (1)], .tup [.int (0), .int (1)], .tup [.int (0), .int (1)]], .tup [.tup [.int (0), .int (2), .int (4), .int (6), .int (8), .int (10), .int (12), .int (14), .int (16), .int (18), .int (20), .int (22), .int (24), .int (26)], .tup [.int (1), .int (3), .int (5), .int (7), .int (9), .int (11), .int (13), .int (15), .int (17), .int (19), .int (21), .int (23), .int (25), .int (27)]]], .int (0), .tup [.int (0), .int (10)], .str "numbers"], .tup [.int (3)])
theorem m14B30_ok : chkE tb wf m14TA 16 8 m14B30 = true := by kernel_rfl
def m14B31 : Nat × List W × W := (31, [.tup [.int (2), .tup [.tup [.int (0), .int (1)], .tup [.int (0), .int (1)], .tup [.int (0), .int (1)], .tup [.int (0), .int (1)], .tup [.int (0), .int (1)], .tup [.int (0), .int (1)], .tup [.int (0), .int (1)], .tup [.int (0), .int (1)], .tup [.int (0), .int (1)], .tup [.int (0), .int (1)], .tup [.int (0), .int (1)], .tup [.int (0), .int (1)], .tup [.int (0), .int (1)], .tup [.int (0), .int (1)]], .tup [.tup [.int (0), .int (2), .int (4), .int (6), .int (8), .int (10), .int (12), .int (14), .int (16), .int (18), .int (20), .int (22), .int (24), .int (26)], .tup [.int (1), .int (3), .int (5), .int (7), .int (9), .int (11), .int (13), .int (15), .int (17), .int (19), .int (21), .int (23), .int (25), .int (27)]]], .int (0), .tup [.int (0), .int (11)], .str "numbers"], .tup [.int (2)])
theorem m14B31_ok : chkE tb wf m14TA 16 8 m14B31 = true := by kernel_rfl
def m14B32 : Nat × List W × W := (31, [.tup [.int (2), .tup [.tup [.int (0), .int (1)], .tup [.int (0), .int (1)], .tup [.int (0), .int (1)], .tup [.int (0), .int (1)], .tup [.int (0), .int (1)], .tup [.int (0), .int (1)], .tup [.int (0), .int (1)], .tup [.int (0), .int (1)], .tup [.int (0), .int (1)], .tup [.int (0), .int (1)], .tup [.int (0), .int (1)], .tup [.int (0), .int (1)], .tup [.int (0), .int (1)], .tup [.int (0), .int (1)]], .tup [.tup [.int (0), .int (2), .int (4), .int (6), .int (8), .int (10), .int (12), .int (14), .int (16), .int (18), .int (20), .int (22), .int (24), .int (26)], .tup [.int (1), .int (3), .int (5), .int (7), .int (9), .int (11), .int (13), .int (15), .int (17), .int (19), .int (21), .int (23), .int (25), .int (27)]]], .int (0), .tup [.int (0), .int (12)], .str "numbers"], .tup [.int (1)])
theorem m14B32_ok : chkE tb wf m14TA 16 8 m14B32 = true := by kernel_rfl
def m14B33 : Nat × List W × W := (31, [.tup [.int (2), .tup [.tup [.int (0), .int (1)], .tup [.int (0), .int (1)], .tup [.int (0), .int (1)], .tup [.int (0), .int (1)], .tup [.int (0), .int (1)], .tup [.int (0), .int (1)], .tup [.int (0), .int (1)], .tup [.int (0), .int (1)], .tup [.int (0), .int (1)], .tup [.int (0), .int (1)], .tup [.int (0), .int (1)], .tup [.int (0), .int (1)], .tup [.int (0), .int (1)], .tup [.int (0), .int (1)]], .tup [.tup [.int (0), .int (2), .int (4), .int (6), .int (8), .int (10), .int (12), .int (14), .int (16), .int (18), .int (20), .int (22), .int (24), .int (26)], .tup [.int (1), .int (3), .int (5), .int (7), .int (9), .int (11), .int (13), .int (15), .int (17), .int (19), .int (21), .int (23), .int (25), .int (27)]]], .int (0), .tup [.int (0), .int (13)], .str "numbers"], .tup [.int (0)])
theorem m14B33_ok : chkE tb wf m14TA 16 8 m14B33 = true := by kernel_rfl
def m14B34 : Nat × List W × W := (37, [.tup [.int (2), .tup [.tup [.int (0), .int (1)], .tup [.int (0), .int (1)], .tup [.int (0), .int (1)], .tup [.int (0), .int (1)], .tup [.int (0), .int (1)], .tup [.int (0), .int (1)], .tup [.int (0), .int (1)], .tup [.int (0), .int (1)], .tup [.int (0), .int (1)], .tup [.int (0), .int (1)], .tup [.int (0), .int (1)], .tup [.int (0), .int (1)], .tup [.int (0), .int (1)], .tup [.int (0), .int (1)]], .tup [.tup [.int (0), .int (2), .int (4), .int (6), .int (8), .int (10), .int (12), .int (14), .int (16), .int (18), .int (20), .int (22), .int (24), .int (26)], .tup [.int (1), .int (3), .int (5), .int (7), .int (9), .int (11), .int (13), .int (15), .int (17), .int (19), .int (21), .int (23), .int (25), .int (27)]]], .int (0), .tup [.int (0), .int (0)]], .tup [.int (0), .int (0)])
theorem m14B34_ok : chkE tb wf m14TA 16 8 m14B34 = true := by kernel_rfl
def m14B35 : Nat × List W × W := (37, [.tup [.int (2), .tup [.tup [.int (0), .int (1)], .tup [.int (0), .int (1)], .tup [.int (0), .int (1)], .tup [.int (0), .int (1)], .tup [.int (0), .int (1)], .tup [.int (0), .int (1)], .tup [.int (0), .int (1)], .tup [.int (0), .int (1)], .tup [.int (0), .int (1)], .tup [.int (0), .int (1)], .tup [.int (0), .int (1)], .tup [.int (0), .int (1)], .tup [.int (0), .int (1)], .tup [.int (0), .int (1)]], .tup [.tup [.int (0), .int (2), .int (4), .int (6), .int (8), .int (10), .int (12), .int (14), .int (16), .int (18), .int (20), .int (22), .int (24), .int (26)], .tup [.int (1), .int (3), .int (5), .int (7), .int (9), .int (11), .int (13), .int (15), .int (17), .int (19), .int (21), .int (23), .int (25), .int (27)]]], .int (0), .tup [.int (5), .int (-5)]], .tup [.int (0), .int (9)])
theorem m14B35_ok : chkE tb wf m14TA 16 8 m14B35 = true := by kernel_rfl
def m14B36 : Nat × List W × W := (40, [.tup [.int (2), .tup [.tup [.int (0), .int (1)], .tup [.int (0), .int (1)], .tup [.int (0), .int (1)], .tup [.int (0), .int (1)], .tup [.int (0), .int (1)], .tup [.int (0), .int (1)], .tup [.int (0), .int (1)], .tup [.int (0), .int (1)], .tup [.int (0), .int (1)], .tup [.int (0), .int (1)], .tup [.int (0), .int (1)], .tup [.int (0), .int (1)], .tup [.int (0), .int (1)], .tup [.int (0), .int (1)]], .tup [.tup [.int (0), .int (2), .int (4), .int (6), .int (8), .int (10), .int (12), .int (14), .int (16), .int (18), .int (20), .int (22), .int (24), .int (26)], .tup [.int (1), .int (3), .int (5), .int (7), .int (9), .int (11), .int (13), .int (15), .int (17), .int (19), .int (21), .int (23), .int (25), .int (27)]]], .int (0), .tup [.int (0), .int (13)], .tup [.int (0), .int (1)]], .tup [.int (0), .int (0)])
theorem m14B36_ok : chkE tb wf m14TA 16 8 m14B36 = true := by kernel_rfl
def m14B37 : Nat × List W × W := (6, [.tup [.int (2), .tup [.tup [.int (0), .int (1)], .tup [.int (0), .int (1)], .tup [.int (0), .int (1)], .tup [.int (0), .int (1)], .tup [.int (0), .int (1)], .tup [.int (0), .int (1)], .tup [.int (0), .int (1)], .tup [.int (0), .int (1)], .tup [.int (0), .int (1)], .tup [.int (0), .int (1)], .tup [.int (0), .int (1)], .tup [.int (0), .int (1)], .tup [.int (0), .int (1)], .tup [.int (0), .int (1)]], .tup [.tup [.int (0), .int (2), .int (4), .int (6), .int (8), .int (10), .int (12), .int (14), .int (16), .int (18), .int (20), .int (22), .int (24), .int (26)], .tup [.int (1), .int (3), .int (5), .int (7), .int (9), .int (11), .int (13), .int (15), .int (17), .int (19), .int (21), .int (23), .int (25), .int (27)]]], .int (0), .tup [.int (0), .int (99)]], .int (98))
theorem m14B37_ok : chkE tb wf m14TA 16 8 m14B37 = true := by kernel_rfl
def m14TB : List (Nat × List W × W) := m14B0 :: m14B1 :: m14B2 :: m14B3 :: m14B4 :: m14B5 :: m14B6 :: m14B7 :: m14B8 :: m14B9 :: m14B10 :: m14B11 :: m14B12 :: m14B13 :: m14B14 :: m14B15 :: m14B16 :: m14B17 :: m14B18 :: m14B19 :: m14B20 :: m14B21 :: m14B22 :: m14B23 :: m14B24 :: m14B25 :: m14B26 :: m14B27 :: m14B28 :: m14B29 :: m14B30 :: m14B31 :: m14B32 :: m14B33 :: m14B34 :: m14B35 :: m14B36 :: m14B37 :: m14TA
theorem m14TB_ok : Val tb wf m14TB 25 := Val.put (k := 8) rfl m14TA_ok m14B0_ok (Val.put (k := 8) rfl m14TA_ok m14B1_ok (Val.put (k := 8) rfl m14TA_ok m14B2_ok (Val.put (k := 8) rfl m14TA_ok m14B3_ok (Val.put (k := 8) rfl m14TA_ok m14B4_ok (Val.put (k := 8) rfl m14TA_ok m14B5_ok (Val.put (k := 8) rfl m14TA_ok m14B6_ok (Val.put (k := 8) rfl m14TA_ok m14B7_ok (Val.put (k := 8) rfl m14TA_ok m14B8_ok (Val.put (k := 8) rfl m14TA_ok m14B9_ok (Val.put (k := 8) rfl m14TA_ok m14B10_ok (Val.put (k := 8) rfl m14TA_ok m14B11_ok (Val.put (k := 8) rfl m14TA_ok m14B12_ok (Val.put (k := 8) rfl m14TA_ok m14B13_ok (Val.put (k := 8) rfl m14TA_ok m14B14_ok (Val.put (k := 8) rfl m14TA_ok m14B15_ok (Val.put (k := 8) rfl m14TA_ok m14B16_ok (Val.put (k := 8) rfl m14TA_ok m14B17_ok (Val.put (k := 8) rfl m14TA_ok m14B18_ok (Val.put (k := 8) rfl m14TA_ok m14B19_ok (Val.put (k := 8) rfl m14TA_ok m14B20_ok (Val.put (k := 8) rfl m14TA_ok m14B21_ok (Val.put (k := 8) rfl m14TA_ok m14B22_ok (Val.put (k := 8) rfl m14TA_ok m14B23_ok (Val.put (k := 8) rfl m14TA_ok m14B24_ok (Val.put (k := 8) rfl m14TA_ok m14B25_ok (Val.put (k := 8) rfl m14TA_ok m14B26_ok (Val.put (k := 8) rfl m14TA_ok m14B27_ok (Val.put (k := 8) rfl m14TA_ok m14B28_ok (Val.put (k := 8) rfl m14TA_ok m14B29_ok (Val.put (k := 8) rfl m14TA_ok m14B30_ok (Val.put (k := 8) rfl m14TA_ok m14B31_ok (Val.put (k := 8) rfl m14TA_ok m14B32_ok (Val.put (k := 8) rfl m14TA_ok m14B33_ok (Val.put (k := 8) rfl m14TA_ok m14B34_ok (Val.put (k := 8) rfl m14TA_ok m14B35_ok (Val.put (k := 8) rfl m14TA_ok m14B36_ok (Val.put (k := 8) rfl m14TA_ok m14B37_ok (m14TA_ok.add 9))))))))))))))))))))))))))))))))))))))
theorem m14O : isT1 (runF (callO tb wf m14TB 25 4) wf f__law_many_right [.int 14] Hw.nil) = true := by kernel_rfl
theorem m14 : isT1 (mr 14) = true := by
  obtain ⟨g, e⟩ := isT1_ok m14O
  rw [show mr 14 = _ from (leF (callO_le m14TB_ok 4) wf f__law_many_right [.int 14] Hw.nil).ok e]
  rfl
theorem ring_ok (p : Int) (h0 : 0 ≤ p) (h1 : p < 6) : isT1 (rr (3 + p)) = true := by
  have : p = 0 ∨ p = 1 ∨ p = 2 ∨ p = 3 ∨ p = 4 ∨ p = 5 := by omega
  rcases this with e | e | e | e | e | e <;> subst e
  · exact r3
  · exact r4
  · exact r5
  · exact r6
  · exact r7
  · exact r8
theorem many_ok (p : Int) (h0 : 0 ≤ p) (h1 : p < 14) : isT1 (mr (1 + p)) = true := by
  have : p = 0 ∨ p = 1 ∨ p = 2 ∨ p = 3 ∨ p = 4 ∨ p = 5 ∨ p = 6 ∨ p = 7 ∨ p = 8 ∨ p = 9 ∨ p = 10 ∨ p = 11 ∨ p = 12 ∨ p = 13 := by omega
  rcases this with e | e | e | e | e | e | e | e | e | e | e | e | e | e <;> subst e
  · exact m1
  · exact m2
  · exact m3
  · exact m4
  · exact m5
  · exact m6
  · exact m7
  · exact m8
  · exact m9
  · exact m10
  · exact m11
  · exact m12
  · exact m13
  · exact m14
theorem ring_call (p : Int) (h0 : 0 ≤ p) (h1 : p < 6) (h : Hw) : CC n__law_ring_right [.int (3 + p)] h = .ok (.bl true) h := by
  obtain ⟨g, e⟩ := isT1_ok (ring_ok p h0 h1)
  show graft h (rr (3 + p)) = _
  rw [e]; rfl
theorem many_call (p : Int) (h0 : 0 ≤ p) (h1 : p < 14) (h : Hw) : CC n__law_many_right [.int (1 + p)] h = .ok (.bl true) h := by
  obtain ⟨g, e⟩ := isT1_ok (many_ok p h0 h1)
  show graft h (mr (1 + p)) = _
  rw [e]; rfl
theorem pick_call {h : Hw} {cs : List Int} {l m t : Int} (sh : SH h 0 2 cs l m t) {many : Int} (h1 : 1 ≤ many) (h2 : many < 1073741824) (hw : cs.length < wf) :
    ∃ p h', CC n__law_pick [.ref 0, .int many] h = .ok (.int p) h' ∧ 0 ≤ p ∧ p < many ∧ ∃ cs' l' m' t', SH h' 0 2 cs' l' m' t' ∧ cs'.length ≤ cs.length := by
  have := pick_ok (C := callF tb wf 29) wf sh h1 h2 hw
  exact this
theorem exL_app {C : Nat → List W → Hw → R W} {w : Nat} : ∀ (a b : List St) {env env' : TL.Env} {h h' : Hw}, exL C w a env h = .ok (env', .nx) h' → exL C w (a ++ b) env h = exL C w b env' h'
  | [], b, env, env', h, h', e => by
    simp only [exL] at e
    cases e
    rfl
  | t :: a, b, env, env', h, h', e => by
    simp only [exL] at e
    obtain ⟨p, h1, e1, e2⟩ := bind_ok e
    obtain ⟨env1, f⟩ := p
    cases f with
    | nx =>
      rw [List.cons_append, ex_l e1]
      exact exL_app a b e2
    | rt w => cases e2
    | bk => cases e2
    | ct => cases e2
theorem law_run (ns : List Int) (hl : ns.length ≤ 63) : ∃ g, callF tb wf 31 47 [.frl (ns.map W.int)] Hw.nil = .ok (.bl true) g := by
  have nr : W.noRefs [.frl (ns.map W.int)] = true := by simp only [W.noRefs, W.noRef, noRefs_ints, Bool.and_true]
  have open1 : callF tb wf 31 47 [.frl (ns.map W.int)] Hw.nil = graft Hw.nil (runF CC wf f_law [.frl (ns.map W.int)] Hw.nil) := by
    show (bif W.noRefs [.frl (ns.map W.int)] then graft Hw.nil (runF CC wf f_law [.frl (ns.map W.int)] Hw.nil) else _) = _
    rw [nr]; rfl
  obtain ⟨cs, o1, m, es, hc⟩ := src_graft (C := callF tb wf 29) wf ns (by omega)
  have src : CC n__law_source [.frl (ns.map W.int)] Hw.nil = .ok (.ref 0) (((Hw.nil.new (.dct (dS 2 1 m 0))).new o1).new (.lst (cs.map W.int))) := by
    show (bif W.noRefs [.frl (ns.map W.int)] then graft Hw.nil (runF (callF tb wf 29) wf f__law_source [.frl (ns.map W.int)] Hw.nil) else _) = _
    rw [nr]
    exact es
  rw [open1]
  have run : ∃ g, runF CC wf f_law [.frl (ns.map W.int)] Hw.nil = .ok (.bl true) g := by
    show ∃ g, (exL CC wf d_law (some (.frl (ns.map W.int)) :: List.replicate 8 none) Hw.nil).bind outF = .ok (.bl true) g
    rw [law_is]
    have e1 : evE CC (.call n__law_source [(.var 0)]) (some (.frl (ns.map W.int)) :: List.replicate 8 none) Hw.nil = .ok (.ref 0) (((Hw.nil.new (.dct (dS 2 1 m 0))).new o1).new (.lst (cs.map W.int))) := by
      show (evL CC [(.var 0)] _ Hw.nil).bind _ = _
      rw [ev_l (by intro b z; cases z), ev_var (w := .frl (ns.map W.int)) rfl, ok_bind, ev_l0, ok_bind, ok_bind]
      exact src
    rw [ex_l (exs_set e1)]
    obtain ⟨env, h, em, q0, q2, q1⟩ := chkM_ok (mid_ok (ns.map W.int) (.dct (dS 2 1 m 0)) o1 (.lst (cs.map W.int)))
    have em2 : exL CC wf mid ((some (.frl (ns.map W.int)) :: List.replicate 8 none : TL.Env).set 1 (some (.ref 0))) (((Hw.nil.new (.dct (dS 2 1 m 0))).new o1).new (.lst (cs.map W.int))) = .ok (env, .nx) h := em
    rw [exL_app mid [.ret lastE] em2]
    have sh : SH h 0 2 cs 1 m 0 := ⟨by decide, q0, q2⟩
    have hw : cs.length < wf := by rw [hc]; show ns.length < 100000; omega
    obtain ⟨p, h', ep, p0, p1, cs', l', m', t', sh', hc'⟩ := pick_call sh (many := 6) (by decide) (by decide) hw
    obtain ⟨p', h'', ep', p0', p1', _⟩ := pick_call sh' (many := 14) (by decide) (by decide) (Nat.lt_of_le_of_lt hc' hw)
    have c1 : evE CC (.call n__law_ring_right [(.bin .add (.int 3) (.call n__law_pick [(.var 1), (.int 6)]))]) env h = .ok (.bl true) h' := by
      show (evL CC [(.bin .add (.int 3) (.call n__law_pick [(.var 1), (.int 6)]))] env h).bind _ = _
      rw [ev_l (by intro b z; cases z), ev_bin, ev_int, ok_bind]
      show (((((evL CC [(.var 1), (.int 6)] env h).bind _).bind _).bind _).bind _) = _
      rw [ev_l (by intro b z; cases z), ev_var q1, ok_bind, ev_l (by intro b z; cases z), ev_int, ok_bind, ev_l0, ok_bind, ok_bind, ok_bind, ep, ok_bind]
      show ((R.ok (W.int (3 + p)) h').bind _).bind _ = _
      rw [ok_bind, ev_l0, ok_bind, ok_bind]
      exact ring_call p p0 p1 h'
    have c2 : evE CC (.call n__law_many_right [(.bin .add (.int 1) (.call n__law_pick [(.var 1), (.int 14)]))]) env h' = .ok (.bl true) h'' := by
      show (evL CC [(.bin .add (.int 1) (.call n__law_pick [(.var 1), (.int 14)]))] env h').bind _ = _
      rw [ev_l (by intro b z; cases z), ev_bin, ev_int, ok_bind]
      show (((((evL CC [(.var 1), (.int 14)] env h').bind _).bind _).bind _).bind _) = _
      rw [ev_l (by intro b z; cases z), ev_var q1, ok_bind, ev_l (by intro b z; cases z), ev_int, ok_bind, ev_l0, ok_bind, ok_bind, ok_bind, ep', ok_bind]
      show ((R.ok (W.int (1 + p')) h'').bind _).bind _ = _
      rw [ok_bind, ev_l0, ok_bind, ok_bind]
      exact many_call p' p0' p1' h''
    have el : evE CC lastE env h = .ok (.bl true) h'' := by
      show evAnd CC [(.call n__law_ring_right [(.bin .add (.int 3) (.call n__law_pick [(.var 1), (.int 6)]))]), (.call n__law_many_right [(.bin .add (.int 1) (.call n__law_pick [(.var 1), (.int 14)]))])] env h = _
      simp only [evAnd]
      rw [c1, ok_bind]
      simp only [tru]
      exact c2
    rw [ex_ret (exs_ret el), ok_bind]
    exact ⟨h'', rfl⟩
  obtain ⟨g, e⟩ := run
  rw [e]
  exact ⟨Hw.nil, rfl⟩
end Ik83
open PySem PySem.W PyProof.Rows
theorem bn_of {mg : Str → Option Value} (h1 : mg "len" = none) (h2 : mg "list" = none) (h3 : mg "tuple" = none) (h4 : mg "sum" = none) (h5 : mg "sorted" = none) (h6 : mg "min" = none) (h7 : mg "max" = none) (h8 : mg "int" = none) (h9 : mg "abs" = none) (h10 : mg "isinstance" = none) (h11 : mg "repr" = none) (h12 : mg "range" = none) (h13 : mg "enumerate" = none) (h14 : mg "zip" = none) (h15 : mg "bool" = none) (h16 : mg "str" = none) (h17 : mg "dict" = none) : ∀ y ∈ TL.bnames, mg y = none := by
  intro y hy
  simp only [TL.bnames, List.mem_cons, List.not_mem_nil, or_false] at hy
  rcases hy with e | e | e | e | e | e | e | e | e | e | e | e | e | e | e | e | e <;> (rw [e]; assumption)
set_option maxHeartbeats 0 in
theorem PySem.Challenge.cw_treelattice_k83_piles_by_hand_holds : PySem.Challenge.rw_treelattice_k83_piles_by_hand.Holds := by
  w_on; o_law; k_head; (case hw => w_witness2)
  k_fill
  refine TL.walk_m (l := PySem.Challenge.rw_treelattice_k83_piles_by_hand) (n := 63) (k := 31) (tb := Ik83.tb) (wf := Ik83.wf) (T := Ik83.TT) (il := 47) rfl (by decide) rfl ⟨rfl, by decide, by decide⟩ (fun w h Y => PySem.W.kIn_of Y) rfl ?F Ik83.law_run
  case F =>
    intro w mg h KX G
    refine' ⟨bn_of (PySem.W.mg_none_of KX G ?b1) (PySem.W.mg_none_of KX G ?b2) (PySem.W.mg_none_of KX G ?b3) (PySem.W.mg_none_of KX G ?b4) (PySem.W.mg_none_of KX G ?b5) (PySem.W.mg_none_of KX G ?b6) (PySem.W.mg_none_of KX G ?b7) (PySem.W.mg_none_of KX G ?b8) (PySem.W.mg_none_of KX G ?b9) (PySem.W.mg_none_of KX G ?b10) (PySem.W.mg_none_of KX G ?b11) (PySem.W.mg_none_of KX G ?b12) (PySem.W.mg_none_of KX G ?b13) (PySem.W.mg_none_of KX G ?b14) (PySem.W.mg_none_of KX G ?b15) (PySem.W.mg_none_of KX G ?b16) (PySem.W.mg_none_of KX G ?b17), ?_⟩
    (case b1 => k_is); (case b2 => k_is); (case b3 => k_is); (case b4 => k_is); (case b5 => k_is); (case b6 => k_is); (case b7 => k_is); (case b8 => k_is); (case b9 => k_is); (case b10 => k_is); (case b11 => k_is); (case b12 => k_is); (case b13 => k_is); (case b14 => k_is); (case b15 => k_is); (case b16 => k_is); (case b17 => k_is)
    refine' TL.AllFI.cons (TL.fi_mk KX G (st := Ik83.s_joins) (fn := Ik83.f_joins) rfl rfl rfl Ik83.sc_joins Ik83.mb_joins (fun _ _ _ _ _ _ us hl => match us, hl with | [_], _ => rfl) ?a0 ?l0 ?c0 ?k0) ?_
    (case a0 => k_is); (case l0 => k_is); (case c0 => k_is); (case k0 => k_is)
    refine' TL.AllFI.cons (TL.fi_mk KX G (st := Ik83.s_outs) (fn := Ik83.f_outs) rfl rfl rfl Ik83.sc_outs Ik83.mb_outs (fun _ _ _ _ _ _ us hl => match us, hl with | [_], _ => rfl) ?a1 ?l1 ?c1 ?k1) ?_
    (case a1 => k_is); (case l1 => k_is); (case c1 => k_is); (case k1 => k_is)
    refine' TL.AllFI.cons (TL.fi_mk KX G (st := Ik83.s_stands_for) (fn := Ik83.f_stands_for) rfl rfl rfl Ik83.sc_stands_for Ik83.mb_stands_for (fun _ _ _ _ _ _ us hl => match us, hl with | [_, _, _], _ => rfl) ?a2 ?l2 ?c2 ?k2) ?_
    (case a2 => k_is); (case l2 => k_is); (case c2 => k_is); (case k2 => k_is)
    refine' TL.AllFI.cons (TL.fi_mk KX G (st := Ik83.s_settle) (fn := Ik83.f_settle) rfl rfl rfl Ik83.sc_settle Ik83.mb_settle (fun _ _ _ _ _ _ us hl => match us, hl with | [_, _, _], _ => rfl) ?a3 ?l3 ?c3 ?k3) ?_
    (case a3 => k_is); (case l3 => k_is); (case c3 => k_is); (case k3 => k_is)
    refine' TL.AllFI.cons (TL.fi_mk KX G (st := Ik83.s_settled) (fn := Ik83.f_settled) rfl rfl rfl Ik83.sc_settled Ik83.mb_settled (fun _ _ _ _ _ _ us hl => match us, hl with | [_, _, _], _ => rfl) ?a4 ?l4 ?c4 ?k4) ?_
    (case a4 => k_is); (case l4 => k_is); (case c4 => k_is); (case k4 => k_is)
    refine' TL.AllFI.cons (TL.fi_mk KX G (st := Ik83.s_firings) (fn := Ik83.f_firings) rfl rfl rfl Ik83.sc_firings Ik83.mb_firings (fun _ _ _ _ _ _ us hl => match us, hl with | [_, _, _], _ => rfl) ?a5 ?l5 ?c5 ?k5) ?_
    (case a5 => k_is); (case l5 => k_is); (case c5 => k_is); (case k5 => k_is)
    refine' TL.AllFI.cons (TL.fi_mk KX G (st := Ik83.s_come_home) (fn := Ik83.f_come_home) rfl rfl rfl Ik83.sc_come_home Ik83.mb_come_home (fun _ _ _ _ _ _ us hl => match us, hl with | [_, _, _], _ => rfl) ?a6 ?l6 ?c6 ?k6) ?_
    (case a6 => k_is); (case l6 => k_is); (case c6 => k_is); (case k6 => k_is)
    refine' TL.AllFI.cons (TL.fi_mk KX G (st := Ik83.s_is_steady) (fn := Ik83.f_is_steady) rfl rfl rfl Ik83.sc_is_steady Ik83.mb_is_steady (fun _ _ _ _ _ _ us hl => match us, hl with | [_, _, _], _ => rfl) ?a7 ?l7 ?c7 ?k7) ?_
    (case a7 => k_is); (case l7 => k_is); (case c7 => k_is); (case k7 => k_is)
    refine' TL.AllFI.cons (TL.fi_mk KX G (st := Ik83.s_roads_to) (fn := Ik83.f_roads_to) rfl rfl rfl Ik83.sc_roads_to Ik83.mb_roads_to (fun _ _ _ _ _ _ us hl => match us, hl with | [_, _], _ => rfl) ?a8 ?l8 ?c8 ?k8) ?_
    (case a8 => k_is); (case l8 => k_is); (case c8 => k_is); (case k8 => k_is)
    refine' TL.AllFI.cons (TL.fi_mk KX G (st := Ik83.s_burnt) (fn := Ik83.f_burnt) rfl rfl rfl Ik83.sc_burnt Ik83.mb_burnt (fun _ _ _ _ _ _ us hl => match us, hl with | [_, _, _], _ => rfl) ?a9 ?l9 ?c9 ?k9) ?_
    (case a9 => k_is); (case l9 => k_is); (case c9 => k_is); (case k9 => k_is)
    refine' TL.AllFI.cons (TL.fi_mk KX G (st := Ik83.s_burning) (fn := Ik83.f_burning) rfl rfl rfl Ik83.sc_burning Ik83.mb_burning (fun _ _ _ _ _ _ us hl => match us, hl with | [_, _, _], _ => rfl) ?a10 ?l10 ?c10 ?k10) ?_
    (case a10 => k_is); (case l10 => k_is); (case c10 => k_is); (case k10 => k_is)
    refine' TL.AllFI.cons (TL.fi_mk KX G (st := Ik83.s_comes_again) (fn := Ik83.f_comes_again) rfl rfl rfl Ik83.sc_comes_again Ik83.mb_comes_again (fun _ _ _ _ _ _ us hl => match us, hl with | [_, _, _], _ => rfl) ?a11 ?l11 ?c11 ?k11) ?_
    (case a11 => k_is); (case l11 => k_is); (case c11 => k_is); (case k11 => k_is)
    refine' TL.AllFI.cons (TL.fi_mk KX G (st := Ik83.s_is_least_pile) (fn := Ik83.f_is_least_pile) rfl rfl rfl Ik83.sc_is_least_pile Ik83.mb_is_least_pile (fun _ _ _ _ _ _ us hl => match us, hl with | [_, _, _], _ => rfl) ?a12 ?l12 ?c12 ?k12) ?_
    (case a12 => k_is); (case l12 => k_is); (case c12 => k_is); (case k12 => k_is)
    refine' TL.AllFI.cons (TL.fi_mk KX G (st := Ik83.s_is_crossing) (fn := Ik83.f_is_crossing) rfl rfl rfl Ik83.sc_is_crossing Ik83.mb_is_crossing (fun _ _ _ _ _ _ us hl => match us, hl with | [_, _], _ => rfl) ?a13 ?l13 ?c13 ?k13) ?_
    (case a13 => k_is); (case l13 => k_is); (case c13 => k_is); (case k13 => k_is)
    refine' TL.AllFI.cons (TL.fi_mk KX G (st := Ik83.s_is_burning_form) (fn := Ik83.f_is_burning_form) rfl rfl rfl Ik83.sc_is_burning_form Ik83.mb_is_burning_form (fun _ _ _ _ _ _ us hl => match us, hl with | [_, _, _], _ => rfl) ?a14 ?l14 ?c14 ?k14) ?_
    (case a14 => k_is); (case l14 => k_is); (case c14 => k_is); (case k14 => k_is)
    refine' TL.AllFI.cons (TL.fi_mk KX G (st := Ik83.s_judge_burning) (fn := Ik83.f_judge_burning) rfl rfl rfl Ik83.sc_judge_burning Ik83.mb_judge_burning (fun _ _ _ _ _ _ us hl => match us, hl with | [_, _, _, _], _ => rfl) ?a15 ?l15 ?c15 ?k15) ?_
    (case a15 => k_is); (case l15 => k_is); (case c15 => k_is); (case k15 => k_is)
    refine' TL.AllFI.cons (TL.fi_mk KX G (st := Ik83.s_begun) (fn := Ik83.f_begun) rfl rfl rfl Ik83.sc_begun Ik83.mb_begun (fun _ _ _ _ _ _ us hl => match us, hl with | [_], _ => rfl) ?a16 ?l16 ?c16 ?k16) ?_
    (case a16 => k_is); (case l16 => k_is); (case c16 => k_is); (case k16 => k_is)
    refine' TL.AllFI.cons (TL.fi_mk KX G (st := Ik83.s_ends_at) (fn := Ik83.f_ends_at) rfl rfl rfl Ik83.sc_ends_at Ik83.mb_ends_at (fun _ _ _ _ _ _ us hl => match us, hl with | [_, _], _ => rfl) ?a17 ?l17 ?c17 ?k17) ?_
    (case a17 => k_is); (case l17 => k_is); (case c17 => k_is); (case k17 => k_is)
    refine' TL.AllFI.cons (TL.fi_mk KX G (st := Ik83.s_is_integer) (fn := Ik83.f_is_integer) rfl rfl rfl Ik83.sc_is_integer Ik83.mb_is_integer (fun _ _ _ _ _ _ us hl => match us, hl with | [_], _ => rfl) ?a18 ?l18 ?c18 ?k18) ?_
    (case a18 => k_is); (case l18 => k_is); (case c18 => k_is); (case k18 => k_is)
    refine' TL.AllFI.cons (TL.fi_mk KX G (st := Ik83.s_is_below) (fn := Ik83.f_is_below) rfl rfl rfl Ik83.sc_is_below Ik83.mb_is_below (fun _ _ _ _ _ _ us hl => match us, hl with | [_, _], _ => rfl) ?a19 ?l19 ?c19 ?k19) ?_
    (case a19 => k_is); (case l19 => k_is); (case c19 => k_is); (case k19 => k_is)
    refine' TL.AllFI.cons (TL.fi_mk KX G (st := Ik83.s_is_tuple) (fn := Ik83.f_is_tuple) rfl rfl rfl Ik83.sc_is_tuple Ik83.mb_is_tuple (fun _ _ _ _ _ _ us hl => match us, hl with | [_, _], _ => rfl) ?a20 ?l20 ?c20 ?k20) ?_
    (case a20 => k_is); (case l20 => k_is); (case c20 => k_is); (case k20 => k_is)
    refine' TL.AllFI.cons (TL.fi_mk KX G (st := Ik83.s_wrong_tree) (fn := Ik83.f_wrong_tree) rfl rfl rfl Ik83.sc_wrong_tree Ik83.mb_wrong_tree (fun _ _ _ _ _ _ us hl => match us, hl with | [_, _], _ => rfl) ?a21 ?l21 ?c21 ?k21) ?_
    (case a21 => k_is); (case l21 => k_is); (case c21 => k_is); (case k21 => k_is)
    refine' TL.AllFI.cons (TL.fi_mk KX G (st := Ik83.s_is_tree) (fn := Ik83.f_is_tree) rfl rfl rfl Ik83.sc_is_tree Ik83.mb_is_tree (fun _ _ _ _ _ _ us hl => match us, hl with | [_, _], _ => rfl) ?a22 ?l22 ?c22 ?k22) ?_
    (case a22 => k_is); (case l22 => k_is); (case c22 => k_is); (case k22 => k_is)
    refine' TL.AllFI.cons (TL.fi_mk KX G (st := Ik83.s_joined_pieces) (fn := Ik83.f_joined_pieces) rfl rfl rfl Ik83.sc_joined_pieces Ik83.mb_joined_pieces (fun _ _ _ _ _ _ us hl => match us, hl with | [_, _, _], _ => rfl) ?a23 ?l23 ?c23 ?k23) ?_
    (case a23 => k_is); (case l23 => k_is); (case c23 => k_is); (case k23 => k_is)
    refine' TL.AllFI.cons (TL.fi_mk KX G (st := Ik83.s_all_trees) (fn := Ik83.f_all_trees) rfl rfl rfl Ik83.sc_all_trees Ik83.mb_all_trees (fun _ _ _ _ _ _ us hl => match us, hl with | [_], _ => rfl) ?a24 ?l24 ?c24 ?k24) ?_
    (case a24 => k_is); (case l24 => k_is); (case c24 => k_is); (case k24 => k_is)
    refine' TL.AllFI.cons (TL.fi_mk KX G (st := Ik83.s_tries_by_numbers) (fn := Ik83.f_tries_by_numbers) rfl rfl rfl Ik83.sc_tries_by_numbers Ik83.mb_tries_by_numbers (fun _ _ _ _ _ _ us hl => match us, hl with | [_, _, _, _], _ => rfl) ?a25 ?l25 ?c25 ?k25) ?_
    (case a25 => k_is); (case l25 => k_is); (case c25 => k_is); (case k25 => k_is)
    refine' TL.AllFI.cons (TL.fi_mk KX G (st := Ik83.s_is_lighting) (fn := Ik83.f_is_lighting) rfl rfl rfl Ik83.sc_is_lighting Ik83.mb_is_lighting (fun _ _ _ _ _ _ us hl => match us, hl with | [_, _, _, _], _ => rfl) ?a26 ?l26 ?c26 ?k26) ?_
    (case a26 => k_is); (case l26 => k_is); (case c26 => k_is); (case k26 => k_is)
    refine' TL.AllFI.cons (TL.fi_mk KX G (st := Ik83.s_ends_behind) (fn := Ik83.f_ends_behind) rfl rfl rfl Ik83.sc_ends_behind Ik83.mb_ends_behind (fun _ _ _ _ _ _ us hl => match us, hl with | [_, _], _ => rfl) ?a27 ?l27 ?c27 ?k27) ?_
    (case a27 => k_is); (case l27 => k_is); (case c27 => k_is); (case k27 => k_is)
    refine' TL.AllFI.cons (TL.fi_mk KX G (st := Ik83.s_tries_by_turns) (fn := Ik83.f_tries_by_turns) rfl rfl rfl Ik83.sc_tries_by_turns Ik83.mb_tries_by_turns (fun _ _ _ _ _ _ us hl => match us, hl with | [_, _, _, _], _ => rfl) ?a28 ?l28 ?c28 ?k28) ?_
    (case a28 => k_is); (case l28 => k_is); (case c28 => k_is); (case k28 => k_is)
    refine' TL.AllFI.cons (TL.fi_mk KX G (st := Ik83.s_tries) (fn := Ik83.f_tries) rfl rfl rfl Ik83.sc_tries Ik83.mb_tries (fun _ _ _ _ _ _ us hl => match us, hl with | [_, _, _, _, _], _ => rfl) ?a29 ?l29 ?c29 ?k29) ?_
    (case a29 => k_is); (case l29 => k_is); (case c29 => k_is); (case k29 => k_is)
    refine' TL.AllFI.cons (TL.fi_mk KX G (st := Ik83.s_tries_of_pile) (fn := Ik83.f_tries_of_pile) rfl rfl rfl Ik83.sc_tries_of_pile Ik83.mb_tries_of_pile (fun _ _ _ _ _ _ us hl => match us, hl with | [_, _, _, _], _ => rfl) ?a30 ?l30 ?c30 ?k30) ?_
    (case a30 => k_is); (case l30 => k_is); (case c30 => k_is); (case k30 => k_is)
    refine' TL.AllFI.cons (TL.fi_mk KX G (st := Ik83.s_tree_of_pile) (fn := Ik83.f_tree_of_pile) rfl rfl rfl Ik83.sc_tree_of_pile Ik83.mb_tree_of_pile (fun _ _ _ _ _ _ us hl => match us, hl with | [_, _, _, _], _ => rfl) ?a31 ?l31 ?c31 ?k31) ?_
    (case a31 => k_is); (case l31 => k_is); (case c31 => k_is); (case k31 => k_is)
    refine' TL.AllFI.cons (TL.fi_mk KX G (st := Ik83.s_pile_of_tree) (fn := Ik83.f_pile_of_tree) rfl rfl rfl Ik83.sc_pile_of_tree Ik83.mb_pile_of_tree (fun _ _ _ _ _ _ us hl => match us, hl with | [_, _, _, _], _ => rfl) ?a32 ?l32 ?c32 ?k32) ?_
    (case a32 => k_is); (case l32 => k_is); (case c32 => k_is); (case k32 => k_is)
    refine' TL.AllFI.cons (TL.fi_mk KX G (st := Ik83.s_level) (fn := Ik83.f_level) rfl rfl rfl Ik83.sc_level Ik83.mb_level (fun _ _ _ _ _ _ us hl => match us, hl with | [_, _, _], _ => rfl) ?a33 ?l33 ?c33 ?k33) ?_
    (case a33 => k_is); (case l33 => k_is); (case c33 => k_is); (case k33 => k_is)
    refine' TL.AllFI.cons (TL.fi_mk KX G (st := Ik83.s_are_joined) (fn := Ik83.f_are_joined) rfl rfl rfl Ik83.sc_are_joined Ik83.mb_are_joined (fun _ _ _ _ _ _ us hl => match us, hl with | [_, _, _, _], _ => rfl) ?a34 ?l34 ?c34 ?k34) ?_
    (case a34 => k_is); (case l34 => k_is); (case c34 => k_is); (case k34 => k_is)
    refine' TL.AllFI.cons (TL.fi_mk KX G (st := Ik83.s_outer_active) (fn := Ik83.f_outer_active) rfl rfl rfl Ik83.sc_outer_active Ik83.mb_outer_active (fun _ _ _ _ _ _ us hl => match us, hl with | [_, _], _ => rfl) ?a35 ?l35 ?c35 ?k35) ?_
    (case a35 => k_is); (case l35 => k_is); (case c35 => k_is); (case k35 => k_is)
    refine' TL.AllFI.cons (TL.fi_mk KX G (st := Ik83.s_levels) (fn := Ik83.f_levels) rfl rfl rfl Ik83.sc_levels Ik83.mb_levels (fun _ _ _ _ _ _ us hl => match us, hl with | [_], _ => rfl) ?a36 ?l36 ?c36 ?k36) ?_
    (case a36 => k_is); (case l36 => k_is); (case c36 => k_is); (case k36 => k_is)
    refine' TL.AllFI.cons (TL.fi_mk KX G (st := Ik83.s_recurrent_of) (fn := Ik83.f_recurrent_of) rfl rfl rfl Ik83.sc_recurrent_of Ik83.mb_recurrent_of (fun _ _ _ _ _ _ us hl => match us, hl with | [_, _, _], _ => rfl) ?a37 ?l37 ?c37 ?k37) ?_
    (case a37 => k_is); (case l37 => k_is); (case c37 => k_is); (case k37 => k_is)
    refine' TL.AllFI.cons (TL.fi_mk KX G (st := Ik83.s_idle_pile) (fn := Ik83.f_idle_pile) rfl rfl rfl Ik83.sc_idle_pile Ik83.mb_idle_pile (fun _ _ _ _ _ _ us hl => match us, hl with | [_, _], _ => rfl) ?a38 ?l38 ?c38 ?k38) ?_
    (case a38 => k_is); (case l38 => k_is); (case c38 => k_is); (case k38 => k_is)
    refine' TL.AllFI.cons (TL.fi_mk KX G (st := Ik83.s_need_again) (fn := Ik83.f_need_again) rfl rfl rfl Ik83.sc_need_again Ik83.mb_need_again (fun _ _ _ _ _ _ us hl => match us, hl with | [_, _, _], _ => rfl) ?a39 ?l39 ?c39 ?k39) ?_
    (case a39 => k_is); (case l39 => k_is); (case c39 => k_is); (case k39 => k_is)
    refine' TL.AllFI.cons (TL.fi_mk KX G (st := Ik83.s_put_together) (fn := Ik83.f_put_together) rfl rfl rfl Ik83.sc_put_together Ik83.mb_put_together (fun _ _ _ _ _ _ us hl => match us, hl with | [_, _, _, _], _ => rfl) ?a40 ?l40 ?c40 ?k40) ?_
    (case a40 => k_is); (case l40 => k_is); (case c40 => k_is); (case k40 => k_is)
    refine' TL.AllFI.cons (TL.fi_mk KX G (st := Ik83.s_opposite) (fn := Ik83.f_opposite) rfl rfl rfl Ik83.sc_opposite Ik83.mb_opposite (fun _ _ _ _ _ _ us hl => match us, hl with | [_, _, _], _ => rfl) ?a41 ?l41 ?c41 ?k41) ?_
    (case a41 => k_is); (case l41 => k_is); (case c41 => k_is); (case k41 => k_is)
    refine' TL.AllFI.cons (TL.fi_mk KX G (st := Ik83.s_recurrent_list) (fn := Ik83.f_recurrent_list) rfl rfl rfl Ik83.sc_recurrent_list Ik83.mb_recurrent_list (fun _ _ _ _ _ _ us hl => match us, hl with | [_, _], _ => rfl) ?a42 ?l42 ?c42 ?k42) ?_
    (case a42 => k_is); (case l42 => k_is); (case c42 => k_is); (case k42 => k_is)
    refine' TL.AllFI.cons (TL.fi_mk KX G (st := Ik83.s__law_source) (fn := Ik83.f__law_source) rfl rfl rfl Ik83.sc__law_source Ik83.mb__law_source (fun _ _ _ _ _ _ us hl => match us, hl with | [_], _ => rfl) ?a43 ?l43 ?c43 ?k43) ?_
    (case a43 => k_is); (case l43 => k_is); (case c43 => k_is); (case k43 => k_is)
    refine' TL.AllFI.cons (TL.fi_mk KX G (st := Ik83.s__law_pick) (fn := Ik83.f__law_pick) rfl rfl rfl Ik83.sc__law_pick Ik83.mb__law_pick (fun _ _ _ _ _ _ us hl => match us, hl with | [_, _], _ => rfl) ?a44 ?l44 ?c44 ?k44) ?_
    (case a44 => k_is); (case l44 => k_is); (case c44 => k_is); (case k44 => k_is)
    refine' TL.AllFI.cons (TL.fi_mk KX G (st := Ik83.s__law_ring_right) (fn := Ik83.f__law_ring_right) rfl rfl rfl Ik83.sc__law_ring_right Ik83.mb__law_ring_right (fun _ _ _ _ _ _ us hl => match us, hl with | [_], _ => rfl) ?a45 ?l45 ?c45 ?k45) ?_
    (case a45 => k_is); (case l45 => k_is); (case c45 => k_is); (case k45 => k_is)
    refine' TL.AllFI.cons (TL.fi_mk KX G (st := Ik83.s__law_many_right) (fn := Ik83.f__law_many_right) rfl rfl rfl Ik83.sc__law_many_right Ik83.mb__law_many_right (fun _ _ _ _ _ _ us hl => match us, hl with | [_], _ => rfl) ?a46 ?l46 ?c46 ?k46) ?_
    (case a46 => k_is); (case l46 => k_is); (case c46 => k_is); (case k46 => k_is)
    refine' TL.AllFI.cons (TL.fi_mk KX G (st := Ik83.s_law) (fn := Ik83.f_law) rfl rfl rfl Ik83.sc_law Ik83.mb_law (fun _ _ _ _ _ _ us hl => match us, hl with | [_], _ => rfl) ?a47 ?l47 ?c47 ?k47) ?_
    (case a47 => k_is); (case l47 => k_is); (case c47 => k_is); (case k47 => k_is)
    exact trivial
