import PyProof.Rows.All
import Wide.All
import OpenK.AllK
import Wide.FinOn
import HandS.ForMost
import KE.SortData
import KE.DataMinMax
import HandS.TupAny
import HandS.TupMul
import HandS.ForExc
import HandS.CallSlots
import HandS.NoneIn
import HandS.Flow
import HandS.Style
import HandS.Deep
import HandS.Zip
import HandS.IsInst
import HandS.Wide
import HandS.More
import HandS.Walk
import HandS.Lambda
import HandS.Nested
import KE.GoesEnum
import KE.KTupSum
import KE.KIndexOf
import HandS.WordsDict
import HandS.Star
import HandS.Conv
import PyProof.DictUpdate
import HandS.SetFor
import HandS.Strs
import HandS.ExcOwn
import HandS.TryOnly
import KE.KNestM
import HandS.Ends
import HandS.Words
import HandS.WordsExc
import PySem.Challenge.RW_treelattice_k80_whole_trees_by_numbers
set_option linter.all false
set_option maxRecDepth 100000
set_option Elab.async false
/-! A small machine of my own for the pure part of Python that the program is written in: values, heap, expressions, statements. -/
namespace TL
open PySem

inductive W where
  | non | bl (b : Bool) | int (i : Int) | str (s : Str) | tup (xs : List W) | frl (xs : List W) | ref (n : Nat)
  /-- the closure that was handed in, with what it captured: never but in its slot -/
  | clo (ws : List W)
  deriving Inhabited

mutual
def W.beq : W → W → Bool
  | .non, .non => true
  | .bl a, .bl b => a == b
  | .int a, .int b => a == b
  | .str a, .str b => decide (a = b)
  | .tup xs, .tup ys => W.beqs xs ys
  | .ref a, .ref b => Nat.beq a b
  | _, _ => false
def W.beqs : List W → List W → Bool
  | [], [] => true
  | x :: xs, y :: ys => x.beq y && W.beqs xs ys
  | _, _ => false
end

inductive HW where
  | lst (xs : List W)
  | dct (kvs : List (L2.Key × W))

inductive Tr where
  | nil
  | node (l : Tr) (v : Option HW) (r : Tr)
def Tr.get : Tr → Nat → Option HW
  | .nil, _ => none
  | .node l v r, n => bif n.beq 0 then v else bif (n % 2).beq 1 then l.get (n / 2) else r.get (n / 2 - 1)
def Tr.set : Nat → Tr → Nat → HW → Tr
  | 0, t, _, _ => t
  | f + 1, .nil, n, o => bif n.beq 0 then .node .nil (some o) .nil else bif (n % 2).beq 1 then .node (Tr.set f .nil (n / 2) o) none .nil else .node .nil none (Tr.set f .nil (n / 2 - 1) o)
  | f + 1, .node l v r, n, o => bif n.beq 0 then .node l (some o) r else bif (n % 2).beq 1 then .node (Tr.set f l (n / 2) o) v r else .node l v (Tr.set f r (n / 2 - 1) o)

structure Hw where
  n : Nat
  t : Tr
def Hw.get (h : Hw) (i : Nat) : Option HW := h.t.get i
def Hw.set (h : Hw) (i : Nat) (o : HW) : Hw := ⟨h.n, Tr.set (i + 1) h.t i o⟩
def Hw.new (h : Hw) (o : HW) : Hw := ⟨h.n + 1, Tr.set (h.n + 1) h.t h.n o⟩
def Hw.nil : Hw := ⟨0, .nil⟩

inductive R (α : Type) where
  | ok (a : α) (h : Hw)
  | exc (c : Nat) (d : List W) (h : Hw)
  | err
def R.bind {α β : Type} (x : R α) (f : α → Hw → R β) : R β := match x with
  | .ok a h => f a h
  | .exc c d h => .exc c d h
  | .err => .err

inductive Bop where | add | sub | mul | fdiv | mod | pow
inductive Cop where | eq | ne | lt | le | gt | ge | isin | notin | iss | isnt
inductive ItK where | seq | rng1 | rng2 | enm | zip
inductive Bi where | len | list | tuple | sum | sorted | min1 | max2 | min2 | max1 | int | abs | isinst (t : Nat) | repr | rev | lrng1 | lrng2
inductive Me where | append | pop | index | insert | extend
inductive Tg where
  | nm (i : Nat)
  | tp (ts : List Tg)

inductive Ex where
  | var (i : Nat) | non | bl (b : Bool) | int (i : Int) | str (s : Str)
  | bin (o : Bop) (a b : Ex) | neg (a : Ex)
  | cmp (o : Cop) (a b : Ex) | chn (o p : Cop) (a b c : Ex)
  | and (es : List Ex) | or (es : List Ex) | not (a : Ex) | ife (c a b : Ex)
  | tup (es : List Ex) | star (a : Ex)
  | lst (es : List Ex) | dct (es : List Ex)
  | idx (a i : Ex) | slc (a : Ex) (lo hi : Option Ex)
  | call (f : Nat) (es : List Ex)
  | bi (b : Bi) (es : List Ex)
  | me (m : Me) (o : Ex) (es : List Ex)
  | comp (elt : Ex) (tg : Tg) (k : ItK) (its : List Ex) (ifs : List Ex) (own : List Nat)
  /-- d.update(e); sorted(set(a)) -/
  | upd (d e : Ex) | sset (a : Ex)
  /-- the closure that was handed in is called -/
  | callv (i : Nat) (es : List Ex)
  /-- f(.., lambda p1 .. pn: body), with what it captures -/
  | callC (f : Nat) (es : List Ex) (np : Nat) (caps : List Nat) (body : Ex)
  /-- f(.., g(..)), where g hands back a closure -/
  | callM (f : Nat) (es : List Ex) (g : Nat) (es2 : List Ex)

inductive St where
  | set (i : Nat) (e : Ex)
  | setT (tg : Tg) (e : Ex)
  | setI (a i e : Ex)
  | aug (o : Bop) (i : Nat) (e : Ex)
  | augI (o : Bop) (a i e : Ex)
  /-- a[i], b[j] = e -/
  | setII (a i b j e : Ex)
  | ex (e : Ex)
  | ite (c : Ex) (a b : List St)
  | loop (tg : Tg) (k : ItK) (its : List Ex) (body : List St)
  | whl (c : Ex) (body : List St)
  | ret (e : Ex) | retN | rse (c : Nat) (es : List Ex) | cont | brk | pass
  /-- try: e (or: return e); except one of cs: return r -/
  | tryR (e : Ex) (isRet : Bool) (cs : List Nat) (r : W)

inductive Fl where | nx | rt (w : W) | bk | ct

abbrev Env := List (Option W)

/-! data -/
def optAll {α : Type} : List (Option α) → Option (List α)
  | [] => some []
  | none :: _ => none
  | some a :: r => match optAll r with
    | some as => some (a :: as)
    | none => none
def toD : Nat → Hw → W → Option PyData
  | 0, _, _ => none
  | _ + 1, _, .non => some .none
  | _ + 1, _, .bl b => some (.bool b)
  | _ + 1, _, .int i => some (.int i)
  | _ + 1, _, .str s => some (.str s)
  | f + 1, h, .tup xs => match optAll (xs.map (toD f h)) with
    | some ds => some (.tuple ds)
    | none => none
  | _ + 1, _, .frl _ => none
  | _ + 1, _, .clo _ => none
  | f + 1, h, .ref n => match h.get n with
    | some (.lst xs) => (match optAll (xs.map (toD f h)) with
      | some ds => some (.list ds)
      | none => none)
    | _ => none
def dat (h : Hw) (w : W) : Option PyData := toD 40 h w
def eqW (h : Hw) (x y : W) : Option Bool := match x, y with
  | .int i, .int j => some (i == j)
  | _, _ => match dat h x, dat h y with
    | some d, some e => bif SeqAt.shaped d && SeqAt.shaped e then some (PyData.eqv d e) else none
    | _, _ => none
def keyOf : W → Option L2.Key
  | .int i => some (.inl i)
  | .str s => some (.inr s)
  | _ => none
def kFind (kvs : List (L2.Key × W)) (k : L2.Key) : Option W := match kvs with
  | [] => none
  | (j, w) :: r => if j = k then some w else kFind r k
def kPut (kvs : List (L2.Key × W)) (k : L2.Key) (v : W) : List (L2.Key × W) :=
  if (kvs.any fun p => decide (p.1 = k)) = true then kvs.map (fun p => if p.1 = k then (p.1, v) else p) else kvs ++ [(k, v)]
def tru (h : Hw) : W → Option Bool
  | .non => some false
  | .bl b => some b
  | .int i => some (i != 0)
  | .str s => bif Nat.ble s.length 16777216 then some ((s.length : Int) != 0) else none
  | .tup xs => some (!xs.isEmpty)
  | .frl xs => some (!xs.isEmpty)
  | .ref n => (match h.get n with
    | some (.lst xs) => some (!xs.isEmpty)
    | some (.dct kvs) => some (!kvs.isEmpty)
    | none => none)
  | .clo _ => none
def seqOf (h : Hw) : W → Option (List W)
  | .tup xs => some xs
  | .frl xs => some xs
  | .ref n => match h.get n with
    | some (.lst xs) => some xs
    | _ => none
  | _ => none
/-- what must stay while a sequence is walked -/
def grdOf (h : Hw) : W → List (Nat × List W)
  | .ref n => match h.get n with
    | some (.lst xs) => [(n, xs)]
    | _ => []
  | _ => []
def okG (gs : List (Nat × List W)) (h : Hw) : Bool := gs.all fun p => match h.get p.1 with
  | some (.lst xs) => W.beqs p.2 xs
  | _ => false
def szOk (n : Nat) : Bool := Nat.ble n 16777216
def small (i : Int) : Bool := Nat.ble i.natAbs 18446744073709551615
def intsOf : List W → Option (List Int)
  | [] => some []
  | .int i :: r => match intsOf r with
    | some is => some (i :: is)
    | none => none
  | _ => none
def cutW (xs : List W) (lo hi : Option Int) : List W := (xs.drop (HT.sIx xs.length 0 lo)).take (HT.sIx xs.length xs.length hi - HT.sIx xs.length 0 lo)

/-! a sort by insertion -/
section
variable {α : Type} (le : α → α → Bool)
def insS (x : α) : List α → List α
  | [] => [x]
  | y :: r => bif le x y then x :: y :: r else y :: insS x r
def isort : List α → List α
  | [] => []
  | x :: r => insS le x (isort r)
end
def shp (d : PyData) : Bool := match d with
  | .none => false
  | .tuple _ => false
  | _ => true
def tupNE (d : PyData) : Bool := match d with
  | .tuple (_ :: _) => true
  | _ => false
/-- the items can be sorted -/
def sortOk (ds : List PyData) : Bool := (ds.all fun d => ds.all fun e => PySem.W.alike d e) && (ds.all tupNE || ds.all shp) && ds.all fun d => Nat.ble d.depth 60

def binOp (o : Bop) (x y : W) (h : Hw) : R W := match o, x, y with
  | .add, .int i, .int j => .ok (.int (i + j)) h
  | .add, .tup xs, .tup ys => bif szOk (xs.length + ys.length) then .ok (.tup (xs ++ ys)) h else .err
  | .add, .str a, .str b => bif szOk (a.length + b.length) then .ok (.str (a ++ b)) h else .err
  | .add, .ref a, .ref b => (match h.get a, h.get b with
    | some (.lst xs), some (.lst ys) => bif szOk (xs.length + ys.length) then .ok (.ref h.n) (h.new (.lst (xs ++ ys))) else .err
    | _, _ => .err)
  | .sub, .int i, .int j => .ok (.int (i - j)) h
  | .mul, .int i, .int j => bif small i || small j then .ok (.int (i * j)) h else .err
  | .mul, .tup xs, .int j => if j = 1 then .ok (.tup xs) h else if -1000 ≤ j ∧ j ≤ 0 ∧ (!xs.isEmpty) = true then .ok (.tup []) h else bif (!xs.isEmpty) && decide (2 ≤ j) && decide (j ≤ 1000) && Nat.ble xs.length 1000 then .ok (.tup (List.replicate j.toNat xs).flatten) h else .err
  | .mul, .ref a, .int j => (match h.get a with
    | some (.lst xs) => bif Nat.ble j.natAbs 4611686018427387904 && szOk (xs.length * j.toNat) then .ok (.ref h.n) (h.new (.lst (List.replicate j.toNat xs).flatten)) else .err
    | _ => .err)
  | .fdiv, .int i, .int j => bif (j == 0) || Nat.ble 1073741824 j.natAbs then .err else .ok (.int (i.fdiv j)) h
  | .mod, .int i, .int j => bif j == 0 then .err else .ok (.int (i.fmod j)) h
  | .pow, .int i, .int j => bif decide (0 ≤ j) && decide (j ≤ 1000000) && small i then .ok (.int (i ^ j.toNat)) h else .err
  | _, _, _ => .err

def flatW : W → Option L2.V
  | .non => some .non
  | .bl b => some (.bl b)
  | .int i => some (.int i)
  | .str s => some (.str s)
  | _ => none
def augOp (o : Bop) (x y : W) (h : Hw) : R W := match o, x, y with
  | .fdiv, .int i, .int j => bif decide (0 < j) then binOp .fdiv (.int i) (.int j) h else .err
  | .mod, .int i, .int j => bif decide (0 < j) then binOp .mod (.int i) (.int j) h else .err
  | .add, .int i, .int j => .ok (.int (i + j)) h
  | .sub, .int i, .int j => .ok (.int (i - j)) h
  | .mul, .int i, .int j => binOp .mul (.int i) (.int j) h
  | _, _, _ => .err
def inOp (x y : W) (h : Hw) : Option Bool := match y with
  | .ref n => (match h.get n with
    | some (.dct kvs) => (match keyOf x with
      | some k => some (kFind kvs k).isSome
      | none => none)
    | some (.lst xs) => (match dat h x, optAll (xs.map (toD 39 h)) with
      | some d, some ds => bif SeqAt.shaped d && SeqAt.shaped (.list ds) then some (ds.any fun z => PyData.eqv z d) else none
      | _, _ => none)
    | none => none)
  | .tup xs => (match flatW x, optAll (xs.map flatW) with
    | some v, some vs => some (L2.inV v vs)
    | _, _ => none)
  | _ => none
def ordOp (o : Cop) (i j : Int) : Bool := match o with
  | .lt => decide (i < j)
  | .le => decide (i ≤ j)
  | .gt => decide (j < i)
  | .ge => decide (j ≤ i)
  | _ => false
def ordW (o : Cop) (x y : W) : Option Bool := match x, y with
  | .int i, .int j => some (ordOp o i j)
  | _, _ => none
def isNon : W → Option Bool
  | .non => some true
  | .bl _ => some false
  | .int _ => some false
  | .str _ => some false
  | .tup _ => some false
  | .frl _ => some false
  | .ref _ => some false
  | .clo _ => none
def notO : Option Bool → Option Bool
  | some b => some (!b)
  | none => none
def cmpOp (o : Cop) (x y : W) (h : Hw) : Option Bool := match o with
  | .eq => eqW h x y
  | .ne => notO (eqW h x y)
  | .iss => (match y with
    | .non => isNon x
    | _ => none)
  | .isnt => (match y with
    | .non => notO (isNon x)
    | _ => none)
  | .isin => inOp x y h
  | .notin => notO (inOp x y h)
  | o => ordW o x y

def isT (t : Nat) (h : Hw) (w : W) : Option Bool := match w with
  | .non => some false
  | .bl _ => some (Nat.beq t 0 || Nat.beq t 1)
  | .int _ => some (Nat.beq t 0)
  | .str _ => some (Nat.beq t 3)
  | .tup _ => some (Nat.beq t 2)
  | .frl _ => some (Nat.beq t 4)
  | .ref n => (match h.get n with
    | some (.lst _) => some (Nat.beq t 4)
    | some (.dct _) => some (Nat.beq t 5)
    | none => none)
  | .clo _ => none

def firstD (d : PyData) : List PyData → Nat → Option Nat
  | [], _ => none
  | e :: r, k => bif PyData.eqv e d then some k else firstD d r (k + 1)

/-- the items in order, each once -/
def insD (x : Int) : List Int → List Int
  | [] => [x]
  | y :: r => bif decide (x < y) then x :: y :: r else bif decide (x = y) then y :: r else y :: insD x r
def sdup : List Int → List Int
  | [] => []
  | x :: r => insD x (sdup r)
def rngs (lo : Int) : Nat → List W
  | 0 => []
  | n + 1 => .int lo :: rngs (lo + 1) n
def enums (k : Nat) : List W → List W
  | [] => []
  | x :: r => .tup [.int k, x] :: enums (k + 1) r
def zip2 : List W → List W → List W
  | x :: xs, y :: ys => .tup [x, y] :: zip2 xs ys
  | _, _ => []
def rngOk (i : Int) : Bool := Nat.ble i.natAbs 2305843009213693952
/-- the items that a loop walks, and what must stay -/
def iterOf (k : ItK) (ws : List W) (h : Hw) : Option (List W × List (Nat × List W)) := match k, ws with
  | .seq, [w] => (match seqOf h w with
    | some xs => some (xs, grdOf h w)
    | none => none)
  | .rng1, [.int j] => bif rngOk j then some (rngs 0 j.toNat, []) else none
  | .rng2, [.int i, .int j] => bif rngOk i && rngOk j then some (rngs i (j - i).toNat, []) else none
  | .enm, [w] => (match seqOf h w with
    | some xs => some (enums 0 xs, grdOf h w)
    | none => none)
  | .zip, [a, b] => (match seqOf h a, seqOf h b with
    | some xs, some ys => some (zip2 xs ys, grdOf h a ++ grdOf h b)
    | _, _ => none)
  | _, _ => none

def biOp (b : Bi) (ws : List W) (h : Hw) : R W := match b, ws with
  | .len, [.str s] => bif szOk s.length then .ok (.int s.length) h else .err
  | .len, [.ref n] => (match h.get n with
    | some (.lst xs) => .ok (.int xs.length) h
    | some (.dct kvs) => .ok (.int kvs.length) h
    | none => .err)
  | .len, [.tup xs] => .ok (.int xs.length) h
  | .len, [.frl xs] => .ok (.int xs.length) h
  | .list, [w] => (match seqOf h w with
    | some xs => .ok (.ref h.n) (h.new (.lst xs))
    | none => .err)
  | .tuple, [w] => (match seqOf h w with
    | some xs => .ok (.tup xs) h
    | none => .err)
  | .sum, [w] => (match seqOf h w with
    | some xs => (match intsOf xs with
      | some is => .ok (.int is.sum) h
      | none => .err)
    | none => .err)
  | .sorted, [w] => (match seqOf h w with
    | some xs => (match optAll (xs.map (dat h)) with
      | some ds => bif sortOk ds then .ok (.ref h.n) (h.new (.lst ((isort (PySem.W.dataLe false Prod.snd) (xs.zip ds)).map Prod.fst))) else .err
      | none => .err)
    | none => .err)
  | .min1, [w] => (match seqOf h w with
    | some xs => (match intsOf xs with
      | some (n :: ns) => .ok (.int (ns.foldl min n)) h
      | _ => .err)
    | none => .err)
  | .max1, [w] => (match seqOf h w with
    | some xs => (match intsOf xs with
      | some (n :: ns) => .ok (.int (ns.foldl max n)) h
      | _ => .err)
    | none => .err)
  | .max2, [.int i, .int j] => .ok (.int (if j > i then j else i)) h
  | .min2, [.int i, .int j] => .ok (.int (if j < i then j else i)) h
  | .int, [.int i] => .ok (.int i) h
  | .int, [.bl b] => .ok (.int (if b then 1 else 0)) h
  | .abs, [.int i] => .ok (.int (if i < 0 then -i else i)) h
  | .isinst t, [w] => (match isT t h w with
    | some b => .ok (.bl b) h
    | none => .err)
  | .rev, [w] => (match w with
    | .ref n => (match h.get n with
      | some (.lst xs) => .ok (.ref h.n) (h.new (.lst xs.reverse))
      | _ => .err)
    | .frl xs => .ok (.ref h.n) (h.new (.lst xs.reverse))
    | _ => .err)
  | .lrng1, [.int j] => bif rngOk j && szOk j.toNat then .ok (.ref h.n) (h.new (.lst (rngs 0 j.toNat))) else .err
  | .lrng2, [.int i, .int j] => bif rngOk i && rngOk j && szOk (j - i).toNat then .ok (.ref h.n) (h.new (.lst (rngs i (j - i).toNat))) else .err
  | .repr, [w] => (match dat h w with
    | some d => bif d.showable && Nat.ble d.depth 60 && szOk d.shown.length then .ok (.str d.shown) h else .err
    | none => .err)
  | _, _ => .err

def updOp (x y : W) (h : Hw) : R W := match x, y with
  | .ref n, .ref m => (match h.get n, h.get m with
    | some (.dct xs), some (.dct ys) => bif szOk (xs.length + ys.length) && !(Nat.beq n m) then .ok .non (h.set n (.dct (ys.foldl (fun d p => kPut d p.1 p.2) xs))) else .err
    | _, _ => .err)
  | _, _ => .err
def isDct (x : W) (h : Hw) : Bool := match x with
  | .ref n => (match h.get n with
    | some (.dct _) => true
    | _ => false)
  | _ => false
def ssetOp (x : W) (h : Hw) : R W := match x with
  | .tup xs => (match intsOf xs with
    | some is => bif Nat.ble is.length 60 then .ok (.ref h.n) (h.new (.lst ((sdup is).map W.int))) else .err
    | none => .err)
  | _ => .err
/-- what has such a method -/
def recvOk (m : Me) (x : W) (h : Hw) : Bool := match x with
  | .ref n => (match h.get n with
    | some (.lst _) => true
    | _ => false)
  | .tup _ => (match m with
    | .index => true
    | _ => false)
  | _ => false
def meOp (m : Me) (o : W) (ws : List W) (h : Hw) : R W := match m, o, ws with
  | .append, .ref n, [w] => (match h.get n with
    | some (.lst xs) => bif Nat.ble (xs.length + 1) 16777216 then .ok .non (h.set n (.lst (xs ++ [w]))) else .err
    | _ => .err)
  | .pop, .ref n, [] => (match h.get n with
    | some (.lst xs) => (match xs[xs.length - 1]? with
      | some w => .ok w (h.set n (.lst xs.dropLast))
      | none => .err)
    | _ => .err)
  | .pop, .ref n, [.int i] => (match h.get n with
    | some (.lst xs) => (match L2.ixN xs.length i with
      | some k => (match xs[k]? with
        | some w => bif rngOk i then .ok w (h.set n (.lst (xs.eraseIdx k))) else .err
        | none => .err)
      | none => .err)
    | _ => .err)
  | .index, .tup xs, [.int k] => (match intsOf xs with
    | some is => bif is.elem k then .ok (.int (is.idxOf k : Nat)) h else .err
    | none => .err)
  | .index, .ref n, [w] => (match h.get n with
    | some (.lst xs) => (match dat h w, optAll (xs.map (toD 39 h)) with
      | some d, some ds => bif SeqAt.shaped d && SeqAt.shaped (.list ds) then (match firstD d ds 0 with
        | some k => .ok (.int k) h
        | none => .err) else .err
      | _, _ => .err)
    | _ => .err)
  | .insert, .ref n, [.int i, w] => (match h.get n with
    | some (.lst xs) => bif Nat.ble (xs.length + 1) 16777216 && rngOk i && decide (0 ≤ i) then .ok .non (h.set n (.lst (xs.take i.toNat ++ [w] ++ xs.drop i.toNat))) else .err
    | _ => .err)
  | .extend, .ref n, [.ref m] => (match h.get n, h.get m with
    | some (.lst xs), some (.lst ys) => bif szOk (xs.length + ys.length) then .ok .non (h.set n (.lst (xs ++ ys))) else .err
    | _, _ => .err)
  | _, _, _ => .err

def idxOp (x y : W) (h : Hw) : R W := match x, y with
  | .tup xs, .int i => (match L2.atI xs i with
    | some w => .ok w h
    | none => .err)
  | .frl xs, .int i => (match L2.atI xs i with
    | some w => .ok w h
    | none => .err)
  | .ref n, y => (match h.get n with
    | some (.lst xs) => (match y with
      | .int i => (match L2.atI xs i with
        | some w => .ok w h
        | none => .err)
      | _ => .err)
    | some (.dct kvs) => (match keyOf y with
      | some k => (match kFind kvs k with
        | some w => .ok w h
        | none => .err)
      | none => .err)
    | none => .err)
  | _, _ => .err
def setOp (x y v : W) (h : Hw) : Option Hw := match x with
  | .ref n => (match h.get n with
    | some (.lst xs) => (match y with
      | .int i => (match L2.ixN xs.length i with
        | some k => some (h.set n (.lst (xs.set k v)))
        | none => none)
      | _ => none)
    | some (.dct kvs) => (match keyOf y with
      | some k => bif Nat.ble (kvs.length + 1) 16777216 then some (h.set n (.dct (kPut kvs k v))) else none
      | none => none)
    | none => none)
  | _ => none
def slcOp (x : W) (lo hi : Option Int) (h : Hw) : R W := match x with
  | .tup xs => .ok (.tup (cutW xs lo hi)) h
  | .frl xs => .ok (.ref h.n) (h.new (.lst (cutW xs lo hi)))
  | .ref n => (match h.get n with
    | some (.lst xs) => .ok (.ref h.n) (h.new (.lst (cutW xs lo hi)))
    | _ => .err)
  | _ => .err

mutual
def asg : Tg → W → Env → Hw → Option Env
  | .nm i, w, s, _ => some (s.set i (some w))
  | .tp ts, .tup xs, s, h => asgs ts xs s h
  | .tp ts, .ref n, s, h => (match h.get n with
    | some (.lst xs) => asgs ts xs s h
    | _ => none)
  | _, _, _, _ => none
def asgs : List Tg → List W → Env → Hw → Option Env
  | [], [], s, _ => some s
  | t :: ts, x :: xs, s, h => match asg t x s h with
    | some s' => asgs ts xs s' h
    | none => none
  | _, _, _, _ => none
end

def R.nox {α : Type} : R α → R α
  | .exc _ _ _ => .err
  | r => r
def loopC (gs : List (Nat × List W)) (f : W → Hw → R (Option W)) : List W → Hw → R (List W)
  | [], h => bif okG gs h then .ok [] h else .err
  | x :: xs, h => bif okG gs h then (f x h).nox.bind fun o h1 => (loopC gs f xs h1).bind fun ys h2 => .ok (match o with | some w => w :: ys | none => ys) h2 else .err
def wipeW (s : Env) : List Nat → Env
  | [] => s
  | v :: vs => (wipeW s vs).set v none
def optInt : Option W → Option (Option Int)
  | none => some none
  | some (.int i) => some (some i)
  | _ => none

/-- what is called: the defs by number; a def to which a closure is handed; a def that hands back a closure; the closure that was handed in -/
structure CT where
  f : Nat → List W → Hw → R W
  c : Nat → List W → List W → (List W → List W → Hw → R W) → Hw → R W
  m : Nat → List W → Hw → R (List W × (List W → List W → Hw → R W))
  v : List W → List W → Hw → R W
instance : CoeFun CT fun _ => Nat → List W → Hw → R W := ⟨CT.f⟩
def slotV (s : Env) (i : Nat) : Option W := match s[i]? with
  | some (some w) => (match w with
    | .clo _ => none
    | w => some w)
  | _ => none
def capsOf (s : Env) (caps : List Nat) : Option (List W) := optAll (caps.map (slotV s))
def cloOf (s : Env) (i : Nat) : Option (List W) := match s[i]? with
  | some (some (.clo ws)) => some ws
  | _ => none
section
variable (C : CT)
mutual
def evE : Ex → Env → Hw → R W
  | .var i, s, h => match slotV s i with
    | some w => .ok w h
    | none => .err
  | .non, _, h => .ok .non h
  | .bl b, _, h => .ok (.bl b) h
  | .int i, _, h => .ok (.int i) h
  | .str x, _, h => .ok (.str x) h
  | .bin o a b, s, h => (evE a s h).bind fun x h1 => (evE b s h1).bind fun y h2 => binOp o x y h2
  | .neg a, s, h => (evE a s h).bind fun x h1 => match x with
    | .int i => .ok (.int (-i)) h1
    | _ => .err
  | .cmp o a b, s, h => (evE a s h).bind fun x h1 => (evE b s h1).bind fun y h2 => match cmpOp o x y h2 with
    | some k => .ok (.bl k) h2
    | none => .err
  | .chn o p a b c, s, h => (evE a s h).bind fun x h1 => (evE b s h1).bind fun y h2 => match cmpOp o x y h2 with
    | some true => (evE c s h2).bind fun z h3 => (match cmpOp p y z h3 with
      | some k => .ok (.bl k) h3
      | none => .err)
    | some false => .ok (.bl false) h2
    | none => .err
  | .and es, s, h => evAnd es s h
  | .or es, s, h => evOr es s h
  | .not a, s, h => (evE a s h).bind fun x h1 => match tru h1 x with
    | some k => .ok (.bl (!k)) h1
    | none => .err
  | .ife c a b, s, h => (evE c s h).bind fun x h1 => match tru h1 x with
    | some true => evE a s h1
    | some false => evE b s h1
    | none => .err
  | .tup es, s, h => (evL es s h).bind fun ws h1 => bif szOk ws.length then .ok (.tup ws) h1 else .err
  | .star _, _, _ => .err
  | .lst es, s, h => (evL es s h).bind fun ws h1 => bif szOk ws.length then .ok (.ref h1.n) (h1.new (.lst ws)) else .err
  | .dct es, s, h => (evD es s (h.new (.dct []))).bind fun kvs h1 => match h1.get h.n with
    | some (.dct []) => bif Nat.ble kvs.length 15 then .ok (.ref h.n) (h1.set h.n (.dct (kvs.foldl (fun d p => kPut d p.1 p.2) []))) else .err
    | _ => .err
  | .idx a i, s, h => (evE a s h).bind fun x h1 => (evE i s h1).bind fun y h2 => idxOp x y h2
  | .slc a lo hi, s, h => (evE a s h).bind fun x h1 => (evO lo s h1).bind fun l h2 => (evO hi s h2).bind fun u h3 => slcOp x l u h3
  | .call f es, s, h => (evL es s h).bind fun ws h1 => C f ws h1
  | .bi b es, s, h => (evL es s h).bind fun ws h1 => biOp b ws h1
  | .me m o es, s, h => (evE o s h).bind fun x h1 => bif recvOk m x h1 then (evL es s h1).bind fun ws h2 => meOp m x ws h2 else .err
  | .comp elt tg k its ifs own, s, h => (evL its s h).bind fun ws h1 => match iterOf k ws h1 with
    | some (xs, gs) => bif szOk xs.length then (loopC gs (fun x h2 => match asg tg x (wipeW s own) h2 with
        | some s2 => (evIfs ifs s2 h2).bind fun c h3 => bif c then (evE elt s2 h3).bind fun w h4 => .ok (some w) h4 else .ok none h3
        | none => .err) xs h1).bind fun ys h5 => .ok (.ref h5.n) (h5.new (.lst ys)) else .err
    | none => .err
  | .upd d e, s, h => (evE d s h).bind fun x h1 => bif isDct x h1 then (evE e s h1).bind fun y h2 => updOp x y h2 else .err
  | .sset a, s, h => (evE a s h).bind fun x h1 => ssetOp x h1
  | .callv i es, s, h => match cloOf s i with
    | some cs => (evL es s h).bind fun ws h1 => C.v cs ws h1
    | none => .err
  | .callC f es np caps body, s, h => (evL es s h).bind fun ws h1 => match capsOf s caps with
    | some cs => C.c f ws cs (fun cs us h2 => bif Nat.beq us.length np then evE body (us.map some ++ cs.map some) h2 else .err) h1
    | none => .err
  | .callM f es g es2, s, h => (evL es s h).bind fun ws h1 => (evL es2 s h1).bind fun us h2 => (C.m g us h2).bind fun p h3 => C.c f ws p.1 p.2 h3
def evL : List Ex → Env → Hw → R (List W)
  | [], _, h => .ok [] h
  | e :: es, s, h => match e with
    | .star a => (evE a s h).bind fun x h1 => (match seqOf h1 x with
      | some xs => (evL es s h1).bind fun ys h2 => .ok (xs ++ ys) h2
      | none => .err)
    | e => (evE e s h).bind fun x h1 => (evL es s h1).bind fun xs h2 => .ok (x :: xs) h2
def evD : List Ex → Env → Hw → R (List (L2.Key × W))
  | [], _, h => .ok [] h
  | [_], _, _ => .err
  | k :: v :: r, s, h => (evE k s h).bind fun x h1 => match keyOf x with
    | some x => (evE v s h1).bind fun y h2 => (evD r s h2).bind fun r h3 => .ok ((x, y) :: r) h3
    | none => .err
def evO : Option Ex → Env → Hw → R (Option Int)
  | none, _, h => .ok none h
  | some e, s, h => (evE e s h).bind fun x h1 => match x with
    | .int i => .ok (some i) h1
    | _ => .err
def evAnd : List Ex → Env → Hw → R W
  | [], _, _ => .err
  | [e], s, h => evE e s h
  | e :: es, s, h => (evE e s h).bind fun x h1 => match tru h1 x with
    | some true => evAnd es s h1
    | some false => .ok x h1
    | none => .err
def evOr : List Ex → Env → Hw → R W
  | [], _, _ => .err
  | [e], s, h => evE e s h
  | e :: es, s, h => (evE e s h).bind fun x h1 => match tru h1 x with
    | some false => evOr es s h1
    | some true => .ok x h1
    | none => .err
def evIfs : List Ex → Env → Hw → R Bool
  | [], _, h => .ok true h
  | e :: es, s, h => (evE e s h).bind fun x h1 => match tru h1 x with
    | some true => evIfs es s h1
    | some false => .ok false h1
    | none => .err
end

def loopS (gs : List (Nat × List W)) (f : W → Env → Hw → R (Env × Fl)) : List W → Env → Hw → R (Env × Fl)
  | [], s, h => bif okG gs h then .ok (s, .nx) h else .err
  | x :: xs, s, h => bif okG gs h then (f x s h).bind fun p h1 => (match p.2 with
    | .nx => loopS gs f xs p.1 h1
    | .ct => loopS gs f xs p.1 h1
    | .bk => .ok (p.1, .nx) h1
    | .rt w => .ok (p.1, .rt w) h1) else .err
def whlS (c : Env → Hw → R Bool) (f : Env → Hw → R (Env × Fl)) : Nat → Env → Hw → R (Env × Fl)
  | 0, _, _ => .err
  | n + 1, s, h => (c s h).bind fun b h1 => bif b then (f s h1).bind fun p h2 => (match p.2 with
    | .nx => whlS c f n p.1 h2
    | .ct => whlS c f n p.1 h2
    | .bk => .ok (p.1, .nx) h2
    | .rt w => .ok (p.1, .rt w) h2) else .ok (s, .nx) h1
def evT (e : Ex) (s : Env) (h : Hw) : R Bool := (evE C e s h).bind fun x h1 => match tru h1 x with
  | some k => .ok k h1
  | none => .err
variable (wf : Nat)
mutual
def exS : St → Env → Hw → R (Env × Fl)
  | .set i e, s, h => (evE C e s h).bind fun w h1 => .ok (s.set i (some w), .nx) h1
  | .setT tg e, s, h => (evE C e s h).bind fun w h1 => match asg tg w s h1 with
    | some s' => .ok (s', .nx) h1
    | none => .err
  | .setI a i e, s, h => (evE C e s h).bind fun v h1 => (evE C a s h1).bind fun x h2 => (evE C i s h2).bind fun y h3 => match setOp x y v h3 with
    | some h4 => .ok (s, .nx) h4
    | none => .err
  | .aug o i e, s, h => match s[i]? with
    | some (some x) => (evE C e s h).bind fun y h1 => (augOp o x y h1).bind fun z h2 => .ok (s.set i (some z), .nx) h2
    | _ => .err
  | .augI o a i e, s, h => (evE C a s h).bind fun x h1 => (evE C i s h1).bind fun y h2 => (idxOp x y h2).bind fun z h3 => (evE C e s h3).bind fun v h4 => (augOp o z v h4).bind fun r h5 => match setOp x y r h5 with
    | some h6 => .ok (s, .nx) h6
    | none => .err
  | .setII a i b j e, s, h => (evE C e s h).bind fun v h1 => match v with
    | .tup [x, y] => (evE C a s h1).bind fun a h2 => (evE C i s h2).bind fun i h3 => (match setOp a i x h3 with
      | some h4 => (evE C b s h4).bind fun b h5 => (evE C j s h5).bind fun j h6 => (match setOp b j y h6 with
        | some h7 => .ok (s, .nx) h7
        | none => .err)
      | none => .err)
    | _ => .err
  | .ex e, s, h => (evE C e s h).bind fun _ h1 => .ok (s, .nx) h1
  | .ite c a b, s, h => (evT C c s h).bind fun k h1 => bif k then exL a s h1 else exL b s h1
  | .loop tg k its body, s, h => (evL C its s h).bind fun ws h1 => match iterOf k ws h1 with
    | some (xs, gs) => loopS gs (fun x s2 h2 => match asg tg x s2 h2 with
        | some s3 => exL body s3 h2
        | none => .err) xs s h1
    | none => .err
  | .whl c body, s, h => whlS (evT C c) (exL body) wf s h
  | .ret e, s, h => (evE C e s h).bind fun w h1 => .ok (s, .rt w) h1
  | .retN, s, h => .ok (s, .rt .non) h
  | .rse c es, s, h => (evL C es s h).bind fun ws h1 => .exc c ws h1
  | .cont, s, h => .ok (s, .ct) h
  | .brk, s, h => .ok (s, .bk) h
  | .pass, s, h => .ok (s, .nx) h
  | .tryR e q cs r, s, h => match evE C e s h with
    | .ok w h1 => .ok (s, bif q then .rt w else .nx) h1
    | .exc c d h1 => bif cs.any (Nat.beq c) then .ok (s, .rt r) h1 else .exc c d h1
    | .err => .err
def exL : List St → Env → Hw → R (Env × Fl)
  | [], s, h => .ok (s, .nx) h
  | t :: ts, s, h => (exS t s h).bind fun p h1 => match p.2 with
    | .nx => exL ts p.1 h1
    | _ => .ok p h1
end
end

structure Fn where
  np : Nat
  ns : Nat
  body : List St
  /-- the lambda that is handed back behind the body: its parameters, what it captures, its body -/
  lam : Option (Nat × List Nat × Ex) := none
  /-- a closure is its last argument -/
  clo : Bool := false

mutual
def W.noRef : W → Bool
  | .ref _ => false
  | .tup xs => W.noRefs xs
  | .frl xs => W.noRefs xs
  | .clo _ => false
  | _ => true
def W.noRefs : List W → Bool
  | [] => true
  | x :: xs => x.noRef && W.noRefs xs
end
mutual
def W.up (k : Nat) : W → W
  | .ref n => .ref (n + k)
  | .tup xs => .tup (W.ups k xs)
  | .frl xs => .frl (W.ups k xs)
  | .non => .non
  | .bl b => .bl b
  | .int i => .int i
  | .str s => .str s
  | .clo ws => .clo ws
def W.ups (k : Nat) : List W → List W
  | [] => []
  | x :: xs => x.up k :: W.ups k xs
end
def HW.up (k : Nat) : HW → HW
  | .lst xs => .lst (W.ups k xs)
  | .dct kvs => .dct (kvs.map fun p => (p.1, p.2.up k))
/-- the first i objects of g behind those of h -/
def Hw.app (h g : Hw) : Nat → Hw
  | 0 => h
  | i + 1 => match g.get i with
    | some o => (Hw.app h g i).new (o.up h.n)
    | none => (Hw.app h g i).new (.lst [])
/-- what was made in a heap of its own, laid behind h -/
def graft (h : Hw) : R W → R W
  | .ok w g => bif w.noRef then .ok w h else .ok (w.up h.n) (h.app g g.n)
  | .exc c d _ => bif W.noRefs d then .exc c d h else .err
  | .err => .err

def outF : Env × Fl → Hw → R W
  | (_, .rt w), h => .ok w h
  | (_, .nx), h => .ok .non h
  | _, _ => .err
def runF (C : CT) (wf : Nat) (fn : Fn) (ws : List W) (h : Hw) : R W := (exL C wf fn.body (ws.map some ++ List.replicate (fn.ns - fn.np) none) h).bind outF
def CT.with (C : CT) (v : List W → List W → Hw → R W) : CT := ⟨C.f, C.c, C.m, v⟩
def CT.no : CT := ⟨fun _ _ _ => .err, fun _ _ _ _ _ => .err, fun _ _ _ => .err, fun _ _ _ => .err⟩
/-- a def that gets a closure as its last argument -/
def runC (C : CT) (wf : Nat) (fn : Fn) (ws cs : List W) (L : List W → List W → Hw → R W) (h : Hw) : R W := (exL (C.with L) wf fn.body ((ws ++ [W.clo cs]).map some ++ List.replicate (fn.ns - fn.np) none) h).bind outF
def outM (C : CT) (np : Nat) (caps : List Nat) (body : Ex) : Env × Fl → Hw → R (List W × (List W → List W → Hw → R W))
  | (s, .nx), h => match capsOf s caps with
    | some cs => .ok (cs, fun cs us h2 => bif Nat.beq us.length np then evE C body (us.map some ++ cs.map some) h2 else .err) h
    | none => .err
  | _, _ => .err
def runM (C : CT) (wf : Nat) (fn : Fn) (ws : List W) (h : Hw) : R (List W × (List W → List W → Hw → R W)) := match fn.lam with
  | some (np, caps, body) => (exL C wf fn.body (ws.map some ++ List.replicate (fn.ns - fn.np) none) h).bind (outM C np caps body)
  | none => .err
def callF (tb : List Fn) (wf : Nat) : Nat → CT
  | 0 => CT.no
  | k + 1 => {
    f := fun f ws h => match tb[f]? with
      | some fn => bif Nat.beq ws.length fn.np && (fn.lam.isNone && !fn.clo) then (bif W.noRefs ws then graft h (runF (callF tb wf k) wf fn ws Hw.nil) else runF (callF tb wf k) wf fn ws h) else .err
      | none => .err
    c := fun f ws cs L h => match tb[f]? with
      | some fn => bif Nat.beq (ws.length + 1) fn.np && (fn.lam.isNone && fn.clo) then runC (callF tb wf k) wf fn ws cs L h else .err
      | none => .err
    m := fun f ws h => match tb[f]? with
      | some fn => bif Nat.beq ws.length fn.np then runM (callF tb wf k) wf fn ws h else .err
      | none => .err
    v := fun _ _ _ => .err }
end TL
/-! Tuples that are known to have no dict of their own: locked at their making. -/
namespace TL
open PySem PySem.Spec PyProof.Rows L2
/-- a tuple without a dict: locked, or of the written part -/
def FzT (K : PySem.W.Frag) (H : Hp) (a : Addr) (vs : List V) : Prop :=
  (∃ o, H a = some (.frz o (.tup vs)) ∧ o.dict = none) ∨
    (∃ (o : Obj) (its : Array Value) (n : Nat), K.lookup a = some o ∧ o.cls = .type "tuple" ∧ o.dict = none ∧ o.data = .seq its n ∧ its.size ≤ sizeLine ∧ Vals vs its.toList)
theorem FzT.sq {K : PySem.W.Frag} {H : Hp} {a : Addr} {vs : List V} (e : FzT K H a vs) : SqT K H a vs := by
  rcases e with ⟨o, e, _⟩ | ⟨o, its, n, h1, h2, h3, h4⟩
  · exact .inl (.inr ⟨o, e⟩)
  · exact .inr ⟨o, its, n, h1, h2, h4⟩
theorem FzT.free {X : Cx} {pins : List (Addr × Obj)} {σ : L2.St} {H : Hp} {s : Shared} {a : Addr} {vs : List V} (I : Inv X pins σ H s) (e : FzT X.K H a vs) : ∃ o, s.heap.get? a = some o ∧ o.cls = .type "tuple" ∧ o.dict = none := by
  rcases e with ⟨o, e, d⟩ | ⟨o, its, n, h1, h2, h3, h4⟩
  · obtain ⟨q, _, its, _, ob, e2, c, _⟩ := I.hok a _ e
    rw [q] at e2; cases e2
    exact ⟨o, q, c, d⟩
  · exact ⟨o, I.kIn a o h1, h2, h3⟩
/-- what is wanted of a new tuple -/
def newT (H : Hp) (xs : List V) (Q : VK) : Prop := ∀ (p : Addr) (o : Obj), H p = none → o.dict = none → Q (.ref p) (upd H p (.frz o (.tup xs)))
section
variable {X : Cx}
theorem tupd {pins : List (Addr × Obj)} {σ : L2.St} {H : Hp} {s : Shared} {Q : VK} {xs : List V} {us : List Value} {t : Nat} (I : Inv X pins σ H s) (z : xs.length ≤ sizeLine) (r : Vals xs us) (q : newT H xs Q) :
    EP X pins σ Q (.ref s.heap.objs.size) { s with heap := s.heap.push { cls := .type "tuple", data := .seq us.toArray }, toks := t } := by
  have e : (s.heap.push { cls := .type "tuple", data := .seq us.toArray }).get? s.heap.objs.size = some { cls := .type "tuple", data := .seq us.toArray } := Heap.get?_push_size _ rfl
  have J : Inv X pins σ (upd H s.heap.objs.size (.frz { cls := .type "tuple", data := .seq us.toArray } (.tup xs))) { s with heap := s.heap.push { cls := .type "tuple", data := .seq us.toArray }, toks := t } :=
    I.laid (fun b u e => Heap.get?_push_of_some _ e) (Nat.le_refl _) (show ObjOk X.prog X.w _ _ _ (.frz _ (.tup xs)) from ⟨e, z, us, r, _, e, rfl, _, rfl⟩)
  exact ⟨.ref s.heap.objs.size, _, J, rfl, q _ _ (I.hok.fresh (Nat.le_refl _)) rfl⟩
def tTupZ (t : TA) : TE := fun σ H Q => t σ H fun xs H1 => xs.length ≤ sizeLine ∧ newT H1 xs Q
theorem pe_tupZ {es : List Expr} {pos : Pos} {t : TA} {x1} (h : PA X es t) : PE X (.Tuple es x1 pos) (tTupZ t) := by
  refine ⟨fun pins s σ H Q I hq => ?_⟩
  refine wpAny_Tuple_spliced (thn (h.run pos pins s σ H _ I hq) fun us s1 ⟨xs, H1, I1, r, z, q⟩ => ⟨by rw [← r.length]; exact z, ?_⟩)
  exact tupd I1 z r q
/-- tuple(x) -/
theorem call_tupZ : CallR X (.type "tuple") (fun xs H Q => ∃ p ys, xs = [.ref p] ∧ ((SqL X.K H p ys ∧ newT H ys Q) ∨ (SqT X.K H p ys ∧ Q (.ref p) H))) := by
  intro pins s σ H xs us Q I r hq
  obtain ⟨p, ys, rfl, hq⟩ := hq
  obtain ⟨u, rfl, rx⟩ := vals1 r
  cases rx
  rcases hq with ⟨hl, q⟩ | ⟨ht, q⟩
  · obtain ⟨its, r', pl, hz⟩ := I.list hl
    have hlen := r'.length
    refine call_tuple_list pl.isList (fun h' kp => ?_) (by simp only [List.size_toArray] <;> omega)
    have I1 : Inv X pins σ H { s with heap := h' } := I.kept (t' := s.toks) kp
    exact tupd I1 hz r' q
  · obtain ⟨its, r', pl, hz⟩ := I.tuple ht
    exact call_tuple_same pl ⟨.ref p, H, I, rfl, q⟩
/-- t + u -/
def rCatZ (K : PySem.W.Frag) : R2 := fun x y H Q => ∃ a b xs ys, x = .ref a ∧ y = .ref b ∧ SqT K H a xs ∧ SqT K H b ys ∧ xs.length + ys.length ≤ sizeLine ∧
  (xs = [] → Q (.ref b) H) ∧ (xs ≠ [] → ys = [] → Q (.ref a) H) ∧ (xs ≠ [] → ys ≠ [] → newT H (xs ++ ys) Q)
theorem op_catZ : OpR X (binaryOp .Add) (rCatZ X.K) := by
  intro pins s σ H x y v u Q I rx ry hq
  obtain ⟨a, b, xs, ys, rfl, rfl, ha, hb, hz, q0, q1, q2⟩ := hq
  cases rx
  cases ry
  obtain ⟨its, r1, p1, _⟩ := I.tuple ha
  obtain ⟨its2, r2, p2, _⟩ := I.tuple hb
  by_cases hx : xs = []
  · subst hx
    cases r1
    exact cat_tup0 p1 p2 ⟨.ref b, H, I, rfl, q0 rfl⟩
  · refine HT.cat_tup p1 p2 (fun z => hx (r1.nil_iff.mp z)) (fun z => ⟨.ref a, H, I, rfl, q1 hx (r2.nil_iff.mp z)⟩) (fun z => ?_) (by rw [← r1.length, ← r2.length]; exact hz)
    exact tupd I (t := s.toks) (by rw [List.length_append]; exact hz) (r1.append r2) (q2 hx fun w => z (r2.nil_iff.mpr w))
/-- t[lo:hi] -/
def rSlZ (K : PySem.W.Frag) : V → Option Int → Option Int → Hp → VK → Prop := fun x lo hi H Q => ∃ a xs, x = .ref a ∧ SqT K H a xs ∧
  (HT.sIx xs.length 0 lo = 0 ∧ HT.sIx xs.length xs.length hi = xs.length → Q (.ref a) H) ∧ (¬ (HT.sIx xs.length 0 lo = 0 ∧ HT.sIx xs.length xs.length hi = xs.length) → newT H (cutV xs lo hi) Q)
theorem sl_tupZ : SlR X (rSlZ X.K) := by
  intro pins s σ H x v vl vu lo hi sl Q I rx hs pl pu hq
  obtain ⟨a, xs, rfl, hx, q1, q2⟩ := hq
  cases rx
  obtain ⟨its, r, ht, hz⟩ := I.tuple hx
  have hlen : its.toArray.size = xs.length := by rw [List.size_toArray]; exact r.length.symm
  refine ⟨"tuple", _, PyProof.Rows.slot_tuple_getitem.lookup, ht.typeIs, ?_⟩
  by_cases hw : HT.sIx xs.length 0 lo = 0 ∧ HT.sIx xs.length xs.length hi = xs.length
  · exact getItem_tuple_whole ht hs pl pu (by rw [hlen]; exact hw) ⟨.ref a, H, I, rfl, q1 hw⟩
  · refine HT.getItem_tuple_cut ht hs pl pu (by rw [hlen]; exact hw) ?_ (by rw [hlen]; exact hz)
    rw [hlen]
    exact tupd I (t := s.toks) (Nat.le_trans (cutV_length xs lo hi) hz) ((r.drop (HT.sIx xs.length 0 lo)).take (HT.sIx xs.length xs.length hi - HT.sIx xs.length 0 lo)) (q2 hw)
/-- t * k, twice or more -/
def rRepZ (K : PySem.W.Frag) : R2 := fun x y H Q => ∃ l k xs, x = .ref l ∧ y = .int k ∧ SqT K H l xs ∧ xs ≠ [] ∧ 2 ≤ k ∧ k ≤ 1000 ∧ xs.length ≤ 1000 ∧ newT H (List.replicate k.toNat xs).flatten Q
theorem op_repZ : OpR X (binaryOp .Mult) (rRepZ X.K) := by
  intro pins s σ H x y v u Q I rx ry hq
  obtain ⟨l, k, xs, rfl, rfl, hT, hne, h1, h2, hz, q⟩ := hq
  cases rx
  obtain ⟨t, rfl⟩ := ry
  obtain ⟨its, r, ⟨⟨cls, dd, data, sl⟩, ho, hc, n, hd⟩, hs⟩ := I.tuple hT
  simp only at hc hd
  subst hc hd
  have hle : its.length = xs.length := r.length.symm
  have hi : its.toArray.isEmpty = false := by
    cases its with
    | nil => exact absurd (List.eq_nil_of_length_eq_zero hle.symm) hne
    | cons a b => rfl
  have hsz0 : its.toArray.size = xs.length := by rw [List.size_toArray, hle]
  have hm : ((its.toArray.size : Nat) : Int) * k ≤ 1000000 := by
    rw [hsz0]
    have a1 := Int.mul_le_mul_of_nonneg_right (show ((xs.length : Nat) : Int) ≤ 1000 by omega) (show 0 ≤ k by omega)
    omega
  have hm2 : k.toNat * xs.length ≤ 1000 * 1000 := Nat.mul_le_mul (by omega) hz
  have fl : (List.replicate k.toNat its).flatten.length ≤ sizeLine := by
    rw [PyProof.Rows.lm_len_rep_flat, hle, sizeLine_eq]
    omega
  have c0 : (decide (k < -(2 ^ 63)) || decide (k ≥ 2 ^ 63)) = false := by
    rw [decide_eq_false (show ¬ k < -(2 ^ 63) by omega), decide_eq_false (show ¬ k ≥ 2 ^ 63 by omega)]
    rfl
  have c1 : (its.toArray.isEmpty || k == 1) = false := by
    rw [hi, Bool.false_or]
    exact beq_eq_false_iff_ne.mpr (by omega)
  have c2 : (decide (k ≤ 0) || its.toArray.isEmpty) = false := by
    rw [hi, Bool.or_false]
    exact decide_eq_false (by omega)
  have c4 : Builtin.Tuple.tupleTooMany (((its.toArray.size : Nat) : Int) * k) = false := by
    unfold Builtin.Tuple.tupleTooMany
    rw [sizeLine_eq]
    exact decide_eq_false (by omega)
  refine wpAny_binaryOp_repeat_ref (T := "tuple") (U := "int") (by decide) ⟨_, ho, rfl⟩ (fun s' => typeIs_int s' k t)
    noFill_tuple_mul F.fills_int_mul F.slot_int_rmul repeat_tuple F.slot_int_index.lookup
    (call_meets F.slot_int_rmul (typeIs_int s k t) F.entry_int_rmul (F.args_int_rmul_2 _ _) (int_rmul_tuple k t l its.toArray n dd sl)
      ⟨ho, rfl, ⟨_, ho, rfl⟩, call_meets F.slot_tuple_mul ⟨_, ho, rfl⟩ F.entry_tuple_mul (F.args_tuple_mul_2 _ _)
        (tuple_mulW l its.toArray n dd sl k t c0 c1 c2 (by omega) c4 (by rw [size_rep, List.size_toArray]; exact fl)) ⟨ho, ?_⟩⟩)
  rw [size_rep]
  refine tupd I (t := s.toks) ?_ (r.rep k.toNat) q
  rw [PyProof.Rows.lm_len_rep_flat, sizeLine_eq]
  omega
/-- t * k, no time at all -/
theorem tuple_mul0 (l : Addr) (items : Array Value) (n : Nat) (dd : Option Addr) (sl : Array (Option Value)) (x : Int) (u : Tok) (k0 : (decide (x < -(2 ^ 63)) || decide (x ≥ 2 ^ 63)) = false) (k1 : (items.isEmpty || x == 1) = false) (k2 : (decide (x ≤ 0) || items.isEmpty) = true) :
    Meets (Builtin.«tuple.__mul__» ⟨[.ref l, .int x u], []⟩) (fun _ R s => s.heap.get? l = some { cls := .type "tuple", dict := dd, data := .seq items n, slots := sl } ∧
      R (.ok (.ret (Value.ref s.heap.objs.size))) { s with heap := s.heap.push { cls := Value.type "tuple", data := Data.seq #[] }, toks := s.toks }) :=
  .of_wp fun prog w A R s hy => by
    obtain ⟨hp, g, d, tk, os⟩ := s
    obtain ⟨hl, hr⟩ := hy
    have f1 := AutoSeq1.idx_int
    wp_walk using wpAny_loadPart' hl
    repeat (first
      | (refine wpAny_ite_false (decide_eq_false (by rw [k0]; exact Bool.false_ne_true)) ?_; wp_walk using wpAny_loadPart' hl)
      | (refine wpAny_ite_false (decide_eq_false (by rw [k1]; exact Bool.false_ne_true)) ?_; wp_walk using wpAny_loadPart' hl)
      | (refine wpAny_ite_true (decide_eq_true (by rw [k2])) ?_; wp_walk using wpAny_loadPart' hl))
    exact ⟨_, rfl, hr⟩
def rRepN (K : PySem.W.Frag) : R2 := fun x y H Q => ∃ l k xs, x = .ref l ∧ y = .int k ∧ SqT K H l xs ∧ xs ≠ [] ∧ k ≤ 0 ∧ -1000 ≤ k ∧ newT H [] Q
theorem op_repN : OpR X (binaryOp .Mult) (rRepN X.K) := by
  intro pins s σ H x y v u Q I rx ry hq
  obtain ⟨l, k, xs, rfl, rfl, hT, hne, h1, h2, q⟩ := hq
  cases rx
  obtain ⟨t, rfl⟩ := ry
  obtain ⟨its, r, ⟨⟨cls, dd, data, sl⟩, ho, hc, n, hd⟩, hs⟩ := I.tuple hT
  simp only at hc hd
  subst hc hd
  have hi : its.toArray.isEmpty = false := by
    cases its with
    | nil => exact absurd (List.eq_nil_of_length_eq_zero r.length) hne
    | cons a b => rfl
  have k0 : (decide (k < -(2 ^ 63)) || decide (k ≥ 2 ^ 63)) = false := by
    rw [decide_eq_false (show ¬ k < -(2 ^ 63) by omega), decide_eq_false (show ¬ k ≥ 2 ^ 63 by omega)]
    rfl
  have k1 : (its.toArray.isEmpty || k == 1) = false := by
    rw [hi, Bool.false_or]
    exact beq_eq_false_iff_ne.mpr (by omega)
  have k2 : (decide (k ≤ 0) || its.toArray.isEmpty) = true := by rw [decide_eq_true h1]; rfl
  refine wpAny_binaryOp_repeat_ref (T := "tuple") (U := "int") (by decide) ⟨_, ho, rfl⟩ (fun s' => typeIs_int s' k t)
    noFill_tuple_mul F.fills_int_mul F.slot_int_rmul repeat_tuple F.slot_int_index.lookup
    (call_meets F.slot_int_rmul (typeIs_int s k t) F.entry_int_rmul (F.args_int_rmul_2 _ _) (int_rmul_tuple k t l its.toArray n dd sl)
      ⟨ho, rfl, ⟨_, ho, rfl⟩, call_meets F.slot_tuple_mul ⟨_, ho, rfl⟩ F.entry_tuple_mul (F.args_tuple_mul_2 _ _)
        (tuple_mul0 l its.toArray n dd sl k t k0 k1 k2) ⟨ho, ?_⟩⟩)
  exact tupd I (t := s.toks) (us := []) (Nat.zero_le _) .nil q
end
end TL
/-! The machine's values and heap beside the hand layer's. -/
namespace TL
open PySem L2

/-! ### the trie -/
theorem Tr.get_nil (n : Nat) : Tr.nil.get n = none := rfl
theorem bsel {α : Type} {c : Bool} {a b : α} : (bif c then a else b) = if c = true then a else b := by cases c <;> rfl
theorem beq0 {n : Nat} : (n.beq 0 = true) ↔ n = 0 := by cases n <;> simp [Nat.beq]
theorem nbeq {n m : Nat} : (n.beq m = true) ↔ n = m := by rw [Nat.beq_eq]
theorem Tr.set_same : ∀ (f : Nat) (t : Tr) (n : Nat) (o : HW), n < f → (Tr.set f t n o).get n = some o
  | 0, _, _, _, h => absurd h (Nat.not_lt_zero _)
  | f + 1, .nil, n, o, h => by
    unfold Tr.set
    by_cases h0 : n = 0
    · subst h0; rfl
    · have e0 : n.beq 0 = false := by rw [← Bool.not_eq_true, beq0]; exact h0
      rw [e0, cond_false]
      by_cases h1 : n % 2 = 1
      · have e1 : (n % 2).beq 1 = true := nbeq.mpr h1
        rw [e1, cond_true]
        unfold Tr.get
        rw [e0, cond_false, e1, cond_true]
        exact Tr.set_same f .nil (n / 2) o (by omega)
      · have e1 : (n % 2).beq 1 = false := by rw [← Bool.not_eq_true, nbeq]; exact h1
        rw [e1, cond_false]
        unfold Tr.get
        rw [e0, cond_false, e1, cond_false]
        exact Tr.set_same f .nil (n / 2 - 1) o (by omega)
  | f + 1, .node l v r, n, o, h => by
    unfold Tr.set
    by_cases h0 : n = 0
    · subst h0; rfl
    · have e0 : n.beq 0 = false := by rw [← Bool.not_eq_true, beq0]; exact h0
      rw [e0, cond_false]
      by_cases h1 : n % 2 = 1
      · have e1 : (n % 2).beq 1 = true := nbeq.mpr h1
        rw [e1, cond_true]
        unfold Tr.get
        rw [e0, cond_false, e1, cond_true]
        exact Tr.set_same f l (n / 2) o (by omega)
      · have e1 : (n % 2).beq 1 = false := by rw [← Bool.not_eq_true, nbeq]; exact h1
        rw [e1, cond_false]
        unfold Tr.get
        rw [e0, cond_false, e1, cond_false]
        exact Tr.set_same f r (n / 2 - 1) o (by omega)
theorem Tr.set_ne : ∀ (f : Nat) (t : Tr) (n m : Nat) (o : HW), n ≠ m → (Tr.set f t n o).get m = t.get m
  | 0, _, _, _, _, _ => rfl
  | f + 1, .nil, n, m, o, h => by
    unfold Tr.set
    by_cases h0 : n = 0
    · subst h0
      have em : m.beq 0 = false := by rw [← Bool.not_eq_true, beq0]; exact fun e => h e.symm
      simp only [show Nat.beq 0 0 = true from rfl, cond_true, Tr.get, em, cond_false]
      cases (m % 2).beq 1 <;> rfl
    · have e0 : n.beq 0 = false := by rw [← Bool.not_eq_true, beq0]; exact h0
      rw [e0, cond_false]
      by_cases h1 : n % 2 = 1
      · have e1 : (n % 2).beq 1 = true := nbeq.mpr h1
        rw [e1, cond_true]
        unfold Tr.get
        by_cases m0 : m = 0
        · subst m0; rfl
        · have f0 : m.beq 0 = false := by rw [← Bool.not_eq_true, beq0]; exact m0
          rw [f0, cond_false]
          by_cases m1 : m % 2 = 1
          · have f1 : (m % 2).beq 1 = true := nbeq.mpr m1
            rw [f1, cond_true]
            exact Tr.set_ne f .nil _ _ o (by omega)
          · have f1 : (m % 2).beq 1 = false := by rw [← Bool.not_eq_true, nbeq]; exact m1
            rw [f1, cond_false]; rfl
      · have e1 : (n % 2).beq 1 = false := by rw [← Bool.not_eq_true, nbeq]; exact h1
        rw [e1, cond_false]
        unfold Tr.get
        by_cases m0 : m = 0
        · subst m0; rfl
        · have f0 : m.beq 0 = false := by rw [← Bool.not_eq_true, beq0]; exact m0
          rw [f0, cond_false]
          by_cases m1 : m % 2 = 1
          · have f1 : (m % 2).beq 1 = true := nbeq.mpr m1
            rw [f1, cond_true]; rfl
          · have f1 : (m % 2).beq 1 = false := by rw [← Bool.not_eq_true, nbeq]; exact m1
            rw [f1, cond_false]
            exact Tr.set_ne f .nil _ _ o (by omega)
  | f + 1, .node l v r, n, m, o, h => by
    unfold Tr.set
    by_cases h0 : n = 0
    · subst h0
      have em : m.beq 0 = false := by rw [← Bool.not_eq_true, beq0]; exact fun e => h e.symm
      simp only [show Nat.beq 0 0 = true from rfl, cond_true, Tr.get, em, cond_false]
    · have e0 : n.beq 0 = false := by rw [← Bool.not_eq_true, beq0]; exact h0
      rw [e0, cond_false]
      by_cases h1 : n % 2 = 1
      · have e1 : (n % 2).beq 1 = true := nbeq.mpr h1
        rw [e1, cond_true]
        unfold Tr.get
        by_cases m0 : m = 0
        · subst m0; rfl
        · have f0 : m.beq 0 = false := by rw [← Bool.not_eq_true, beq0]; exact m0
          rw [f0, cond_false, cond_false]
          by_cases m1 : m % 2 = 1
          · have f1 : (m % 2).beq 1 = true := nbeq.mpr m1
            rw [f1, cond_true, cond_true]
            exact Tr.set_ne f l _ _ o (by omega)
          · have f1 : (m % 2).beq 1 = false := by rw [← Bool.not_eq_true, nbeq]; exact m1
            rw [f1, cond_false, cond_false]
      · have e1 : (n % 2).beq 1 = false := by rw [← Bool.not_eq_true, nbeq]; exact h1
        rw [e1, cond_false]
        unfold Tr.get
        by_cases m0 : m = 0
        · subst m0; rfl
        · have f0 : m.beq 0 = false := by rw [← Bool.not_eq_true, beq0]; exact m0
          rw [f0, cond_false, cond_false]
          by_cases m1 : m % 2 = 1
          · have f1 : (m % 2).beq 1 = true := nbeq.mpr m1
            rw [f1, cond_true, cond_true]
          · have f1 : (m % 2).beq 1 = false := by rw [← Bool.not_eq_true, nbeq]; exact m1
            rw [f1, cond_false, cond_false]
            exact Tr.set_ne f r _ _ o (by omega)
theorem Hw.set_same (h : Hw) (n : Nat) (o : HW) : (h.set n o).get n = some o := Tr.set_same _ _ _ _ (Nat.lt_succ_self _)
theorem Hw.set_ne (h : Hw) {n m : Nat} (o : HW) (e : n ≠ m) : (h.set n o).get m = h.get m := Tr.set_ne _ _ _ _ _ e
theorem Hw.new_same (h : Hw) (o : HW) : (h.new o).get h.n = some o := Tr.set_same _ _ _ _ (Nat.lt_succ_self _)
theorem Hw.new_ne (h : Hw) {m : Nat} (o : HW) (e : h.n ≠ m) : (h.new o).get m = h.get m := Tr.set_ne _ _ _ _ _ e

/-! ### values beside values -/
/-- a list that is never changed: locked, or of the written part -/
def FzL (K : PySem.W.Frag) (H : Hp) (a : Addr) (vs : List V) : Prop := (∃ o, H a = some (.frz o (.lst vs))) ∨ (∃ (o : Obj) (its : Array Value) (n : Nat), K.lookup a = some o ∧ o.cls = .type "list" ∧ o.dict = none ∧ o.data = .seq its n ∧ its.size ≤ sizeLine ∧ Vals vs its.toList)
theorem FzL.seq {K : PySem.W.Frag} {H : Hp} {a : Addr} {vs : List V} (e : FzL K H a vs) : SqL K H a vs := by
  rcases e with ⟨o, e⟩ | e
  · exact .inl (.inr ⟨o, e⟩)
  · exact .inr e
mutual
def VR (K : PySem.W.Frag) (ρ : List Addr) (H : Hp) : W → V → Prop
  | .non, v => v = .non
  | .bl b, v => v = .bl b
  | .int i, v => v = .int i
  | .str s, v => v = .str s
  | .tup ws, v => ∃ a vs, v = .ref a ∧ FzT K H a vs ∧ VRs K ρ H ws vs
  | .frl ws, v => ∃ a vs, v = .ref a ∧ FzL K H a vs ∧ VRs K ρ H ws vs
  | .ref n, v => ∃ a, ρ[n]? = some a ∧ v = .ref a
  | .clo _, _ => False
def VRs (K : PySem.W.Frag) (ρ : List Addr) (H : Hp) : List W → List V → Prop
  | [], vs => vs = []
  | w :: ws, vs => ∃ v r, vs = v :: r ∧ VR K ρ H w v ∧ VRs K ρ H ws r
end
def KRs (K : PySem.W.Frag) (ρ : List Addr) (H : Hp) : List (L2.Key × W) → List (L2.Key × V) → Prop
  | [], vs => vs = []
  | (k, w) :: ws, vs => ∃ v r, vs = (k, v) :: r ∧ VR K ρ H w v ∧ KRs K ρ H ws r
def OR (K : PySem.W.Frag) (ρ : List Addr) (H : Hp) (a : Addr) : HW → Prop
  | .lst xs => ∃ vs, H a = some (.lst vs) ∧ VRs K ρ H xs vs
  | .dct kvs => ∃ vs, H a = some (.dK vs) ∧ KRs K ρ H kvs vs
/-- the tables of code objects, each with the name that they tell -/
class TabI where
  T : List (Addr × Str)
variable [TabI]
structure Rel (K : PySem.W.Frag) (ρ : List Addr) (h : Hw) (H : Hp) : Prop where
  len : ρ.length = h.n
  nd : ρ.Nodup
  ob : ∀ (n : Nat) (a : Addr), ρ[n]? = some a → ∃ o, h.get n = some o ∧ OR K ρ H a o
  out : ∀ n, h.n ≤ n → h.get n = none
  tab : LamX.Tabs TabI.T H
structure Stp (ρ ρ' : List Addr) (H H' : Hp) : Prop where
  pre : ρ <+: ρ'
  fr : ∀ a o, H a = some o → a ∉ ρ → (∀ ps, o ≠ .tbl ps) → H' a = some o
  nw : ∀ a, a ∈ ρ' → a ∉ ρ → H a = none
  fz : ∀ a o u, H a = some (.frz o u) → H' a = some (.frz o u)
  tb : ∀ a ps, H a = some (.tbl ps) → ∃ ps', H' a = some (.tbl ps')
/-- neither locked nor a table nor a code object -/
def NoZ (H : Hp) (p : Addr) : Prop := ∀ o, H p = some o → (∀ ob u, o ≠ .frz ob u) ∧ (∀ ps, o ≠ .tbl ps) ∧ ∀ φ, o ≠ .ext φ
theorem NoZ.lst {H : Hp} {p : Addr} {xs : List V} (e : H p = some (.lst xs)) : NoZ H p := fun o e1 => by
  rw [e] at e1
  cases e1
  exact ⟨fun _ _ z => (nomatch z), fun _ z => (nomatch z), fun _ z => (nomatch z)⟩
theorem NoZ.dct {H : Hp} {p : Addr} {xs : List (L2.Key × V)} (e : H p = some (.dK xs)) : NoZ H p := fun o e1 => by
  rw [e] at e1
  cases e1
  exact ⟨fun _ _ z => (nomatch z), fun _ z => (nomatch z), fun _ z => (nomatch z)⟩
theorem NoZ.ne {H : Hp} {p a : Addr} {o : HO} (n : NoZ H p) (e : H a = some o) (h : (∃ ob u, o = .frz ob u) ∨ (∃ ps, o = .tbl ps) ∨ ∃ φ, o = .ext φ) : a ≠ p := by
  rintro rfl
  obtain ⟨n1, n2, n3⟩ := n o e
  rcases h with ⟨_, _, h⟩ | ⟨_, h⟩ | ⟨_, h⟩
  · exact n1 _ _ h
  · exact n2 _ h
  · exact n3 _ h
/-- tables and code objects stay -/
theorem tabs_mv {T : List (Addr × Str)} {H H' : Hp} (t : LamX.Tabs T H) (e : ∀ a o, H a = some o → ((∃ ps, o = .tbl ps) ∨ ∃ φ, o = .ext φ) → H' a = some o) : LamX.Tabs T H' := fun p hp => by
  obtain ⟨ps, h1, h2, h3⟩ := t p hp
  refine ⟨ps, e _ _ h1 (.inl ⟨_, rfl⟩), h2, fun pos cv hc => ?_⟩
  obtain ⟨c, e1, e2⟩ := h3 pos cv hc
  exact ⟨c, e1, e _ _ e2 (.inr ⟨_, rfl⟩)⟩
theorem NoZ.tabs {T : List (Addr × Str)} {H : Hp} {p : Addr} {o : HO} (n : NoZ H p) (t : LamX.Tabs T H) : LamX.Tabs T (upd H p o) := tabs_mv t fun a ob e h => by
  rw [upd_ne (n.ne e (.inr h))]
  exact e

variable {K : PySem.W.Frag} {ρ ρ' ρ1 ρ2 : List Addr} {h h' h1 h2 : Hw} {H H' H1 H2 : Hp}

theorem VRs.length : ∀ {ws : List W} {vs : List V}, VRs K ρ H ws vs → vs.length = ws.length
  | [], _, e => by unfold VRs at e; rw [e]; rfl
  | _ :: _, _, e => by
    unfold VRs at e
    obtain ⟨v, r, e1, _, e2⟩ := e
    subst e1
    rw [List.length_cons, List.length_cons, VRs.length e2]

theorem Stp.refl : Stp ρ ρ H H := ⟨List.prefix_refl _, fun _ _ e _ _ => e, fun _ a b => absurd a b, fun _ _ _ e => e, fun _ ps e => ⟨ps, e⟩⟩
theorem Stp.trans (a : Stp ρ ρ1 H H1) (b : Stp ρ1 ρ2 H1 H2) : Stp ρ ρ2 H H2 := by
  refine ⟨a.pre.trans b.pre, fun c o e n nt => ?_, fun c m n => ?_, fun c o u e => b.fz c o u (a.fz c o u e), fun c ps e => ?_⟩
  rotate_left 2
  · obtain ⟨ps1, e1⟩ := a.tb c ps e
    exact b.tb c ps1 e1
  · refine b.fr c o (a.fr c o e n nt) (fun m => ?_) nt
    rw [a.nw c m n] at e
    cases e
  · by_cases m1 : c ∈ ρ1
    · exact a.nw c m1 n
    · have q := b.nw c m m1
      cases e : H c with
      | none => rfl
      | some o =>
        by_cases nt : ∃ ps, o = .tbl ps
        · obtain ⟨ps, rfl⟩ := nt
          obtain ⟨ps', e'⟩ := a.tb c ps e
          rw [e'] at q
          cases q
        · rw [a.fr c o e n fun ps z => nt ⟨ps, z⟩] at q
          cases q

theorem FzT.mv (s : Stp ρ ρ' H H') {a : Addr} {vs : List V} (e : FzT K H a vs) : FzT K H' a vs := by
  rcases e with ⟨o, e, d⟩ | e
  · exact .inl ⟨o, s.fz _ _ _ e, d⟩
  · exact .inr e
theorem pre_get {α : Type} {l l' : List α} (p : l <+: l') {n : Nat} {a : α} (e : l[n]? = some a) : l'[n]? = some a := by
  obtain ⟨t, rfl⟩ := p
  rw [List.getElem?_append_left (List.getElem?_eq_some_iff.mp e).1]
  exact e
mutual
theorem VR.mv (r : Rel K ρ h H) (s : Stp ρ ρ' H H') : ∀ {w : W} {v : V}, VR K ρ H w v → VR K ρ' H' w v
  | .non, _, e => by unfold VR at e ⊢; exact e
  | .bl _, _, e => by unfold VR at e ⊢; exact e
  | .int _, _, e => by unfold VR at e ⊢; exact e
  | .str _, _, e => by unfold VR at e ⊢; exact e
  | .tup ws, _, e => by
    unfold VR at e ⊢
    obtain ⟨a, vs, e1, e2, e3⟩ := e
    exact ⟨a, vs, e1, e2.mv s, VRs.mv r s e3⟩
  | .frl ws, _, e => by
    unfold VR at e ⊢
    obtain ⟨a, vs, e1, e2, e3⟩ := e
    exact ⟨a, vs, e1, e2.elim (fun ⟨o, q⟩ => .inl ⟨o, s.fz _ _ _ q⟩) .inr, VRs.mv r s e3⟩
  | .ref n, _, e => by
    unfold VR at e ⊢
    obtain ⟨a, e1, e2⟩ := e
    exact ⟨a, pre_get s.pre e1, e2⟩
  | .clo _, _, e => by unfold VR at e; exact e.elim
theorem VRs.mv (r : Rel K ρ h H) (s : Stp ρ ρ' H H') : ∀ {ws : List W} {vs : List V}, VRs K ρ H ws vs → VRs K ρ' H' ws vs
  | [], _, e => by unfold VRs at e ⊢; exact e
  | _ :: _, _, e => by
    unfold VRs at e ⊢
    obtain ⟨v, q, e1, e2, e3⟩ := e
    exact ⟨v, q, e1, VR.mv r s e2, VRs.mv r s e3⟩
end
theorem KRs.mv (r : Rel K ρ h H) (s : Stp ρ ρ' H H') : ∀ {ws : List (L2.Key × W)} {vs : List (L2.Key × V)}, KRs K ρ H ws vs → KRs K ρ' H' ws vs
  | [], _, e => by unfold KRs at e ⊢; exact e
  | (_, _) :: _, _, e => by
    unfold KRs at e ⊢
    obtain ⟨v, q, e1, e2, e3⟩ := e
    exact ⟨v, q, e1, e2.mv r s, KRs.mv r s e3⟩

/-- a step that leaves the machine's heap as it is -/
theorem Rel.same (r : Rel K ρ h H) (s : Stp ρ ρ H H') (k : ∀ a o, H a = some o → H' a = some o) : Rel K ρ h H' := by
  refine ⟨r.len, r.nd, fun n a e => ?_, r.out, r.tab.ext k⟩
  obtain ⟨o, e1, q⟩ := r.ob n a e
  refine ⟨o, e1, ?_⟩
  cases o with
  | lst xs => obtain ⟨vs, q1, q2⟩ := q; exact ⟨vs, k _ _ q1, q2.mv r s⟩
  | dct kvs => obtain ⟨vs, q1, q2⟩ := q; exact ⟨vs, k _ _ q1, q2.mv r s⟩
/-- a machine address is tracked -/
theorem Rel.trk (r : Rel K ρ h H) {a : Addr} (m : a ∈ ρ) : H a ≠ none := fun e => by
  obtain ⟨n, hn⟩ := List.getElem?_of_mem m
  obtain ⟨o, _, q⟩ := r.ob n a hn
  cases o with
  | lst xs => obtain ⟨vs, q, _⟩ := q; rw [e] at q; cases q
  | dct kvs => obtain ⟨vs, q, _⟩ := q; rw [e] at q; cases q
/-- something new stands at p, which the machine does not know -/
theorem Stp.laid (p : Addr) (o : HO) (hp : H p = none) : Stp ρ ρ H (upd H p o) :=
  ⟨List.prefix_refl _, fun a ob e _ _ => by rw [upd_ne (ne_of_none e hp)]; exact e, fun _ a b => absurd a b, fun a ob u e => by rw [upd_ne (ne_of_none e hp)]; exact e, fun a ps e => ⟨ps, by rw [upd_ne (ne_of_none e hp)]; exact e⟩⟩
theorem Rel.laid (r : Rel K ρ h H) (p : Addr) (o : HO) (hp : H p = none) : Rel K ρ h (upd H p o) :=
  r.same (Stp.laid p o hp) fun a ob e => by rw [upd_ne (ne_of_none e hp)]; exact e
theorem Hw.nsame (h : Hw) (o : HW) : (h.new o).n = h.n + 1 := rfl
/-- a new machine object -/
theorem Stp.new (r : Rel K ρ h H) (p : Addr) (o : HO) (hp : H p = none) : Stp ρ (ρ ++ [p]) H (upd H p o) := by
  refine ⟨List.prefix_append _ _, fun a ob e _ _ => by rw [upd_ne (ne_of_none e hp)]; exact e, fun a m n => ?_, fun a ob u e => by rw [upd_ne (ne_of_none e hp)]; exact e, fun a ps e => ⟨ps, by rw [upd_ne (ne_of_none e hp)]; exact e⟩⟩
  rcases List.mem_append.mp m with m | m
  · exact absurd m n
  · rw [List.mem_singleton.mp m]; exact hp
theorem Rel.new (r : Rel K ρ h H) (p : Addr) (ho : HO) (o : HW) (hp : H p = none) (q : OR K (ρ ++ [p]) (upd H p ho) p o) : Rel K (ρ ++ [p]) (h.new o) (upd H p ho) := by
  have np : p ∉ ρ := fun m => r.trk m hp
  have s := Stp.new r p ho hp
  refine ⟨by rw [List.length_append, r.len]; rfl, ?_, fun n a e => ?_, fun n hn => ?_, r.tab.ext fun a ob e => by rw [upd_ne (ne_of_none e hp)]; exact e⟩
  · rw [List.nodup_append]
    exact ⟨r.nd, by simp, fun a m b m' z => by rw [List.mem_singleton.mp m'] at z; exact np (z ▸ m)⟩
  · by_cases hn : n < ρ.length
    · rw [List.getElem?_append_left hn] at e
      obtain ⟨ob, e1, q1⟩ := r.ob n a e
      have ne : h.n ≠ n := by rw [← r.len]; omega
      refine ⟨ob, by rw [Hw.new_ne h o ne]; exact e1, ?_⟩
      have na : a ≠ p := fun z => np (z ▸ List.mem_of_getElem? e)
      cases ob with
      | lst xs => obtain ⟨vs, q1, q2⟩ := q1; exact ⟨vs, by rw [upd_ne na]; exact q1, q2.mv r s⟩
      | dct kvs => obtain ⟨vs, q1, q2⟩ := q1; exact ⟨vs, by rw [upd_ne na]; exact q1, q2.mv r s⟩
    · have hl : n = ρ.length := by
        have := (List.getElem?_eq_some_iff.mp e).1
        rw [List.length_append] at this
        simp at this
        omega
      subst hl
      rw [List.getElem?_append_right (Nat.le_refl _)] at e
      simp at e
      subst e
      exact ⟨o, by rw [r.len]; exact Hw.new_same h o, q⟩
  · have hn' : h.n + 1 ≤ n := hn
    rw [Hw.new_ne h o (by omega)]
    exact r.out n (by omega)
/-- a machine object is written -/
theorem Stp.wr {n : Nat} {p : Addr} (ho : HO) (e : ρ[n]? = some p) (nz : NoZ H p) : Stp ρ ρ H (upd H p ho) := by
  refine ⟨List.prefix_refl _, fun a ob q m _ => ?_, fun _ a b => absurd a b, fun a ob u q => ?_, fun a ps q => ⟨ps, by rw [upd_ne (nz.ne q (.inr (.inl ⟨_, rfl⟩)))]; exact q⟩⟩
  · have na : a ≠ p := by rintro rfl; exact m (List.mem_of_getElem? e)
    rw [upd_ne na]; exact q
  · rw [upd_ne (nz.ne q (.inl ⟨_, _, rfl⟩))]; exact q
theorem Rel.wr (r : Rel K ρ h H) {n : Nat} {p : Addr} (ho : HO) (o : HW) (e : ρ[n]? = some p) (nz : NoZ H p) (q : OR K ρ (upd H p ho) p o) : Rel K ρ (h.set n o) (upd H p ho) := by
  have s : Stp ρ ρ H (upd H p ho) := Stp.wr ho e nz
  refine ⟨r.len, r.nd, fun m a e1 => ?_, fun m hm => ?_, nz.tabs r.tab⟩
  · by_cases hmn : m = n
    · subst hmn
      rw [e] at e1; cases e1
      exact ⟨o, Hw.set_same h m o, q⟩
    · obtain ⟨ob, e2, q1⟩ := r.ob m a e1
      have na : a ≠ p := fun z => hmn (by
        subst z
        obtain ⟨l1, x1⟩ := List.getElem?_eq_some_iff.mp e
        obtain ⟨l2, x2⟩ := List.getElem?_eq_some_iff.mp e1
        exact (List.getElem_inj r.nd).mp (x2.trans x1.symm))
      refine ⟨ob, by rw [Hw.set_ne h o (Ne.symm hmn)]; exact e2, ?_⟩
      cases ob with
      | lst xs => obtain ⟨vs, q1, q2⟩ := q1; exact ⟨vs, by rw [upd_ne na]; exact q1, q2.mv r s⟩
      | dct kvs => obtain ⟨vs, q1, q2⟩ := q1; exact ⟨vs, by rw [upd_ne na]; exact q1, q2.mv r s⟩
  · have hm' : h.n ≤ m := hm
    have ne : n ≠ m := by
      have := (List.getElem?_eq_some_iff.mp e).1
      rw [r.len] at this
      omega
    rw [Hw.set_ne h o ne]
    exact r.out m hm'
/-- more is known of tables -/
theorem Stp.ofExt (e : LamX.ExtN H H') (t : ∀ a ps, H a = some (.tbl ps) → ∃ ps', H' a = some (.tbl ps')) : Stp ρ ρ H H' :=
  ⟨List.prefix_refl _, fun a o q _ n => e a o q n, fun _ a b => absurd a b, fun a o u q => e a _ q fun _ z => (nomatch z), t⟩
theorem Rel.ofExt (r : Rel K ρ h H) (e : LamX.ExtN H H') (t : ∀ a ps, H a = some (.tbl ps) → ∃ ps', H' a = some (.tbl ps')) (tt : LamX.Tabs TabI.T H') : Rel K ρ h H' := by
  have s : Stp ρ ρ H H' := Stp.ofExt e t
  refine ⟨r.len, r.nd, fun n a e1 => ?_, r.out, tt⟩
  obtain ⟨o, e2, q⟩ := r.ob n a e1
  refine ⟨o, e2, ?_⟩
  cases o with
  | lst xs => obtain ⟨vs, q1, q2⟩ := q; exact ⟨vs, e _ _ q1 (fun _ z => (nomatch z)), q2.mv r s⟩
  | dct kvs => obtain ⟨vs, q1, q2⟩ := q; exact ⟨vs, e _ _ q1 (fun _ z => (nomatch z)), q2.mv r s⟩
/-- what stands at a reference -/
theorem Rel.lst (r : Rel K ρ h H) {n : Nat} {xs : List W} (e : h.get n = some (.lst xs)) {v : V} (q : VR K ρ H (.ref n) v) : ∃ a vs, v = .ref a ∧ ρ[n]? = some a ∧ H a = some (.lst vs) ∧ VRs K ρ H xs vs := by
  unfold VR at q
  obtain ⟨a, e1, e2⟩ := q
  obtain ⟨o, e3, q⟩ := r.ob n a e1
  rw [e] at e3; cases e3
  obtain ⟨vs, q1, q2⟩ := q
  exact ⟨a, vs, e2, e1, q1, q2⟩
theorem Rel.dct (r : Rel K ρ h H) {n : Nat} {xs : List (L2.Key × W)} (e : h.get n = some (.dct xs)) {v : V} (q : VR K ρ H (.ref n) v) : ∃ a vs, v = .ref a ∧ ρ[n]? = some a ∧ H a = some (.dK vs) ∧ KRs K ρ H xs vs := by
  unfold VR at q
  obtain ⟨a, e1, e2⟩ := q
  obtain ⟨o, e3, q⟩ := r.ob n a e1
  rw [e] at e3; cases e3
  obtain ⟨vs, q1, q2⟩ := q
  exact ⟨a, vs, e2, e1, q1, q2⟩
end TL
/-! What a run of the machine promises of the reading. -/
namespace TL
open PySem L2
variable [TabI]

/-- exceptions: the machine's class number, its data; the class and its own dict -/
def XR (ct : Nat → Option Value) (c : Nat) (ds : List W) (cls : Value) (dd : Option Addr) : Prop := ds = [] ∧ ct c = some cls ∧ dd = none

def rd (K : PySem.W.Frag) (ct : Nat → Option Value) (Wx : XK) (ρ : List Addr) (H : Hp) {α : Type} : R α → (α → List Addr → Hw → Hp → Prop) → Prop
  | .ok a h', Q => ∀ ρ' H', Stp ρ ρ' H H' → Rel K ρ' h' H' → Q a ρ' h' H'
  | .exc c d h', _ => ∀ ρ' H' cls dd, Stp ρ ρ' H H' → Rel K ρ' h' H' → XR ct c d cls dd → Wx cls dd H'
  | .err, _ => False

section
variable {K : PySem.W.Frag} {ct : Nat → Option Value} {Wx : XK} {ρ ρ1 : List Addr} {H H1 : Hp} {α β : Type} {h : Hw}
theorem rd.imp {r : R α} {Q Q' : α → List Addr → Hw → Hp → Prop} (x : rd K ct Wx ρ H r Q) (f : ∀ a ρ' h' H', Stp ρ ρ' H H' → Rel K ρ' h' H' → Q a ρ' h' H' → Q' a ρ' h' H') : rd K ct Wx ρ H r Q' := by
  cases r with
  | ok a h' => exact fun ρ' H' s l => f a ρ' h' H' s l (x ρ' H' s l)
  | exc c d h' => exact x
  | err => exact x
theorem rd.mv {r : R α} {Q : α → List Addr → Hw → Hp → Prop} (x : rd K ct Wx ρ H r Q) (s : Stp ρ ρ1 H H1) : rd K ct Wx ρ1 H1 r Q := by
  cases r with
  | ok a h' => exact fun ρ' H' s' l => x ρ' H' (s.trans s') l
  | exc c d h' => exact fun ρ' H' cls dd s' l => x ρ' H' cls dd (s.trans s') l
  | err => exact x
theorem rd.bind {r : R α} {f : α → Hw → R β} {Q : β → List Addr → Hw → Hp → Prop} (x : rd K ct Wx ρ H (r.bind f) Q) : rd K ct Wx ρ H r (fun a ρ' h' H' => rd K ct Wx ρ' H' (f a h') Q) := by
  cases r with
  | ok a h' => exact fun ρ' H' s l => rd.mv (r := f a h') x s
  | exc c d h' => exact x
  | err => exact x
theorem rd.join {r : R α} {f : α → Hw → R β} {Q : β → List Addr → Hw → Hp → Prop} (rl : Rel K ρ h H) (x : rd K ct Wx ρ H r (fun a ρ' h' H' => rd K ct Wx ρ' H' (f a h') Q)) (e : r = .ok a h) : rd K ct Wx ρ H (r.bind f) Q := by
  subst e
  exact x ρ H Stp.refl rl
/-- at once -/
theorem rd.now {a : α} {Q : α → List Addr → Hw → Hp → Prop} (x : rd K ct Wx ρ H (.ok a h) Q) (l : Rel K ρ h H) : Q a ρ h H := x ρ H Stp.refl l
end

/-- the closure that was handed in: its object, its code object with the name that it tells, what its cells hold -/
class CloI where
  f : Addr
  c : Addr
  q : Str
  vs : List V
variable [CloI]
/-- a slot's value: a value, or the closure that was handed in -/
def VE (K : PySem.W.Frag) (ρ : List Addr) (H : Hp) (w : W) (v : V) : Prop := match w with
  | .clo ws => v = .ref CloI.f ∧ VRs K ρ H ws CloI.vs ∧ H CloI.c = some (LamX.CodeO CloI.c CloI.q)
  | w => VR K ρ H w v
structure ER (K : PySem.W.Frag) (ρ : List Addr) (H : Hp) (env : Env) (σ : L2.St) : Prop where
  len : env.length = σ.length
  get : ∀ (i : Nat) (w : W), env[i]? = some (some w) → ∃ v, σ[i]? = some (some v) ∧ VE K ρ H w v

section
variable {K : PySem.W.Frag} {ρ ρ' : List Addr} {H H' : Hp} {h : Hw} {env : Env} {σ : L2.St}
theorem VE.of {w : W} {v : V} (q : VR K ρ H w v) : VE K ρ H w v := by
  cases w with
  | clo ws => unfold VR at q; exact q.elim
  | _ => exact q
theorem VE.vr {w : W} {v : V} (q : VE K ρ H w v) (n : ∀ ws, w ≠ .clo ws) : VR K ρ H w v := by
  cases w with
  | clo ws => exact absurd rfl (n ws)
  | _ => exact q
theorem Rel.noExt (r : Rel K ρ h H) {a : Addr} {φ : Heap → Prop} (e : H a = some (.ext φ)) : a ∉ ρ := fun m => by
  obtain ⟨n, hn⟩ := List.getElem?_of_mem m
  obtain ⟨o, _, q⟩ := r.ob n a hn
  cases o with
  | lst xs => obtain ⟨vs, q, _⟩ := q; rw [e] at q; cases q
  | dct kvs => obtain ⟨vs, q, _⟩ := q; rw [e] at q; cases q
theorem VE.mv (r : Rel K ρ h H) (s : Stp ρ ρ' H H') {w : W} {v : V} (q : VE K ρ H w v) : VE K ρ' H' w v := by
  cases w with
  | clo ws => exact ⟨q.1, VRs.mv r s q.2.1, s.fr _ _ q.2.2 (r.noExt q.2.2) LamX.codeO_ne⟩
  | _ => exact VR.mv r s q
theorem slotV_get {i : Nat} {w : W} (e : slotV env i = some w) : env[i]? = some (some w) ∧ ∀ ws, w ≠ .clo ws := by
  unfold slotV at e
  split at e
  · rename_i w' h'
    split at e
    · cases e
    · rename_i hn
      cases e
      exact ⟨h', fun ws z => hn ws z⟩
  · cases e
theorem ER.slot (e : ER K ρ H env σ) {i : Nat} {w : W} (h : slotV env i = some w) : ∃ v, σ[i]? = some (some v) ∧ VR K ρ H w v := by
  obtain ⟨h1, h2⟩ := slotV_get h
  obtain ⟨v, e1, q⟩ := e.get i w h1
  exact ⟨v, e1, q.vr h2⟩
theorem ER.mv (e : ER K ρ H env σ) (r : Rel K ρ h H) (s : Stp ρ ρ' H H') : ER K ρ' H' env σ :=
  ⟨e.len, fun i w q => let ⟨v, q1, q2⟩ := e.get i w q; ⟨v, q1, VE.mv r s q2⟩⟩
theorem ER.set (e : ER K ρ H env σ) (i : Nat) {w : W} {v : V} (q : VR K ρ H w v) : ER K ρ H (env.set i (some w)) (σ.set i (some v)) := by
  refine ⟨by rw [List.length_set, List.length_set, e.len], fun j u hj => ?_⟩
  by_cases hij : i = j
  · subst hij
    by_cases hl : i < env.length
    · rw [List.getElem?_set_self hl] at hj
      cases hj
      exact ⟨v, by rw [List.getElem?_set_self (by rw [← e.len]; exact hl)], VE.of q⟩
    · rw [List.getElem?_eq_none (by rw [List.length_set]; omega)] at hj
      cases hj
  · rw [List.getElem?_set_ne hij] at hj
    rw [List.getElem?_set_ne hij]
    exact e.get j u hj
theorem ER.setNone (e : ER K ρ H env σ) (i : Nat) : ER K ρ H (env.set i none) (σ.set i none) := by
  refine ⟨by rw [List.length_set, List.length_set, e.len], fun j u hj => ?_⟩
  by_cases hij : i = j
  · subst hij
    by_cases hl : i < env.length
    · rw [List.getElem?_set_self hl] at hj
      cases hj
    · rw [List.getElem?_eq_none (by rw [List.length_set]; omega)] at hj
      cases hj
  · rw [List.getElem?_set_ne hij] at hj
    rw [List.getElem?_set_ne hij]
    exact e.get j u hj
theorem ER.wipe (e : ER K ρ H env σ) : ∀ vs : List Nat, ER K ρ H (wipeW env vs) (wipe σ vs)
  | [] => e
  | v :: vs => (ER.wipe e vs).setNone v
end

/-! ### readings -/
def tE (K : PySem.W.Frag) (ct : Nat → Option Value) (Wx : WX) (m : Env → Hw → R W) : TE := fun σ H Q => ∃ env ρ h, ER K ρ H env σ ∧ Rel K ρ h H ∧ rd K ct (fun c d => Wx c d σ) ρ H (m env h) fun w ρ' _ H' => ∀ v, VR K ρ' H' w v → Q v H'
def tT (K : PySem.W.Frag) (ct : Nat → Option Value) (Wx : WX) (m : Env → Hw → R Bool) : TT := fun σ H Q => ∃ env ρ h, ER K ρ H env σ ∧ Rel K ρ h H ∧ rd K ct (fun c d => Wx c d σ) ρ H (m env h) fun b _ _ H' => Q b H'
def tA (K : PySem.W.Frag) (ct : Nat → Option Value) (Wx : WX) (m : Env → Hw → R (List W)) : TA := fun σ H Q => ∃ env ρ h, ER K ρ H env σ ∧ Rel K ρ h H ∧ rd K ct (fun c d => Wx c d σ) ρ H (m env h) fun ws ρ' _ H' => ∀ vs, VRs K ρ' H' ws vs → Q vs H'

section
variable {X : Cx}
theorem PE.mo {e : Expr} {t t' : TE} (p : PE X e t) (f : ∀ σ H Q, t' σ H Q → t σ H Q) : PE X e t' := ⟨fun pins s σ H Q I q => p.run pins s σ H Q I (f σ H Q q)⟩
theorem PT.mo {e : Expr} {t t' : TT} (p : PT X e t) (f : ∀ σ H Q, t' σ H Q → t σ H Q) : PT X e t' := ⟨fun pins s σ H Q I q => p.run pins s σ H Q I (f σ H Q q)⟩
theorem PA.mo {e : List Expr} {t t' : TA} (p : PA X e t) (f : ∀ σ H Q, t' σ H Q → t σ H Q) : PA X e t' := ⟨fun pos pins s σ H Q I q => p.run pos pins s σ H Q I (f σ H Q q)⟩
theorem PS.mo {e : Stmt} {t t' : TS} (p : PS X e t) (f : ∀ D σ H, t' D σ H → t D σ H) : PS X e t' := ⟨fun pins s σ H D I q => p.run pins s σ H D I (f D σ H q)⟩
theorem PSs.mo {e : List Stmt} {t t' : TS} (p : PSs X e t) (f : ∀ D σ H, t' D σ H → t D σ H) : PSs X e t' := ⟨fun pins s σ H D I q => p.run pins s σ H D I (f D σ H q)⟩
theorem TE.mono_run {e : Expr} {t : TE} (p : PE X e t) : ∀ (pins : List (Addr × Obj)) (s : Shared) (σ : L2.St) (H : Hp) (Q : VK), Inv X pins σ H s → t σ H Q → wpAny (model X.prog X.w) X.A (eval e X.env) (EP X pins σ Q) X.xe s := p.run
end

/-! ### data -/
section
variable {K : PySem.W.Frag} {ρ : List Addr} {H : Hp} {h : Hw}
mutual
theorem toD_ok (r : Rel K ρ h H) : ∀ (f : Nat) (w : W) (v : V) (d : PyData), toD f h w = some d → VR K ρ H w v → Dp K H v d
  | 0, _, _, _, e, _ => by unfold toD at e; cases e
  | _ + 1, .non, _, _, e, q => by unfold toD at e; unfold VR at q; cases e; subst q; exact .non
  | _ + 1, .bl b, _, _, e, q => by unfold toD at e; unfold VR at q; cases e; subst q; exact .bl b
  | _ + 1, .int i, _, _, e, q => by unfold toD at e; unfold VR at q; cases e; subst q; exact .int i
  | _ + 1, .str x, _, _, e, q => by unfold toD at e; unfold VR at q; cases e; subst q; exact .str x
  | f + 1, .tup xs, _, _, e, q => by
    unfold toD at e
    unfold VR at q
    obtain ⟨a, vs, rfl, q1, q2⟩ := q
    cases e1 : optAll (xs.map (toD f h)) with
    | none => rw [e1] at e; cases e
    | some ds =>
      rw [e1] at e; cases e
      exact .tup q1.sq (toDs_ok r f xs vs ds e1 q2)
  | _ + 1, .frl _, _, _, e, _ => by unfold toD at e; cases e
  | _ + 1, .clo _, _, _, _, q => by unfold VR at q; exact q.elim
  | f + 1, .ref n, _, _, e, q => by
    unfold toD at e
    cases e0 : h.get n with
    | none => rw [e0] at e; cases e
    | some o =>
      rw [e0] at e
      cases o with
      | dct kvs => cases e
      | lst xs =>
        obtain ⟨a, vs, rfl, _, q1, q2⟩ := r.lst e0 q
        cases e1 : optAll (xs.map (toD f h)) with
        | none => simp only [e1] at e; cases e
        | some ds =>
          simp only [e1] at e; cases e
          exact .lst (SqL.of q1) (toDs_ok r f xs vs ds e1 q2)
theorem toDs_ok (r : Rel K ρ h H) : ∀ (f : Nat) (ws : List W) (vs : List V) (ds : List PyData), optAll (ws.map (toD f h)) = some ds → VRs K ρ H ws vs → DpAll K H vs ds
  | f, [], _, _, e, q => by
    unfold VRs at q
    rw [List.map_nil] at e
    unfold optAll at e
    cases e; subst q; exact .nil
  | f, w :: ws, _, _, e, q => by
    unfold VRs at q
    obtain ⟨v, vs, rfl, q1, q2⟩ := q
    rw [List.map_cons] at e
    cases e1 : toD f h w with
    | none => rw [e1] at e; unfold optAll at e; cases e
    | some d =>
      rw [e1] at e
      unfold optAll at e
      cases e2 : optAll (ws.map (toD f h)) with
      | none => simp only [e2] at e; cases e
      | some ds =>
        simp only [e2] at e; cases e
        exact .cons (toD_ok r f w v d e1 q1) (toDs_ok r f ws vs ds e2 q2)
end
theorem VR.nodep_int {i : Int} {v : V} (q : VR K ρ H (.int i) v) : v = .int i := by unfold VR at q; exact q
theorem VR.nodep_bl {i : Bool} {v : V} (q : VR K ρ H (.bl i) v) : v = .bl i := by unfold VR at q; exact q
theorem VR.nodep_str {i : Str} {v : V} (q : VR K ρ H (.str i) v) : v = .str i := by unfold VR at q; exact q
theorem VR.nodep_non {v : V} (q : VR K ρ H .non v) : v = .non := by unfold VR at q; exact q
theorem VR.tup {ws : List W} {v : V} (q : VR K ρ H (.tup ws) v) : ∃ a vs, v = .ref a ∧ FzT K H a vs ∧ VRs K ρ H ws vs := by unfold VR at q; exact q
theorem VR.frl {ws : List W} {v : V} (q : VR K ρ H (.frl ws) v) : ∃ a vs, v = .ref a ∧ FzL K H a vs ∧ VRs K ρ H ws vs := by unfold VR at q; exact q
theorem VR.mk_int {i : Int} : VR K ρ H (.int i) (.int i) := by unfold VR; rfl
theorem VR.mk_bl {i : Bool} : VR K ρ H (.bl i) (.bl i) := by unfold VR; rfl
theorem VR.mk_str {i : Str} : VR K ρ H (.str i) (.str i) := by unfold VR; rfl
theorem VR.mk_non : VR K ρ H .non .non := by unfold VR; rfl
theorem VR.mk_tup {ws : List W} {a : Addr} {vs : List V} (q : FzT K H a vs) (q2 : VRs K ρ H ws vs) : VR K ρ H (.tup ws) (.ref a) := by unfold VR; exact ⟨a, vs, rfl, q, q2⟩
theorem VR.mk_ref {n : Nat} {a : Addr} (q : ρ[n]? = some a) : VR K ρ H (.ref n) (.ref a) := by unfold VR; exact ⟨a, q, rfl⟩
theorem VRs.nil_iff {vs : List V} : VRs K ρ H [] vs ↔ vs = [] := by unfold VRs; exact Iff.rfl
theorem VRs.cons_iff {w : W} {ws : List W} {vs : List V} : VRs K ρ H (w :: ws) vs ↔ ∃ v r, vs = v :: r ∧ VR K ρ H w v ∧ VRs K ρ H ws r := by
  constructor
  · intro q; unfold VRs at q; exact q
  · intro q; unfold VRs; exact q
theorem VRs.one {w : W} {vs : List V} (q : VRs K ρ H [w] vs) : ∃ v, vs = [v] ∧ VR K ρ H w v := by
  obtain ⟨v, r, e, q1, q2⟩ := VRs.cons_iff.mp q
  rw [VRs.nil_iff.mp q2] at e
  exact ⟨v, e, q1⟩
theorem VRs.two {w u : W} {vs : List V} (q : VRs K ρ H [w, u] vs) : ∃ v v2, vs = [v, v2] ∧ VR K ρ H w v ∧ VR K ρ H u v2 := by
  obtain ⟨v, r, e, q1, q2⟩ := VRs.cons_iff.mp q
  obtain ⟨v2, e2, q3⟩ := VRs.one q2
  subst e2
  exact ⟨v, v2, e, q1, q3⟩
theorem VRs.app : ∀ {ws us : List W} {vs ts : List V}, VRs K ρ H ws vs → VRs K ρ H us ts → VRs K ρ H (ws ++ us) (vs ++ ts)
  | [], _, _, _, p, q => by rw [VRs.nil_iff.mp p]; exact q
  | w :: ws, _, _, _, p, q => by
    obtain ⟨v, r, rfl, p1, p2⟩ := VRs.cons_iff.mp p
    exact VRs.cons_iff.mpr ⟨v, _, rfl, p1, VRs.app p2 q⟩
theorem VRs.get : ∀ {ws : List W} {vs : List V} {i : Nat} {w : W}, VRs K ρ H ws vs → ws[i]? = some w → ∃ v, vs[i]? = some v ∧ VR K ρ H w v
  | [], _, _, _, _, e => by simp at e
  | x :: ws, _, 0, w, p, e => by
    obtain ⟨v, r, rfl, p1, p2⟩ := VRs.cons_iff.mp p
    simp at e; subst e
    exact ⟨v, rfl, p1⟩
  | x :: ws, _, i + 1, w, p, e => by
    obtain ⟨v, r, rfl, p1, p2⟩ := VRs.cons_iff.mp p
    obtain ⟨u, q1, q2⟩ := VRs.get (i := i) p2 (by simpa using e)
    exact ⟨u, by simpa using q1, q2⟩
theorem VRs.take : ∀ {ws : List W} {vs : List V} (n : Nat), VRs K ρ H ws vs → VRs K ρ H (ws.take n) (vs.take n)
  | _, _, 0, _ => by simp [VRs.nil_iff]
  | [], _, n + 1, p => by rw [VRs.nil_iff.mp p]; simp [VRs.nil_iff]
  | x :: ws, _, n + 1, p => by
    obtain ⟨v, r, rfl, p1, p2⟩ := VRs.cons_iff.mp p
    exact VRs.cons_iff.mpr ⟨v, _, rfl, p1, VRs.take n p2⟩
theorem VRs.drop : ∀ {ws : List W} {vs : List V} (n : Nat), VRs K ρ H ws vs → VRs K ρ H (ws.drop n) (vs.drop n)
  | _, _, 0, p => p
  | [], _, n + 1, p => by rw [VRs.nil_iff.mp p]; simp [VRs.nil_iff]
  | x :: ws, _, n + 1, p => by
    obtain ⟨v, r, rfl, p1, p2⟩ := VRs.cons_iff.mp p
    exact VRs.drop n p2
theorem VRs.set : ∀ {ws : List W} {vs : List V} (i : Nat) {w : W} {v : V}, VRs K ρ H ws vs → VR K ρ H w v → VRs K ρ H (ws.set i w) (vs.set i v)
  | [], _, _, _, _, p, _ => by rw [VRs.nil_iff.mp p]; simp [VRs.nil_iff]
  | x :: ws, _, 0, _, _, p, q => by
    obtain ⟨v, r, rfl, p1, p2⟩ := VRs.cons_iff.mp p
    exact VRs.cons_iff.mpr ⟨_, _, rfl, q, p2⟩
  | x :: ws, _, i + 1, _, _, p, q => by
    obtain ⟨v, r, rfl, p1, p2⟩ := VRs.cons_iff.mp p
    exact VRs.cons_iff.mpr ⟨_, _, rfl, p1, VRs.set i p2 q⟩
theorem VRs.eraseIdx : ∀ {ws : List W} {vs : List V} (i : Nat), VRs K ρ H ws vs → VRs K ρ H (ws.eraseIdx i) (vs.eraseIdx i)
  | [], _, _, p => by rw [VRs.nil_iff.mp p]; simp [VRs.nil_iff]
  | x :: ws, _, 0, p => by
    obtain ⟨v, r, rfl, p1, p2⟩ := VRs.cons_iff.mp p
    exact p2
  | x :: ws, _, i + 1, p => by
    obtain ⟨v, r, rfl, p1, p2⟩ := VRs.cons_iff.mp p
    exact VRs.cons_iff.mpr ⟨_, _, rfl, p1, VRs.eraseIdx i p2⟩
theorem VRs.rep {ws : List W} {vs : List V} (p : VRs K ρ H ws vs) : ∀ n, VRs K ρ H (List.replicate n ws).flatten (List.replicate n vs).flatten
  | 0 => by simp [VRs.nil_iff]
  | n + 1 => by
    rw [List.replicate_succ, List.replicate_succ, List.flatten_cons, List.flatten_cons]
    exact p.app (VRs.rep p n)
theorem VRs.ints {ns : List Int} : ∀ {vs : List V}, VRs K ρ H (ns.map W.int) vs → vs = ns.map V.int := by
  induction ns with
  | nil => intro vs p; exact VRs.nil_iff.mp p
  | cons n ns ih =>
    intro vs p
    obtain ⟨v, r, rfl, p1, p2⟩ := VRs.cons_iff.mp p
    rw [ih p2, p1.nodep_int]
    rfl
/-- a sequence -/
theorem seqOf_ok (r : Rel K ρ h H) {w : W} {v : V} {xs : List W} (e : seqOf h w = some xs) (q : VR K ρ H w v) : ∃ a vs, v = .ref a ∧ (SqL K H a vs ∨ SqT K H a vs) ∧ VRs K ρ H xs vs := by
  cases w with
  | tup ws =>
    unfold seqOf at e; cases e
    obtain ⟨a, vs, rfl, q1, q2⟩ := q.tup
    exact ⟨a, vs, rfl, .inr q1.sq, q2⟩
  | frl ws =>
    unfold seqOf at e; cases e
    obtain ⟨a, vs, rfl, q1, q2⟩ := q.frl
    exact ⟨a, vs, rfl, .inl q1.seq, q2⟩
  | ref n =>
    cases e0 : h.get n with
    | none => simp only [seqOf, e0] at e; cases e
    | some o =>
      cases o with
      | dct _ => simp only [seqOf, e0] at e; cases e
      | lst ys =>
        simp only [seqOf, e0] at e
        cases e
        obtain ⟨a, vs, rfl, _, q1, q2⟩ := r.lst e0 q
        exact ⟨a, vs, rfl, .inl (SqL.of q1), q2⟩
  | non => unfold seqOf at e; cases e
  | bl _ => unfold seqOf at e; cases e
  | int _ => unfold seqOf at e; cases e
  | str _ => unfold seqOf at e; cases e
  | clo _ => unfold seqOf at e; cases e
end
end TL
/-! What is walked: enumerate, zip, over lists and tuples. -/
namespace TL
open PySem PySem.Spec PyProof.Rows L2

/-! ### a list or a tuple -/
def SqX (K : PySem.W.Frag) (b : Bool) (H : Hp) (a : Addr) (xs : List V) : Prop := match b with
  | true => SqT K H a xs
  | false => SqL K H a xs
def ItrX (b : Bool) (h : Heap) (it a : Addr) (i : Nat) : Prop := match b with
  | true => h.IsTupleIter it a i
  | false => h.IsListIter it a i
def IsX (b : Bool) (h : Heap) (a : Addr) (items : Array Value) : Prop := match b with
  | true => h.IsTuple a items
  | false => h.IsList a items
def itO (b : Bool) (a : Addr) : Obj := match b with
  | true => { cls := .type "tuple_iterator", data := .fields #[.ref a, .int 0 0] }
  | false => { cls := .type "list_iterator", data := .fields #[.ref a, .int 0 0] }
theorem drawsX (b : Bool) {prog : Program} {w : World} {A : Around} (hh : A.handled = none) (it a : Addr) (hne : a ≠ it) (items : Array Value) :
    Draws prog w A it [it, a] items.size (fun i v => items[i]? = some v) (fun i h => ItrX b h it a i ∧ IsX b h a items) := by
  cases b with
  | true => exact Draws.tuple hh it a hne items
  | false => exact Draws.list hh it a hne items
theorem beginsX (b : Bool) (a : Addr) (items : Array Value) : Begins (.ref a) (itO b a) fun h => IsX b h a items := by
  cases b with
  | true => exact begins_tuple a items
  | false => exact begins_list a items
theorem seqX {X : Cx} {pins : List (Addr × Obj)} {σ : L2.St} {H : Hp} {s : Shared} (I : Inv X pins σ H s) {b : Bool} {a : Addr} {xs : List V} (e : SqX X.K b H a xs) : ∃ its : List Value, Vals xs its ∧ IsX b s.heap a its.toArray ∧ xs.length ≤ sizeLine := by
  cases b with
  | true =>
    obtain ⟨its, r, p, z⟩ := I.tuple e
    exact ⟨its, r, p, z⟩
  | false =>
    obtain ⟨its, r, p, z⟩ := I.list e
    exact ⟨its, r, p.isList, z⟩
theorem seqX_inj {X : Cx} {pins : List (Addr × Obj)} {σ : L2.St} {H : Hp} {s : Shared} (I : Inv X pins σ H s) {b : Bool} {a : Addr} {xs ys : List V} (e : SqX X.K b H a xs) (e' : SqX X.K b H a ys) : xs = ys := by
  cases b with
  | true => exact I.tuple_inj e e'
  | false => exact I.list_inj e e'
theorem itrX_at {b : Bool} {h h' : Heap} {it a : Addr} {i : Nat} (e : ItrX b h it a i) (k : ∀ o, h.get? it = some o → h'.get? it = some o) : ItrX b h' it a i := by
  cases b with
  | true => exact e.at k
  | false => exact e.at k
theorem itrX_obj {b : Bool} {h : Heap} {it a : Addr} {i : Nat} (e : ItrX b h it a i) : ∃ o, h.get? it = some o ∧ ∀ v, o.data ≠ .cell v := by
  cases b with
  | true =>
    obtain ⟨o, ho, _, hd⟩ := e
    exact ⟨o, ho, fun v q => by rw [hd] at q; cases q⟩
  | false =>
    obtain ⟨o, ho, _, hd⟩ := e
    exact ⟨o, ho, fun v q => by rw [hd] at q; cases q⟩
theorem itO_iter (b : Bool) {h : Heap} {it a : Addr} (e : h.get? it = some (itO b a)) : ItrX b h it a 0 := by
  cases b with
  | true => exact ⟨_, e, rfl, rfl⟩
  | false => exact ⟨_, e, rfl, rfl⟩
theorem isX_lt {b : Bool} {h : Heap} {a : Addr} {items : Array Value} (e : IsX b h a items) : a < h.objs.size := by
  cases b with
  | true => obtain ⟨o, q, _⟩ := e; exact Heap.lt_size q
  | false => obtain ⟨o, q, _⟩ := e; exact Heap.lt_size q
/-- a new tuple of these -/
def NewT (H : Hp) (xs : List V) (v : V) (H' : Hp) : Prop := ∃ (T : Addr) (o : Obj), v = .ref T ∧ H T = none ∧ o.dict = none ∧ H' = upd H T (.frz o (.tup xs))
theorem turned_tup {X : Cx} {pins : List (Addr × Obj)} {σ : L2.St} {H : Hp} {s : Shared} {h' : Heap} {t' : Nat} {ch : List Addr} {xs : List V} {us : List Value} (I : Inv X pins σ H s)
    (k : ∀ (b : Addr) (o : Obj), b ∉ ch → s.heap.get? b = some o → h'.get? b = some o) (f : ∀ b ∈ ch, FpOk X pins H b) (z : xs.length ≤ sizeLine) (r : Vals xs us)
    (e : h'.get? s.heap.objs.size = some { cls := .type "tuple", data := .seq us.toArray }) :
    ∃ H', Inv X pins σ H' { s with heap := h', toks := t' } ∧ NewT H xs (.ref s.heap.objs.size) H' ∧ ∀ b, b < s.heap.objs.size → H' b = H b := by
  have J := I.turnedNew (t' := t') (T := s.heap.objs.size) (ob := .frz { cls := .type "tuple", data := .seq us.toArray } (.tup xs)) k f (Nat.le_refl _) ⟨e, z, us, r, _, e, rfl, _, rfl⟩
  exact ⟨_, J, ⟨_, _, rfl, I.hok.fresh (Nat.le_refl _), rfl, rfl⟩, fun b hb => upd_ne (Nat.ne_of_lt hb)⟩

/-! ### enumerate -/
def ItE (K : PySem.W.Frag) (b : Bool) (a : Addr) : It where
  go := fun i H => ∃ (xs : List V) (x : V), SqX K b H a xs ∧ xs[i]? = some x
  yld := fun i H v H' => ∃ x, NewT H [.int (i : Nat), x] v H' ∧ ∀ xs, SqX K b H a xs → xs[i]? = some x
  stop := fun i H => ∃ xs : List V, SqX K b H a xs ∧ xs.length = i
theorem turnE {P : Program} {w : World} {K : PySem.W.Frag} {elts : List Expr} {kk : Nat} {tpos : Pos} (b : Bool) (a e it : Addr) (hne : e ≠ it) (hea : e ≠ a) (hai : a ≠ it) :
    Turn P w K (.Tuple elts kk tpos) (ItE K b a) [e, it] e (fun i h => (∃ old, IsEnum h e it ((i : Nat) : Int) old) ∧ ItrX b h it a i) where
  mem := by simp
  obj := fun i h st c hb => by
    obtain ⟨⟨old, he⟩, hi⟩ := st
    rcases (show c = e ∨ c = it by simpa using hb) with z | z
    · subst z
      exact ⟨_, he, fun v q => by cases q⟩
    · subst z
      exact itrX_obj hi
  keep := fun i h h' st k => by
    obtain ⟨⟨old, he⟩, hi⟩ := st
    exact ⟨⟨old, k e (by simp) _ he⟩, itrX_at hi fun o q => k it (by simp) o q⟩
  item := by
    intro X hP hw hK hc i pins s σ H E I hf st hg
    subst hP hw hK
    obtain ⟨⟨old, he⟩, hit⟩ := st
    obtain ⟨xs, x, hq, hx⟩ := hg
    obtain ⟨its, rv, p, hz⟩ := seqX I hq
    obtain ⟨u, hu, ru⟩ := rv.get hx
    have hel := Heap.lt_size he
    have hil : it < s.heap.objs.size := by obtain ⟨_, q, _⟩ := itrX_obj hit; exact Heap.lt_size q
    have hlt : i < its.toArray.size := by
      have := (List.getElem?_eq_some_iff.mp hu).1
      simpa using this
    have D := drawsX b (prog := X.prog) (w := X.w) (A := X.A.in1) (I.ok.hd hc) it a hai its.toArray
    refine wpAny_pyNext_enum_itemC (c := ((i : Nat) : Int)) D he ⟨hit, p⟩ hlt hne (by simp [hne, hea]) fun y h' tk hy ho hit' hT hsz hk => ?_
    obtain rfl : y = u := by
      rw [show its.toArray[i]? = its[i]? by simp] at hy
      rw [hu] at hy
      exact (Option.some.inj hy).symm
    refine ⟨_, rfl, wpAny_letOwnedTupleGo_enum (s := { s with heap := h', toks := tk + 1 }) ho fun h2 he2 sb => ?_⟩
    have hT2 : h2.get? s.heap.objs.size = some { cls := .type "tuple", data := .seq [.int i tk, y].toArray } := (sb.2 _ (Nat.ne_of_gt hel)).trans hT
    obtain ⟨H', J, nt, old'⟩ := turned_tup (t' := tk + 1) (ch := [e, it]) (xs := [.int (i : Nat), x]) I (fun c ob hb q => by
      have b1 : c ≠ e := fun z => hb (by simp [z])
      have b2 : c ≠ it := fun z => hb (by simp [z])
      exact (sb.2 c b1).trans (hk c ob b1 b2 q)) hf (by show 2 ≤ sizeLine; decide) (.cons ⟨_, rfl⟩ (.cons ru .nil)) hT2
    refine ⟨.ref s.heap.objs.size, H', J, rfl, ⟨x, nt, fun ys hy => by rw [seqX_inj I hy hq]; exact hx⟩, ⟨⟨y, ?_⟩, itrX_at hit'.1 fun o q => (sb.2 it (Ne.symm hne)).trans q⟩, fun c hb => ?_⟩
    · rw [show ((i + 1 : Nat) : Int) = (i : Int) + 1 by omega]
      exact he2
    · have lt : c < s.heap.objs.size := by
        rcases (show c = e ∨ c = it by simpa using hb) with z | z
        · rw [z]; exact hel
        · rw [z]; exact hil
      rw [old' c lt]
      exact (hf c hb).1
  done := by
    intro X hP hw hK hc i pins s σ H E I hf st hg
    subst hP hw hK
    obtain ⟨⟨old, he⟩, hit⟩ := st
    obtain ⟨xs, hq, hx⟩ := hg
    obtain ⟨its, rv, p, hz⟩ := seqX I hq
    have hl := rv.length
    have hn : its.toArray.size = i := by simp; omega
    have D := drawsX b (prog := X.prog) (w := X.w) (A := X.A.in1) (I.ok.hd hc) it a hai its.toArray
    refine wpAny_pyNext_enum_endD D he (by rw [hn]; exact ⟨hit, p⟩) fun h' eb => ⟨rfl, I.turnedL (t' := s.toks) (ch := [e, it]) (fun c o hb q => ?_) hf⟩
    exact eb c o (fun z => hb (by simp [z])) q
  self := fun A i s Q E st hq => by
    obtain ⟨⟨_, he⟩, _⟩ := st
    exact wpAny_pyIter_enum he hq
theorem meets_enum_newT (l : Addr) (items : Array Value) (n : Nat) (dct : Option Addr) (sl : Array (Option Value)) :
    Meets (Builtin.«enumerate.__new__» ⟨[.type "enumerate", .ref l], []⟩) (fun _ R s => s.heap.get? l = some { cls := .type "tuple", dict := dct, data := .seq items n, slots := sl } ∧
      R (.ok (.ret (.ref (s.heap.push { cls := .type "tuple_iterator", data := .fields #[.ref l, .int 0 0] }).objs.size)))
        { s with heap := (s.heap.push { cls := .type "tuple_iterator", data := .fields #[.ref l, .int 0 0] }).push { cls := .type "enumerate", data := .fields #[.none, .bool false, .ref s.heap.objs.size, rawInt 0, .none, .none] } }) :=
  .of_wp fun prog w A R s hy => by
    obtain ⟨hp, g, d, tk, os⟩ := s
    obtain ⟨hl, hr⟩ := hy
    have hsub := sub_enumerate
    have hL : Heap.IsTuple (Shared.heap ⟨hp, g, d, tk, os⟩) l items := ⟨_, hl, rfl, n, rfl⟩
    wp_walk using AutoSeq1.wpAny_loadPart' hl
    refine wpAny_stack_any fun st => wpAny_pure ?_
    split
    · rename_i c _ _ _ _ _
      cases (c == Value.type "enumerate") <;>
      · wp_walk using AutoSeq1.wpAny_loadPart' hl, wpAny_pyIter_tuple hL
        exact ⟨_, rfl, hr⟩
    · wp_walk using AutoSeq1.wpAny_loadPart' hl, wpAny_pyIter_tuple hL
      exact ⟨_, rfl, hr⟩
section
variable {prog : Program} {w : World} {A : Around} {E : Value → Shared → Prop} {s : Shared}
theorem call_enum_tup {l : Addr} {items : Array Value} {Q : Value → Shared → Prop} (hL : s.heap.IsTuple l items)
    (hq : ∀ h', IsEnum h' (s.heap.objs.size + 1) s.heap.objs.size 0 .none → h'.IsTupleIter s.heap.objs.size l 0 →
      (∀ b o, s.heap.get? b = some o → h'.get? b = some o) → Q (.ref (s.heap.objs.size + 1)) { s with heap := h' }) :
    wpAny (model prog w) A (call (.type "enumerate") [.ref l]) Q E s := by
  obtain ⟨⟨c, dct, dt, sl⟩, hl, hc, n, hd⟩ := hL
  simp only at hc hd
  subst hc hd
  refine callType_new F.called_enumerate (by decide) (F.typeCall_enumerate_1 _) (F.newCall_enumerate_1 _)
    (fun obj => F.args_object_init_2 obj _) F.entry_enumerate_new (meets_enum_newT l items n dct sl) ⟨hl, ?_⟩
  generalize hi : ({ cls := .type "tuple_iterator", data := .fields #[.ref l, .int 0 0] } : Obj) = io
  have hz : (s.heap.push io).objs.size = s.heap.objs.size + 1 := Heap.size_push ..
  show _ ∧ _
  rw [hz]
  generalize hj : ({ cls := .type "enumerate", data := .fields #[.none, .bool false, .ref s.heap.objs.size, rawInt 0, .none, .none] } : Obj) = eo
  have he : ((s.heap.push io).push eo).get? (s.heap.objs.size + 1) = some eo := by
    have := Heap.get?_push_size (s.heap.push io) (o := eo) (by rw [← hj]; rfl)
    rw [hz] at this
    exact this
  have hk : ∀ b o, s.heap.get? b = some o → ((s.heap.push io).push eo).get? b = some o := fun b o x => Heap.get?_push_of_some _ (Heap.get?_push_of_some _ x)
  have h2 : ((s.heap.push io).push eo).get? s.heap.objs.size = some io := Heap.get?_push_of_some _ (Heap.get?_push_size _ (by rw [← hi]; rfl))
  subst hj
  subst hi
  exact ⟨⟨_, he, rfl⟩, hq _ he ⟨_, h2, rfl, rfl⟩ hk⟩
theorem call_enumX {b : Bool} {l : Addr} {items : Array Value} {Q : Value → Shared → Prop} (hL : IsX b s.heap l items)
    (hq : ∀ h', IsEnum h' (s.heap.objs.size + 1) s.heap.objs.size 0 .none → ItrX b h' s.heap.objs.size l 0 →
      (∀ b o, s.heap.get? b = some o → h'.get? b = some o) → Q (.ref (s.heap.objs.size + 1)) { s with heap := h' }) :
    wpAny (model prog w) A (call (.type "enumerate") [.ref l]) Q E s := by
  cases b with
  | true => exact call_enum_tup hL hq
  | false => exact call_enumerate_list hL fun h' he hit hsz hk => hq h' he hit hk
end
def iEnX (K : PySem.W.Frag) (ta : TA) : TI := fun σ H R => ta σ H fun vs H1 => ∃ b a xs, vs = [.ref a] ∧ SqX K b H1 a xs ∧ R (ItE K b a) H1
theorem pi_enX {X : Cx} {e : Expr} {ta : TA} {p pos tpos : Pos} {elts : List Expr} {kk : Nat} (hg : Gl X "enumerate") (hm : X.mg "enumerate" = none) (ha : PA X [e] ta) (hs : starEach [e] X.env = [(false, eval e X.env)]) :
    PI X (.Tuple elts kk tpos) (.Call (.Name "enumerate" p) [e] [] pos) (iEnX X.K ta) := by
  refine ⟨fun pins s σ H R I hq => ?_⟩
  refine Call_ (ld_blt I hg hm boot_enumerate (PyProof.Rows.callWith_type1 (thn (ha.run pos pins s σ H _ I hq) fun us s1 ⟨vs, H1, I1, r1, q1⟩ => ?_) hs rfl))
  obtain ⟨b, a, xs, ex, hl, q⟩ := q1
  subst ex
  cases r1 with
  | cons r rr =>
    cases rr
    cases r
    obtain ⟨its, rv, p', hz⟩ := seqX I1 hl
    have al := isX_lt p'
    refine call_enumX p' fun h' he hit hk => wpAny_pyIter_enum he ?_
    have I2 : Inv X pins σ H1 { s1 with heap := h' } := I1.kept (t' := s1.toks) hk
    have ne : ∀ k, a ≠ s1.heap.objs.size + k := fun k => Nat.ne_of_lt (Nat.lt_of_lt_of_le al (Nat.le_add_right _ _))
    refine ⟨s1.heap.objs.size + 1, [s1.heap.objs.size + 1, s1.heap.objs.size], _, _, H1, rfl, I2, turnE b a (s1.heap.objs.size + 1) s1.heap.objs.size (Nat.succ_ne_self _) (Ne.symm (ne 1)) (ne 0), ⟨⟨.none, he⟩, hit⟩, fun c hb => ?_, q⟩
    have le : s1.heap.objs.size ≤ c := by
      rcases (show c = s1.heap.objs.size + 1 ∨ c = s1.heap.objs.size by simpa using hb) with z | z
      · rw [z]; exact Nat.le_succ _
      · rw [z]; exact Nat.le_refl _
    exact I1.fpOk le (I1.hok.fresh le)

/-! ### zip of two -/
def ItZ (K : PySem.W.Frag) (b c : Bool) (a d : Addr) : It where
  go := fun i H => ∃ (xs ys : List V) (x y : V), SqX K b H a xs ∧ SqX K c H d ys ∧ xs[i]? = some x ∧ ys[i]? = some y
  yld := fun i H v H' => ∃ x y, NewT H [x, y] v H' ∧ (∀ xs, SqX K b H a xs → xs[i]? = some x) ∧ ∀ ys, SqX K c H d ys → ys[i]? = some y
  stop := fun i H => ∃ xs ys : List V, SqX K b H a xs ∧ SqX K c H d ys ∧ i ≤ xs.length ∧ i ≤ ys.length ∧ (i = xs.length ∨ i = ys.length)
theorem turnZ {P : Program} {w : World} {K : PySem.W.Frag} {elts : List Expr} {kk : Nat} {tpos : Pos} (b c : Bool) {a d z TI TO i1 i2 : Addr} (D : ZipSep2 z TI TO i1 i2 [i1, a] [i2, d]) (h1 : a ≠ i1) (h2 : d ≠ i2) :
    Turn P w K (.Tuple elts kk tpos) (ItZ K b c a d) [z, TI, TO, i1, i2] z (fun i h => IsZip h z TI TO .none ∧ IsTupOf2 h TI (.ref i1) (.ref i2) ∧ (∃ x y, IsTupOf2 h TO x y) ∧ ItrX b h i1 a i ∧ ItrX c h i2 d i) where
  mem := by simp
  obj := fun i h st q hq => by
    obtain ⟨hz, hTI, ⟨x, y, hTO⟩, e1, e2⟩ := st
    rcases (show q = z ∨ q = TI ∨ q = TO ∨ q = i1 ∨ q = i2 by simpa using hq) with e | e | e | e | e
    · rw [e]; exact ⟨_, hz, fun v q => by cases q⟩
    · rw [e]; exact ⟨_, hTI, fun v q => by cases q⟩
    · rw [e]; exact ⟨_, hTO, fun v q => by cases q⟩
    · rw [e]; exact itrX_obj e1
    · rw [e]; exact itrX_obj e2
  keep := fun i h h' st k => by
    obtain ⟨hz, hTI, ⟨x, y, hTO⟩, e1, e2⟩ := st
    exact ⟨k z (by simp) _ hz, k TI (by simp) _ hTI, ⟨x, y, k TO (by simp) _ hTO⟩, itrX_at e1 fun o q => k i1 (by simp) o q, itrX_at e2 fun o q => k i2 (by simp) o q⟩
  item := by
    intro X hP hw hK hc i pins s σ H E I hf st hg
    subst hP hw hK
    obtain ⟨hz, hTI, ⟨x0, y0, hTO⟩, e1, e2⟩ := st
    obtain ⟨xs, ys, x, y, hqx, hqy, hx, hy⟩ := hg
    obtain ⟨its, rv, p, _⟩ := seqX I hqx
    obtain ⟨its2, rv2, p2, _⟩ := seqX I hqy
    obtain ⟨u, hu, ru⟩ := rv.get hx
    obtain ⟨u2, hu2, ru2⟩ := rv2.get hy
    have l1 : i < its.toArray.size := by simpa using (List.getElem?_eq_some_iff.mp hu).1
    have l2 : i < its2.toArray.size := by simpa using (List.getElem?_eq_some_iff.mp hu2).1
    have hzl : z < s.heap.objs.size := Heap.lt_size hz
    have D1 := drawsX b (prog := X.prog) (w := X.w) (A := X.A.in1) (I.ok.hd hc) i1 a h1 its.toArray
    have D2 := drawsX c (prog := X.prog) (w := X.w) (A := X.A.in1) (I.ok.hd hc) i2 d h2 its2.toArray
    refine wpAny_pyNext_zipD2_item D D1 D2 hz hTI hTO ⟨e1, p⟩ ⟨e2, p2⟩ l1 l2 fun y1 y2 h' tk hy1 hy2 hz' hTO' st1 st2 hT hsz hk => ?_
    obtain rfl : y1 = u := by
      rw [show its.toArray[i]? = its[i]? by simp, hu] at hy1
      exact (Option.some.inj hy1).symm
    obtain rfl : y2 = u2 := by
      rw [show its2.toArray[i]? = its2[i]? by simp, hu2] at hy2
      exact (Option.some.inj hy2).symm
    refine ⟨_, rfl, wpAny_letOwnedTupleGo_zip (s := { s with heap := h', toks := tk }) hz' fun h3 z3 sb => ?_⟩
    have hT2 : h3.get? s.heap.objs.size = some { cls := .type "tuple", data := .seq [y1, y2].toArray } := (sb.2 _ (Nat.ne_of_gt hzl)).trans hT
    obtain ⟨H', J, nt, old'⟩ := turned_tup (t' := tk) (ch := [z, TI, TO, i1, i2]) (xs := [x, y]) I (fun q ob hb e => by
      simp only [List.mem_cons, List.not_mem_nil, or_false, not_or] at hb
      exact (sb.2 q hb.1).trans (hk q ob hb.1 hb.2.2.1 hb.2.2.2.1 hb.2.2.2.2 e)) hf (by show 2 ≤ sizeLine; decide) (.cons ru (.cons ru2 .nil)) hT2
    refine ⟨.ref s.heap.objs.size, H', J, rfl, ⟨x, y, nt, fun l hl => by rw [seqX_inj I hl hqx]; exact hx, fun l hl => by rw [seqX_inj I hl hqy]; exact hy⟩, ⟨z3, ?_, ⟨y1, y2, ?_⟩, ?_, ?_⟩, fun q hq => ?_⟩
    · exact (sb.2 _ D.TIz).trans (hk _ _ D.TIz D.TITO D.TIi1 D.TIi2 hTI)
    · exact (sb.2 _ D.TOz).trans hTO'
    · exact itrX_at st1.1 fun o q => (sb.2 _ (Ne.symm D.zi1)).trans q
    · exact itrX_at st2.1 fun o q => (sb.2 _ (Ne.symm D.zi2)).trans q
    · have lt : q < s.heap.objs.size := by
        rcases (show q = z ∨ q = TI ∨ q = TO ∨ q = i1 ∨ q = i2 by simpa using hq) with e | e | e | e | e
        · rw [e]; exact hzl
        · rw [e]; exact Heap.lt_size hTI
        · rw [e]; exact Heap.lt_size hTO
        · rw [e]; obtain ⟨_, x1, _⟩ := itrX_obj e1; exact Heap.lt_size x1
        · rw [e]; obtain ⟨_, x1, _⟩ := itrX_obj e2; exact Heap.lt_size x1
      rw [old' q lt]
      exact (hf q hq).1
  done := by
    intro X hP hw hK hc i pins s σ H E I hf st hg
    subst hP hw hK
    obtain ⟨hz, hTI, ⟨x0, y0, hTO⟩, e1, e2⟩ := st
    obtain ⟨xs, ys, hqx, hqy, le1, le2, hend⟩ := hg
    obtain ⟨its, rv, p, _⟩ := seqX I hqx
    obtain ⟨its2, rv2, p2, _⟩ := seqX I hqy
    have l1 := rv.length
    have l2 := rv2.length
    have D1 := drawsX b (prog := X.prog) (w := X.w) (A := X.A.in1) (I.ok.hd hc) i1 a h1 its.toArray
    have D2 := drawsX c (prog := X.prog) (w := X.w) (A := X.A.in1) (I.ok.hd hc) i2 d h2 its2.toArray
    refine wpAny_pyNext_zipD2_end D D1 D2 hz hTI hTO ⟨e1, p⟩ ⟨e2, p2⟩ (by simp; omega) (by simp; omega) (by simp; omega) fun h' tk hk => ⟨rfl, I.turnedL (t' := tk) (ch := [z, TI, TO, i1, i2]) (fun q ob hb e => ?_) hf⟩
    simp only [List.mem_cons, List.not_mem_nil, or_false, not_or] at hb
    exact hk q ob hb.1 hb.2.2.1 hb.2.2.2.1 hb.2.2.2.2 e
  self := fun A i s Q E st hq => wpAny_pyIter_zip st.1 hq
def iZpX (K : PySem.W.Frag) (ta : TA) : TI := fun σ H R => ta σ H fun vs H1 => ∃ b c a d xs ys, vs = [.ref a, .ref d] ∧ SqX K b H1 a xs ∧ SqX K c H1 d ys ∧ R (ItZ K b c a d) H1
theorem pi_zpX {X : Cx} {e e2 : Expr} {ta : TA} {p pos tpos : Pos} {elts : List Expr} {kk : Nat} (hg : Gl X "zip") (hm : X.mg "zip" = none) (ha : PA X [e, e2] ta)
    (hs : starEach [e, e2] X.env = (false, eval e X.env) :: starEach [e2] X.env) (hpl : (backTo pos (starEach [e2] X.env)).any (·.1) = false) :
    PI X (.Tuple elts kk tpos) (.Call (.Name "zip" p) [e, e2] [] pos) (iZpX X.K ta) := by
  refine ⟨fun pins s σ H R I hq => ?_⟩
  refine Call_ (ld_blt I hg hm PyProof.Rows.boot_zip (PyProof.Rows.callWith_type1 (thn (ha.run pos pins s σ H _ I hq) fun us s1 ⟨vs, H1, I1, r1, q1⟩ => ?_) hs hpl))
  obtain ⟨b, c, a, d, xs, ys, ex, hl1, hl2, q⟩ := q1
  subst ex
  obtain ⟨u1, u2, rfl, ra, rd⟩ := Vals.two r1
  cases ra
  cases rd
  obtain ⟨its, rv, p1, _⟩ := seqX I1 hl1
  obtain ⟨its2, rv2, p2, _⟩ := seqX I1 hl2
  have al := isX_lt p1
  have dl := isX_lt p2
  refine zip_begins2 (beginsX b a its.toArray) (beginsX c d its2.toArray) p1 p2 fun h' hz hTI hTO g1 g2 hsz hk => wpAny_pyIter_zip hz ?_
  have I2 : Inv X pins σ H1 { s1 with heap := h' } := I1.kept (t' := s1.toks) hk
  have S := zip_sep2 (N := s1.heap.objs.size) (fp1 := [a]) (fp2 := [d]) (fun q hq => by rw [List.mem_singleton.mp hq]; exact al) (fun q hq => by rw [List.mem_singleton.mp hq]; exact dl)
  refine ⟨_, _, _, _, H1, rfl, I2, turnZ b c S (Nat.ne_of_lt al) (Nat.ne_of_lt (Nat.lt_of_lt_of_le dl (Nat.le_add_right _ _))), ⟨hz, hTI, ⟨_, _, hTO⟩, itO_iter b g1, itO_iter c g2⟩, fun q hq => ?_, q⟩
  have le : s1.heap.objs.size ≤ q := by
    rcases (show q = s1.heap.objs.size + 4 ∨ q = s1.heap.objs.size + 2 ∨ q = s1.heap.objs.size + 3 ∨ q = s1.heap.objs.size ∨ q = s1.heap.objs.size + 1 by simpa using hq) with e | e | e | e | e
    · rw [e]; exact Nat.le_add_right _ _
    · rw [e]; exact Nat.le_add_right _ _
    · rw [e]; exact Nat.le_add_right _ _
    · rw [e]; exact Nat.le_refl _
    · rw [e]; exact Nat.le_add_right _ _
  exact I1.fpOk le (I1.hok.fresh le)
end TL
/-! Operators. -/
namespace TL
open PySem L2 PyProof.Rows
variable [TabI] [CloI]
theorem tuple_mul1 (l : Addr) (items : Array Value) (n : Nat) (dd : Option Addr) (sl : Array (Option Value)) (u : Tok) :
    Meets (Builtin.«tuple.__mul__» ⟨[.ref l, .int 1 u], []⟩) (fun _ R s => s.heap.get? l = some { cls := .type "tuple", dict := dd, data := .seq items n, slots := sl } ∧ R (.ok (.ret (.ref l))) s) :=
  .of_wp fun prog w A R s hy => by
    obtain ⟨hp, g, d, tk, os⟩ := s
    obtain ⟨hl, hr⟩ := hy
    have f1 := AutoSeq1.idx_int
    wp_walk using wpAny_loadPart' hl
    exact ⟨_, rfl, hr⟩
section
variable {X : Cx} {ct : Nat → Option Value} {Wx : XK} {ρ : List Addr} {H : Hp} {h : Hw} {K : PySem.W.Frag}
/-- a tuple times one is that tuple -/
def rMul1 (K : PySem.W.Frag) : R2 := fun x y H Q => ∃ l xs, x = .ref l ∧ y = .int 1 ∧ SqT K H l xs ∧ Q (.ref l) H
theorem op_mul1 : OpR X (binaryOp .Mult) (rMul1 X.K) := by
  intro pins s σ H x y v u Q I rx ry hq
  obtain ⟨l, xs, rfl, rfl, hT, q⟩ := hq
  cases rx
  obtain ⟨t, rfl⟩ := ry
  obtain ⟨its, r, ⟨⟨cls, dd, data, sl⟩, ho, hc, n, hd⟩, hs⟩ := I.tuple hT
  simp only at hc hd
  subst hc hd
  refine wpAny_binaryOp_repeat_ref (T := "tuple") (U := "int") (by decide) ⟨_, ho, rfl⟩ (fun s' => typeIs_int s' 1 t)
    noFill_tuple_mul F.fills_int_mul F.slot_int_rmul repeat_tuple F.slot_int_index.lookup
    (call_meets F.slot_int_rmul (typeIs_int s 1 t) F.entry_int_rmul (F.args_int_rmul_2 _ _) (int_rmul_tuple 1 t l its.toArray n dd sl)
      ⟨ho, rfl, ⟨_, ho, rfl⟩, call_meets F.slot_tuple_mul ⟨_, ho, rfl⟩ F.entry_tuple_mul (F.args_tuple_mul_2 _ _) (tuple_mul1 l its.toArray n dd sl t) ⟨ho, ?_⟩⟩)
  exact ⟨.ref l, H, I, rfl, q⟩

theorem smallOk {i : Int} (e : small i = true) : -(2 ^ 64) < i ∧ i < 2 ^ 64 := by
  unfold small at e
  have := Nat.le_of_ble_eq_true e
  omega
/-- any two ints of which one is small -/
def rMulI : R2 := fun x y H Q => ∃ i j, x = .int i ∧ y = .int j ∧ ((-(2 ^ 64) < i ∧ i < 2 ^ 64) ∨ (-(2 ^ 64) < j ∧ j < 2 ^ 64)) ∧ Q (.int (i * j)) H
def rB (K : PySem.W.Frag) : Bop → R2
  | .add => fun x y H Q => ((∃ i j, x = .int i ∧ y = .int j ∧ Q (.int (i + j)) H) ∨ rCatZ K x y H Q) ∨ (∃ i j, x = .str i ∧ y = .str j ∧ i.length + j.length ≤ sizeLine ∧ Q (.str (i ++ j)) H) ∨ rCat x y H Q
  | .sub => fun x y H Q => ∃ i j, x = .int i ∧ y = .int j ∧ Q (.int (i - j)) H
  | .mul => fun x y H Q => (rI CMul (fun i j => .int (i * j)) x y H Q ∨ rRep x y H Q) ∨ rRepZ K x y H Q ∨ rMul1 K x y H Q ∨ rRepN K x y H Q
  | .fdiv => rI CDivN fun i j => .int (i.fdiv j)
  | .mod => rI (fun _ j => j ≠ 0) fun i j => .int (i.fmod j)
  | .pow => rI CPow fun i j => .int (i ^ j.toNat)
def bopOf : Bop → Operator
  | .add => .Add
  | .sub => .Sub
  | .mul => .Mult
  | .fdiv => .FloorDiv
  | .mod => .Mod
  | .pow => .Pow
theorem opB : ∀ o : Bop, OpR X (binaryOp (bopOf o)) (rB X.K o)
  | .add => OpR.or (OpR.or op_add op_catZ) (OpR.or op_add_str op_cat)
  | .sub => op_sub
  | .mul => OpR.or (OpR.or op_mul op_rep) (OpR.or op_repZ (OpR.or op_mul1 op_repN))
  | .fdiv => op_fdivN
  | .mod => op_modN
  | .pow => op_pow
end
end TL
/-! Sorting; built-in functions by values. -/
namespace TL
open PySem PySem.W PyProof.Rows L2
variable [TabI] [CloI]

/-! ### a sort of one's own, and the library's -/
section
variable {α : Type} {le : α → α → Bool} (T : TotalLe le)
include T
theorem insS_mem {x y : α} : ∀ {l : List α}, y ∈ insS le x l → y = x ∨ y ∈ l
  | [], h => by simp [insS] at h; exact .inl h
  | z :: r, h => by
    unfold insS at h
    cases e : le x z with
    | true => rw [e, cond_true] at h; exact (List.mem_cons.mp h)
    | false =>
      rw [e, cond_false] at h
      rcases List.mem_cons.mp h with h | h
      · exact .inr (h ▸ List.mem_cons_self)
      · rcases insS_mem h with h | h
        · exact .inl h
        · exact .inr (List.mem_cons_of_mem _ h)
theorem insS_pw {x : α} : ∀ {l : List α}, l.Pairwise (fun a b => le a b = true) → (insS le x l).Pairwise (fun a b => le a b = true)
  | [], _ => by simp [insS]
  | z :: r, h => by
    unfold insS
    have hz := List.pairwise_cons.mp h
    cases e : le x z with
    | true =>
      rw [cond_true]
      refine List.pairwise_cons.mpr ⟨fun y hy => ?_, h⟩
      rcases List.mem_cons.mp hy with q | q
      · rw [q]; exact e
      · exact T.trans _ _ _ e (hz.1 y q)
    | false =>
      rw [cond_false]
      refine List.pairwise_cons.mpr ⟨fun y hy => ?_, insS_pw hz.2⟩
      rcases insS_mem T hy with q | q
      · subst q
        exact (T.total z y).resolve_right (by rw [e]; exact Bool.false_ne_true)
      · exact hz.1 y q
theorem insS_fl {x c : α} : ∀ {l : List α}, (insS le x l).filter (sameRank le c) = (x :: l).filter (sameRank le c)
  | [] => rfl
  | z :: r => by
    unfold insS
    cases e : le x z with
    | true => rw [cond_true]
    | false =>
      rw [cond_false, List.filter_cons, insS_fl]
      by_cases hx : sameRank le c x = true
      · have hz : sameRank le c z = false := by
          cases q : sameRank le c z with
          | false => rfl
          | true =>
            unfold sameRank at hx q
            rw [Bool.and_eq_true] at hx q
            have := T.trans _ _ _ hx.2 q.1
            rw [e] at this; cases this
        simp only [List.filter_cons, hx, hz, if_true, Bool.false_eq_true, if_false]
      · simp only [List.filter_cons, hx, if_false]
        rfl
theorem isort_eq : ∀ l : List α, isort le l = l.mergeSort le := by
  have pw : ∀ l : List α, (isort le l).Pairwise (fun a b => le a b = true) := fun l => by
    induction l with
    | nil => exact List.Pairwise.nil
    | cons x r ih => exact insS_pw T ih
  have fl : ∀ (l : List α) c, (isort le l).filter (sameRank le c) = l.filter (sameRank le c) := fun l c => by
    induction l with
    | nil => rfl
    | cons x r ih =>
      show (insS le x (isort le r)).filter _ = _
      rw [insS_fl T, List.filter_cons, ih, List.filter_cons]
  exact fun l => sort_unique T (pw l) (fl l)
end
theorem dataLe_total {β : Type} (k : β → PyData) : TotalLe (dataLe false k) := sortLe_total _ _ _

/-! ### sorted -/
section
variable {prog : Program} {w : World} {A : Around} {E : Value → Shared → Prop} {s : Shared}
/-- the items of a tuple, gathered -/
theorem collect_tup {l : Addr} {vs : List Value} {Q : List Value → Shared → Prop} (hl : s.heap.IsTuple l vs.toArray)
    (hq : Q vs { s with heap := (s.heap.push (seqObj "list" #[] 0)).update s.heap.objs.size (Obj.mapSeq (· ++ vs.toArray)) }) (hsz : vs.length ≤ sizeLine) :
    wpAny (model prog w) A (collect (.ref l)) Q E s := by
  obtain ⟨o, ho, hc, n, hd⟩ := id hl
  unfold collect
  refine wpAny_bind (wpAny_runValue (codeAny_builtin entry_proto_collect' ?_))
  show wpAny _ _ (do again (.builtin "list.__iadd__" ⟨[← newList [], .ref l], []⟩)) _ _ s
  refine wpAny_bind (wpAny_newList (wpAny_pure ⟨Code.quiet_builtin _ (by decide +kernel), codeAny_builtin entry_list_iadd' ?_⟩))
  show wpAny _ _ (Builtin.List.listExtendWith (.ref s.heap.objs.size) (.ref l) (.ref s.heap.objs.size)) _ _ { s with heap := s.heap.push (seqObj "list" #[] 0) }
  unfold Builtin.List.listExtendWith
  have ho2 : (s.heap.push (seqObj "list" #[] 0)).get? l = some o := Heap.get?_push_of_some _ ho
  refine wpAny_bind (wpAny_typeOf (T := "tuple") ⟨o, ho2, hc⟩ ?_)
  rw [if_pos (by rw [show (Value.type "tuple" == Value.type "tuple") = true from rfl, Bool.or_true])]
  refine wpAny_bind (listItems_at ho2 hd ?_)
  refine wpAny_bind (listItems_at (xs := #[]) (n := 0) (Heap.get?_push_size _ rfl) rfl ?_)
  rw [if_neg (by simp)]
  have z2 : ((#[] : Array Value) ++ vs.toArray).size ≤ sizeLine + 1 := by
    simp only [Array.size_append, List.size_toArray, List.length_nil]
    omega
  refine wpAny_bind (listUpdate_at (xs := #[]) (n := 0) (Heap.get?_push_size _ rfl) rfl ?_ (Nat.zero_le _) z2)
  refine wpAny_pure ?_
  have e2 : ((#[] : Array Value) ++ vs.toArray).toList = vs := by simp
  show wpAny (model prog w) A (do
      let ob ← load s.heap.objs.size
      match ob.data with
      | .seq xs _ => pure xs.toList
      | _ => unsupported "internal:collect") Q E _
  refine wpAny_bind (wpAny_load (get?_update_seq (Heap.get?_push_size _ rfl) _) ?_)
  show wpAny _ _ (pure ((#[] : Array Value) ++ vs.toArray).toList) Q E _
  rw [e2]
  exact wpAny_pure hq
theorem sorted_tup {l : Addr} {vs : List Value} {Q : Value → Shared → Prop} (hl : s.heap.IsTuple l vs.toArray) (hL : vs.length ≤ sizeLine)
    (body : ∀ E2 : Value → Shared → Prop, wpAny (model prog w) A.in1.in1 (Builtin.«list.sort» ⟨[.ref (s.heap.objs.size + 1)], []⟩) (fun f s' => f = .done (.ret .none) ∧ Q (.ref (s.heap.objs.size + 1)) s') E2 { s with heap := copyHeap s.heap vs }) :
    wpAny (model prog w) A (call (.builtin "sorted") [.ref l]) Q E s := by
  refine call_function_entry_kw (kw := []) kind_sorted plain_sorted entry_sorted (args_sorted1 _) ?_
  unfold Builtin.«sorted»
  refine wpAny_bind (m := checkCount "sorted" 1 1 _) (wpAny_pure ?_)
  refine wpAny_bind (collect_tup hl ?_ hL)
  refine wpAny_bind (wpAny_newList ?_ hL)
  have hsz : ((s.heap.push (seqObj "list" #[] 0)).update s.heap.objs.size (Obj.mapSeq (· ++ vs.toArray))).objs.size = s.heap.objs.size + 1 := by
    rw [Heap.size_update, size_push']
  show wpAny _ _ _ _ _ { s with heap := copyHeap s.heap vs }
  rw [hsz]
  refine wpAny_bind (wpAny_holding (wpAny_call_entry_kw slot_list_sort ⟨_, copyHeap_at s.heap vs, rfl⟩ entry_list_sort ?body (args_list_sort _)))
  case body =>
    show wpAny (model prog w) A.in1.in1 (Builtin.«list.sort» ⟨[.ref (s.heap.objs.size + 1)], []⟩) _ _ _
    refine wpAny_mono (body _) (fun f s' hf => ?_) fun _ _ e => e
    obtain ⟨rfl, hq⟩ := hf
    exact ⟨_, rfl, wpAny_pure ⟨_, rfl, hq⟩⟩
end

section
variable {X : Cx}
/-- what the sorted items are -/
def sortV (xs : List V) (ds : List PyData) : List V := (isort (dataLe false Prod.snd) (xs.zip ds)).map Prod.fst
theorem dpAll_len {K : PySem.W.Frag} {H : Hp} : ∀ {xs : List V} {ds : List PyData}, DpAll K H xs ds → xs.length = ds.length
  | _, _, .nil => rfl
  | _, _, .cons _ t => by rw [List.length_cons, List.length_cons, dpAll_len t]
theorem each_rel {I : List V → List Value → Prop} : ∀ {xs : List V} {us : List Value} {ds : List PyData}, Vals xs us → xs.length = ds.length → EachIs (fun v (b : V × PyData) => RelV b.1 v) us (xs.zip ds)
  | _, _, [], .nil, _ => .nil
  | _, _, d :: ds, .cons r t, e => .cons r (each_rel (I := I) t (by simpa using e))
  | _, _, _ :: _, .nil, e => by simp at e
  | _, _, [], .cons _ _, e => by simp at e
theorem each_reads {pins : List (Addr × Obj)} {σ : L2.St} {H : Hp} {s : Shared} (I : Inv X pins σ H s) : ∀ {xs : List V} {us : List Value} {ds : List PyData}, Vals xs us → DpAll X.K H xs ds → EachIs (fun v (b : V × PyData) => ∃ as, Reads s.heap v b.2 as) us (xs.zip ds)
  | _, _, _, .nil, .nil => .nil
  | _, _, _, .cons r t, .cons p q => .cons (Dp.reads I _ _ _ p r) (each_reads I t q)
theorem vals_each : ∀ {us : List Value} {bs : List (V × PyData)}, EachIs (fun v b => RelV b.1 v) us bs → Vals (bs.map Prod.fst) us
  | _, _, .nil => .nil
  | _, _, .cons r t => .cons r (vals_each t)
def rSrt (K : PySem.W.Frag) : List V → Hp → VK → Prop := fun vs H Q => ∃ (b : Bool) (a : Addr) (xs : List V) (ds : List PyData), vs = [V.ref a] ∧ SqX K b H a xs ∧ DpAll K H xs ds ∧ AllAlike ds ∧ Sortable ds ∧ (∀ d ∈ ds, d.depth ≤ 60) ∧
  ∀ p, H p = none → Q (.ref p) (upd H p (.lst (sortV xs ds)))
theorem cr_srt (hu : X.A.units + 64 < cLine) : CallR X (.builtin "sorted") (rSrt X.K) := by
  intro pins s σ H vs us Q I r hq
  obtain ⟨b, a, xs, ds, rfl, hs, hd, hal, hk, hdep, q⟩ := hq
  rw [Vals.ref1 r]
  obtain ⟨its, rv, hl, hz⟩ := seqX I hs
  have hlen := dpAll_len hd
  have e1 := each_rel (I := fun _ _ => True) rv hlen
  have e2 := each_reads I rv hd
  have em : (xs.zip ds).map Prod.snd = ds := by rw [List.map_snd_zip (by omega)]
  have hb : (xs.zip ds).length = xs.length := by rw [List.length_zip]; omega
  have hul : ∀ p, p ∈ xs.zip ds → X.A.units + 2 + p.2.depth < cLine := fun p hp => by
    have := hdep p.2 (List.of_mem_zip hp).2
    omega
  have fin : ∀ out : List Value, out.length = (xs.zip ds).length → EachIs (fun v (b : V × PyData) => RelV b.1 v) out ((xs.zip ds).mergeSort (dataLe false Prod.snd)) →
      EP X pins σ Q (.ref (s.heap.objs.size + 1)) { s with heap := sortedAll s.heap its out.toArray } := fun out ho he => by
    rw [← isort_eq (dataLe_total Prod.snd)] at he
    obtain ⟨ep, he2⟩ := PyProof.Rows.sortedAll_at s.heap its out.toArray
    have rv2 := vals_each he
    have hz2 : (sortV xs ds).length ≤ sizeLine := by
      have := rv2.length
      show (List.map Prod.fst _).length ≤ _
      omega
    exact ⟨.ref _, _, I.laid (t' := s.toks) (o := .lst (sortV xs ds)) (fun _ _ => PyProof.Rows.sortedAll_old) (Nat.le_succ _) ⟨hz2, out, ep, rv2, he2⟩, rfl, q _ (I.hok.fresh (Nat.le_succ _))⟩
  cases b with
  | false => exact sorted_data hl e1 e2 (by rw [em]; exact hal) (by rw [em]; exact hk) (by rw [hb]; exact hz) hul fin
  | true =>
    have hits : its.length ≤ sizeLine := by rw [← rv.length]; exact hz
    refine sorted_tup hl hits fun E2 => ?_
    have er := e2.mono (R' := fun v (b : V × PyData) => ∃ as, Reads (sortingHeap (copyHeap s.heap its) (s.heap.objs.size + 1) its) v b.2 as) fun _ _ ⟨as, r⟩ => ⟨as, PyProof.Rows.Reads.keeps (fun _ _ => sorting_copy_old) r⟩
    have S := SortsAt.data (prog := X.prog) (w := X.w) (A := X.A.in1.in1) (s := { s with heap := sortingHeap (copyHeap s.heap its) (s.heap.objs.size + 1) its })
      (each_map (R := fun v d => ∃ as, Reads (sortingHeap (copyHeap s.heap its) (s.heap.objs.size + 1) its) v d as) Prod.snd er) (by rw [em]; exact hal) (by rw [em]; exact hk) (bound_map hul)
    refine list_sort_vals (s := { s with heap := copyHeap s.heap its }) (copyHeap_at s.heap its) S hits ⟨rfl, ?_⟩
    exact fin _ (by rw [sortVals_length false rfl, hb]; exact rv.length.symm) (sortVals_data false e1 er (by rw [em]; exact hal))

/-! ### sum, least, greatest -/
def rSumX (K : PySem.W.Frag) : List V → Hp → VK → Prop := fun vs H Q => ∃ (b : Bool) (a : Addr) (ns : List Int), vs = [V.ref a] ∧ SqX K b H a (ns.map V.int) ∧ Q (.int ns.sum) H
theorem cr_sumX (hc : X.calm = true) : CallR X (.builtin "sum") (rSumX X.K) := by
  intro pins s σ H vs us Q I r hq
  obtain ⟨b, a, ns, rfl, hs, q⟩ := hq
  cases b with
  | false => exact cr_sum hc pins s σ H _ us Q I r ⟨a, ns, rfl, hs, q⟩
  | true =>
    obtain ⟨its, rv, hl, hz⟩ := seqX I hs
    rw [Vals.ref1 r]
    have hi := rv.ints
    obtain ⟨xs, hx⟩ := hi.allInts.items
    have hn : numsOf its.toArray.toList = ns := by rw [show its.toArray.toList = its from rfl, hi.numsOf]
    have hl2 : s.heap.IsTuple a its.toArray := hl
    rw [hx] at hl2 hn
    rw [nums_intItems] at hn
    refine ktm_sumG (I.ok.hd hc) hl2 fun h' tk t' hk => ⟨.int _, H, I.kept hk, ⟨_, rfl⟩, ?_⟩
    rw [preSum_eq, List.take_of_length_le (by simp), hn]
    exact q
end
end TL
/-! Methods by the receiver's kind; least and greatest; index; repr; dicts. -/
namespace TL
open PySem PySem.W PyProof.Rows L2
variable [TabI] [CloI]

/-! ### methods -/
def tyZ (K : PySem.W.Frag) (T : String) (x : V) (H : Hp) : Prop := match x with
  | .str _ => T = "str"
  | .ref p => (T = "list" ∧ ∃ xs, SqL K H p xs) ∨ (T = "tuple" ∧ ∃ xs, FzT K H p xs) ∨ (T = "dict" ∧ ∃ kvs, H p = some (.dK kvs))
  | _ => False
section
variable {X : Cx}
theorem tyZ_is {pins : List (Addr × Obj)} {σ : L2.St} {H : Hp} {s : Shared} {T : String} {x : V} {v : Value} (I : Inv X pins σ H s) (r : RelV x v) (ty : tyZ X.K T x H) :
    s.TypeIs v T ∧ ∀ (a : Addr), v = Value.ref a → ∃ ob, s.heap.get? a = some ob ∧ ob.dict = none := by
  cases x with
  | str z => exact tyV_is (x := .str z) I r ty
  | ref p =>
    rcases ty with ty | ⟨rfl, xs, ty⟩ | ⟨rfl, kvs, ty⟩
    · exact tyV_is (x := .ref p) I r (.inl ty)
    · cases r
      obtain ⟨o, e, c, d⟩ := ty.free I
      exact ⟨⟨o, e, c⟩, fun a e2 => by cases e2; exact ⟨o, e, d⟩⟩
    · exact tyV_is (x := .ref p) I r (.inr (.inr (.inl ⟨rfl, .inl ⟨kvs, ty⟩⟩)))
  | non => exact False.elim ty
  | bl _ => exact False.elim ty
  | int _ => exact False.elim ty
  | byt _ => exact False.elim ty
  | flt _ => exact False.elim ty
  | ty _ => exact False.elim ty
/-- a method of one kind -/
structure MSp (X : Cx) (name : Str) where
  T : String
  id : String
  r : V → List V → Hp → VK → Prop
  pa : PlainAttrs T
  slot : Slot T name id
  hty : typeOf (.builtin id) = pure (.type "method_descriptor")
  hm : MtR X id r
def tMz (K : PySem.W.Frag) {X : Cx} {name : Str} {ι : Type} (F : ι → MSp X name) (to : TE) (t : TA) : TE := fun σ H Q => to σ H fun x H1 => ∃ i, tyZ K (F i).T x H1 ∧ t σ H1 fun xs H2 => (F i).r x xs H2 Q
theorem pe_mz {ι : Type} {name : Str} (F : ι → MSp X name) {o e : Expr} {es : List Expr} {to : TE} {t : TA} {apos cpos : Pos} (ho : PE X o to) (ha : PA X (e :: es) t)
    (hbase : attributeBase o name X.env (eval o X.env) = eval o X.env)
    (hfew : (backTo cpos (starEach (e :: es) X.env)).all (fun x => !x.1) = true) (hlen : es.length < 28) (hline : (apos.endLine == cpos.line) = true)
    (hst : starEach (e :: es) X.env = (false, eval e X.env) :: starEach es X.env) (hplain : (backTo cpos (starEach es X.env)).any (·.1) = false) :
    PE X (.Call (.Attribute o name apos) (e :: es) [] cpos) (tMz X.K F to t) := by
  refine ⟨fun pins s σ H Q I hq => ?_⟩
  have hl2 : decide ((e :: es).length + ([] : List Keyword).length + (if ([] : List Keyword).isEmpty then 0 else 1) < 30) = true := by
    rw [decide_eq_true_eq]
    simp only [List.length_cons, List.length_nil, List.isEmpty_nil, if_true]
    omega
  refine wpAny_Call_method_late hbase (by rw [hfew, hl2]; rfl) hline rfl (thn (ho.run pins s σ H _ I hq) fun v s1 ⟨x, H1, I1, r1, i, ty, q1⟩ => ?_)
  obtain ⟨g1, g2⟩ := tyZ_is I1 r1 ty
  refine ⟨(F i).T, (F i).id, (F i).pa, (F i).slot, (F i).hty, g1, g2, ?_⟩
  have hA := ha.run cpos pins s1 σ H1 _ I1 q1
  rw [hst] at hA ⊢
  have hp2 : (backTo cpos ((false, eval e X.env) :: starEach es X.env)).any (·.1) = false := by
    show (false || (backTo cpos (starEach es X.env)).any (·.1)) = false
    rw [hplain]
    rfl
  refine Calls.callWith_builtin hp2 (Calls.evalArgs_plain ?_)
  exact thn hA fun us s2 ⟨vs, H2, I2, r2, q2⟩ => (F i).hm pins s2 σ H2 x vs v us Q I2 r1 r2 q2
def tMz0 (K : PySem.W.Frag) {X : Cx} {name : Str} {ι : Type} (F : ι → MSp X name) (to : TE) : TE := fun σ H Q => to σ H fun x H1 => ∃ i, tyZ K (F i).T x H1 ∧ (F i).r x [] H1 Q
theorem pe_mz0 {ι : Type} {name : Str} (F : ι → MSp X name) {o : Expr} {to : TE} {apos cpos : Pos} (ho : PE X o to)
    (hbase : attributeBase o name X.env (eval o X.env) = eval o X.env) (hline : (apos.endLine == cpos.line) = true) :
    PE X (.Call (.Attribute o name apos) [] [] cpos) (tMz0 X.K F to) := by
  refine ⟨fun pins s σ H Q I hq => ?_⟩
  refine wpAny_Call_method0_late hbase hline (thn (ho.run pins s σ H _ I hq) fun v s1 ⟨x, H1, I1, r1, i, ty, q1⟩ => ?_)
  obtain ⟨g1, g2⟩ := tyZ_is I1 r1 ty
  refine ⟨(F i).T, (F i).id, (F i).pa, (F i).slot, (F i).hty, g1, g2, ?_⟩
  exact Calls.callWith_builtin rfl (PySem.evalArgs_none ((F i).hm pins s1 σ H1 x [] v [] Q I1 r1 .nil q1))

/-! ### t.index(k) of ints -/
def rTix (K : PySem.W.Frag) : V → List V → Hp → VK → Prop := fun x xs H Q => ∃ (a : Addr) (ns : List Int) (k : Int), x = V.ref a ∧ xs = [.int k] ∧ SqT K H a (ns.map V.int) ∧ k ∈ ns ∧ Q (.int (ns.idxOf k : Nat)) H
theorem mt_tix : MtR X "tuple.index" (rTix X.K) := by
  intro pins s σ H x xs v us Q I rx rxs hq
  obtain ⟨a, ns, k, rfl, rfl, hs, hk, q⟩ := hq
  cases rx
  obtain ⟨u, rfl, ⟨t, rfl⟩⟩ := Vals.one rxs
  obtain ⟨its, rv, hl, hz⟩ := I.tuple hs
  exact PySem.SeqAt.tuple_index_ints (vs := its) hl rv.ints hk ⟨.int _, H, I.tok _, ⟨_, rfl⟩, q⟩

/-! ### least and greatest -/
def rLst (K : PySem.W.Frag) : List V → Hp → VK → Prop := fun vs H Q => ∃ (b : Bool) (a : Addr) (n : Int) (ns : List Int), vs = [V.ref a] ∧ SqX K b H a ((n :: ns).map V.int) ∧ Q (.int (ns.foldl min n)) H
def rGst (K : PySem.W.Frag) : List V → Hp → VK → Prop := fun vs H Q => ∃ (b : Bool) (a : Addr) (n : Int) (ns : List Int), vs = [V.ref a] ∧ SqX K b H a ((n :: ns).map V.int) ∧ Q (.int (ns.foldl max n)) H
theorem reads_ints {h : Heap} : ∀ {its : List Value} {ns : List Int}, IntsAre its ns → ReadsAll h its (ns.map PyData.int) []
  | _, _, .nil => .nil
  | _, _, .cons n t r => .cons (as := []) (bs := []) (.int n t) (reads_ints r)
theorem alike_ints (ns : List Int) : AlikeAll (ns.map PyData.int) := by
  refine ⟨fun x hx y hy => ?_, fun x hx => ?_⟩
  · obtain ⟨i, _, rfl⟩ := List.mem_map.mp hx
    obtain ⟨j, _, rfl⟩ := List.mem_map.mp hy
    rfl
  · obtain ⟨i, _, rfl⟩ := List.mem_map.mp hx
    intro q; cases q
theorem depth_ints : ∀ ns : List Int, PyData.depthAll (ns.map PyData.int) ≤ 1
  | [] => by simp [PyData.depthAll]
  | n :: ns => by
    have := depth_ints ns
    simp only [List.map_cons, PyData.depthAll, PyData.depth]
    omega
theorem cr_lst (hc : X.calm = true) (hu : X.A.units + 64 < cLine) : CallR X (.builtin "min") (rLst X.K) := by
  intro pins s σ H vs us Q I r hq
  obtain ⟨b, a, n, ns, rfl, hs, q⟩ := hq
  obtain ⟨its, rv, hl, hz⟩ := seqX I hs
  rw [Vals.ref1 r]
  have hd := depth_ints (n :: ns)
  have hr : ReadsAll s.heap its.toArray.toList (PyData.int n :: ns.map PyData.int) [] := reads_ints rv.ints
  have hu2 : X.A.units + 1 + PyData.depthAll (PyData.int n :: ns.map PyData.int) < cLine := by
    simp only [List.map_cons] at hd
    omega
  have fin : ∀ (i : Nat) v h' tk bs, its.toArray[i]? = some v → Reads h' v (minD (.int n) (ns.map .int)) bs → (∀ b o, s.heap.get? b = some o → h'.get? b = some o) → EP X pins σ Q v { s with heap := h', toks := tk } := fun i v h' tk bs _ hv hk => by
    rw [minD_ints] at hv
    cases hv
    exact ⟨.int _, H, I.kept hk, ⟨_, rfl⟩, q⟩
  cases b with
  | true => exact min_tuple_data (I.ok.hd hc) hl hr (alike_ints (n :: ns)) hu2 fin
  | false => exact min_list_data (I.ok.hd hc) hl hr (alike_ints (n :: ns)) hu2 fin
theorem cr_gst (hc : X.calm = true) (hu : X.A.units + 64 < cLine) : CallR X (.builtin "max") (rGst X.K) := by
  intro pins s σ H vs us Q I r hq
  obtain ⟨b, a, n, ns, rfl, hs, q⟩ := hq
  obtain ⟨its, rv, hl, hz⟩ := seqX I hs
  rw [Vals.ref1 r]
  have hd := depth_ints (n :: ns)
  have hr : ReadsAll s.heap its.toArray.toList (PyData.int n :: ns.map PyData.int) [] := reads_ints rv.ints
  have hu2 : X.A.units + 1 + PyData.depthAll (PyData.int n :: ns.map PyData.int) < cLine := by
    simp only [List.map_cons] at hd
    omega
  have fin : ∀ (i : Nat) v h' tk bs, its.toArray[i]? = some v → Reads h' v (maxD (.int n) (ns.map .int)) bs → (∀ b o, s.heap.get? b = some o → h'.get? b = some o) → EP X pins σ Q v { s with heap := h', toks := tk } := fun i v h' tk bs _ hv hk => by
    rw [maxD_ints] at hv
    cases hv
    exact ⟨.int _, H, I.kept hk, ⟨_, rfl⟩, q⟩
  cases b with
  | true => exact max_tuple_data (I.ok.hd hc) hl hr (alike_ints (n :: ns)) hu2 fin
  | false => exact max_list_data (I.ok.hd hc) hl hr (alike_ints (n :: ns)) hu2 fin

/-! ### repr -/
def rRpr (K : PySem.W.Frag) : List V → Hp → VK → Prop := fun vs H Q => ∃ (x : V) (d : PyData), vs = [x] ∧ Dp K H x d ∧ d.showable = true ∧ d.depth ≤ 60 ∧ d.shown.length ≤ sizeLine ∧ Q (.str d.shown) H
mutual
theorem dp_noDict {K : PySem.W.Frag} {H : Hp} : ∀ {d : PyData} {v : V}, Dp K H v d → d.hasDict = false
  | .none, _, _ => by simp only [PyData.hasDict]
  | .bool _, _, _ => by simp only [PyData.hasDict]
  | .int _, _, _ => by simp only [PyData.hasDict]
  | .str _, _, _ => by simp only [PyData.hasDict]
  | .list _, _, h => by
    cases h with
    | lst _ q => simp only [PyData.hasDict]; exact dps_noDict q
  | .tuple _, _, h => by
    cases h with
    | tup _ q => simp only [PyData.hasDict]; exact dps_noDict q
  | .dict _, _, h => by cases h
theorem dps_noDict {K : PySem.W.Frag} {H : Hp} : ∀ {ds : List PyData} {vs : List V}, DpAll K H vs ds → PyData.hasDictAll ds = false
  | [], _, _ => by simp only [PyData.hasDictAll]
  | d :: ds, _, h => by
    cases h with
    | cons a b => simp only [PyData.hasDictAll, dp_noDict a, dps_noDict b, Bool.or_false]
end
theorem cr_rpr (hg : X.A.guards = some []) (hu : X.A.units + 64 < cLine) : CallR X (.builtin "repr") (rRpr X.K) := by
  intro pins s σ H vs us Q I r hq
  obtain ⟨x, d, rfl, hd, hs, hdep, hz, q⟩ := hq
  obtain ⟨u, rfl, ru⟩ := Vals.one r
  have nd := dp_noDict hd
  obtain ⟨as, hr⟩ := Dp.reads I d x u hd ru
  have fin : ∀ (h' : Heap) (t : Tok) (tk : Nat), (∀ b o, s.heap.get? b = some o → h'.get? b = some o) → EP X pins σ Q (.str d.shown t) { s with heap := h', toks := tk } :=
    fun h' t tk hk => ⟨.str d.shown, H, I.kept hk, ⟨_, rfl⟩, q⟩
  cases hd with
  | non =>
    cases ru
    refine PySem.P.repr_of_none ?_
    exact fin s.heap s.toks (s.toks + 1) fun _ _ e => e
  | bl b =>
    cases ru
    refine PySem.P.repr_of_bool ?_
    have := fin s.heap s.toks (s.toks + 1) fun _ _ e => e
    cases b <;> exact this
  | int i =>
    obtain ⟨t, rfl⟩ := ru
    refine PySem.P.repr_of_int (by simpa [PyData.showable] using hs) ?_
    exact fin s.heap s.toks (s.toks + 1) fun _ _ e => e
  | str z =>
    obtain ⟨t, rfl⟩ := ru
    refine PySem.P.repr_of_str ?_ hz
    exact fin s.heap s.toks (s.toks + 1) fun _ _ e => e
  | lst h1 h2 =>
    cases ru
    exact repr_of_reads' hr hs (fun e => by rw [nd] at e; cases e) hg (by omega) (fun _ _ e => e) fin hz
  | tup h1 h2 =>
    cases ru
    exact repr_of_reads' hr hs (fun e => by rw [nd] at e; cases e) hg (by omega) (fun _ _ e => e) fin hz

/-! ### dicts -/
def rDin : R2 := fun y x H Q => ∃ a o, x = .ref a ∧ DGet H a y o ∧ Q (.bl o.isSome) H
def rDnin : R2 := fun y x H Q => ∃ a o, x = .ref a ∧ DGet H a y o ∧ Q (.bl (!o.isSome)) H
theorem op_din (hu : X.A.units + 64 < cLine) : OpR X (compareOp .In) rDin := by
  intro pins s σ H y x iv u Q I ry rx hq
  obtain ⟨a, o, rfl, g, q⟩ := hq
  cases rx
  exact d_in (by omega) I g ry fun s3 I3 => ⟨.bl o.isSome, H, I3, rfl, q⟩
theorem op_dnin (hu : X.A.units + 64 < cLine) : OpR X (compareOp .NotIn) rDnin := by
  intro pins s σ H y x iv u Q I ry rx hq
  obtain ⟨a, o, rfl, g, q⟩ := hq
  cases rx
  exact d_notIn (by omega) I g ry fun s3 I3 => ⟨.bl (!o.isSome), H, I3, rfl, q⟩
def rIxD2 : R2 := fun x y H Q => ∃ a v, x = .ref a ∧ DGet H a y (some v) ∧ Q v H
theorem ix_dct (hu : X.A.units + 64 < cLine) : IxR X rIxD2 := by
  intro value slice pins s σ H x y v u Q I rx ry hq hs
  obtain ⟨a, z, rfl, g, q⟩ := hq
  cases rx
  exact tail_any (dict_typeIs I g) PySem.F.slot_dict_getitem.lookup (d_getItem (by omega) I g ry fun w' s3 I3 rw' => ⟨z, H, I3, rw', q⟩) hs
def rSetD : TSet := fun o i v H Q => ∃ a H', o = .ref a ∧ DPut H a i v H' ∧ Q H'
theorem set_dct (hu : X.A.units + 64 < cLine) : PSet X rSetD := by
  intro pins s σ H o i v ov iv u Q I ro ri rv hq
  obtain ⟨a, H', rfl, g, q⟩ := hq
  cases ro
  exact d_setItem (by omega) I g ri rv fun s4 I4 => ⟨H', I4, q⟩
theorem PSet.or {t t' : TSet} (p : PSet X t) (p' : PSet X t') : PSet X (fun o i v H Q => t o i v H Q ∨ t' o i v H Q) := by
  intro pins s σ H o i v ov iv u Q I ro ri rv hq
  rcases hq with hq | hq
  · exact p pins s σ H o i v ov iv u Q I ro ri rv hq
  · exact p' pins s σ H o i v ov iv u Q I ro ri rv hq
theorem CallR.or {f : Value} {r r' : List V → Hp → VK → Prop} (p : CallR X f r) (p' : CallR X f r') : CallR X f (fun xs H Q => r xs H Q ∨ r' xs H Q) := by
  intro pins s σ H xs us Q I ru hq
  rcases hq with hq | hq
  · exact p pins s σ H xs us Q I ru hq
  · exact p' pins s σ H xs us Q I ru hq
end
end TL
/-! The machine's operators promise what the readings ask. -/
namespace TL
open PySem L2 PyProof.Rows
variable [TabI] [CloI]
/-- what the machine says of one value -/
abbrev QW (K : PySem.W.Frag) (Q : VK) : W → List Addr → Hw → Hp → Prop := fun w ρ' _ H' => ∀ v, VR K ρ' H' w v → Q v H'
section
variable {K : PySem.W.Frag} {ct : Nat → Option Value} {Wx : XK} {ρ : List Addr} {H : Hp} {h : Hw} {Q : VK}
theorem szOk_le {n : Nat} (e : szOk n = true) : n ≤ sizeLine := by rw [sizeLine_eq]; exact Nat.le_of_ble_eq_true e
theorem newTW (l : Rel K ρ h H) {zs : List W} {vs : List V} (qz : VRs K ρ H zs vs) (q : rd K ct Wx ρ H (.ok (.tup zs) h) (QW K Q)) : newT H vs Q := fun p o hp hd => by
  have s := Stp.laid (ρ := ρ) p (HO.frz o (.tup vs)) hp
  exact q ρ _ s (l.laid p _ hp) _ (VR.mk_tup (.inl ⟨o, upd_same, hd⟩) (qz.mv l s))
theorem newLW (l : Rel K ρ h H) {zs : List W} {vs : List V} (qz : VRs K ρ H zs vs) (q : rd K ct Wx ρ H (.ok (.ref h.n) (h.new (.lst zs))) (QW K Q)) : ∀ p, H p = none → Q (.ref p) (upd H p (.lst vs)) := fun p hp => by
  have s := Stp.new l p (HO.lst vs) hp
  refine q (ρ ++ [p]) _ s (l.new p _ _ hp ⟨vs, upd_same, qz.mv l s⟩) _ (VR.mk_ref ?_)
  rw [← l.len, List.getElem?_append_right (Nat.le_refl _)]
  simp
/-- a list is written -/
theorem wrLW (l : Rel K ρ h H) {n : Nat} {a : Addr} {xs : List V} (e : ρ[n]? = some a) (ha : H a = some (.lst xs)) {zs : List W} {vs : List V} (qz : VRs K ρ H zs vs) : Stp ρ ρ H (upd H a (.lst vs)) ∧ Rel K ρ (h.set n (.lst zs)) (upd H a (.lst vs)) := by
  have nz := NoZ.lst ha
  have s := Stp.wr (HO.lst vs) e nz
  exact ⟨s, l.wr _ _ e nz ⟨vs, upd_same, qz.mv l s⟩⟩
theorem rd.fine {α : Type} {a : α} {P : α → List Addr → Hw → Hp → Prop} (q : rd K ct Wx ρ H (.ok a h) P) (l : Rel K ρ h H) : P a ρ h H := q ρ H Stp.refl l

/-! ### two-place operators -/
def m2 (K : PySem.W.Frag) (ct : Nat → Option Value) (Wx : XK) (f : W → W → Hw → R W) : R2 := fun x y H Q => ∃ ρ h wx wy, Rel K ρ h H ∧ VR K ρ H wx x ∧ VR K ρ H wy y ∧ rd K ct Wx ρ H (f wx wy h) (QW K Q)
theorem ifb {α : Type} {c : Bool} {a : α} : ∀ {P : α → Prop} {b : α}, P (bif c then a else b) → ¬ P b → c = true ∧ P a := fun {P b} p n => by
  cases c with
  | true => exact ⟨rfl, p⟩
  | false => exact absurd p n
theorem rderr {α : Type} {P : α → List Addr → Hw → Hp → Prop} : ¬ rd K ct Wx ρ H (.err : R α) P := fun z => z
theorem rdif {α : Type} {c : Bool} {r : R α} {P : α → List Addr → Hw → Hp → Prop} (q : rd K ct Wx ρ H (bif c then r else .err) P) : c = true ∧ rd K ct Wx ρ H r P := by
  cases c with
  | true => exact ⟨rfl, q⟩
  | false => exact absurd q rderr
theorem rdnif {α : Type} {c : Bool} {r : R α} {P : α → List Addr → Hw → Hp → Prop} (q : rd K ct Wx ρ H (bif c then .err else r) P) : c = false ∧ rd K ct Wx ρ H r P := by
  cases c with
  | false => exact ⟨rfl, q⟩
  | true => exact absurd q rderr
theorem binW (o : Bop) {x y : V} (q : m2 K ct Wx (binOp o) x y H Q) : rB K o x y H Q := by
  obtain ⟨ρ, h, wx, wy, l, qx, qy, q⟩ := q
  cases o with
  | add =>
    cases wx with
    | int i =>
      cases wy with
      | int j =>
        rw [qx.nodep_int, qy.nodep_int]
        exact .inl (.inl ⟨i, j, rfl, rfl, q.fine l _ VR.mk_int⟩)
      | _ => exact absurd q rderr
    | str a =>
      cases wy with
      | str b =>
        rw [qx.nodep_str, qy.nodep_str]
        obtain ⟨c, q⟩ := rdif q
        exact .inr (.inl ⟨a, b, rfl, rfl, szOk_le c, q.fine l _ VR.mk_str⟩)
      | _ => exact absurd q rderr
    | tup xs =>
      cases wy with
      | tup ys =>
        obtain ⟨a, vs, rfl, ta, ra⟩ := qx.tup
        obtain ⟨b, us, rfl, tb, rb⟩ := qy.tup
        obtain ⟨c, q⟩ := rdif q
        have c := szOk_le c
        rw [← ra.length, ← rb.length] at c
        refine .inl (.inr ⟨a, b, vs, us, rfl, rfl, ta.sq, tb.sq, c, fun e => ?_, fun e1 e2 => ?_, fun e1 e2 => newTW l (ra.app rb) q⟩)
        · have e0 : xs = [] := by have := ra.length; rw [e] at this; exact List.eq_nil_of_length_eq_zero this.symm
          subst e0
          exact q.fine l _ qy
        · have e0 : ys = [] := by have := rb.length; rw [e2] at this; exact List.eq_nil_of_length_eq_zero this.symm
          subst e0
          rw [List.append_nil] at q
          exact q.fine l _ qx
      | _ => exact absurd q rderr
    | ref n =>
      cases wy with
      | ref m =>
        cases e1 : h.get n with
        | none => simp only [binOp, e1] at q; exact absurd q rderr
        | some o1 =>
          cases o1 with
          | dct _ => simp only [binOp, e1] at q; exact absurd q rderr
          | lst xs =>
            cases e2 : h.get m with
            | none => simp only [binOp, e1, e2] at q; exact absurd q rderr
            | some o2 =>
              cases o2 with
              | dct _ => simp only [binOp, e1, e2] at q; exact absurd q rderr
              | lst ys =>
                simp only [binOp, e1, e2] at q
                obtain ⟨c, q⟩ := rdif q
                obtain ⟨a, vs, rfl, _, ha, ra⟩ := l.lst e1 qx
                obtain ⟨b, us, rfl, _, hb, rb⟩ := l.lst e2 qy
                have c := szOk_le c
                rw [← ra.length, ← rb.length] at c
                exact .inr (.inr ⟨a, b, vs, us, rfl, rfl, ha, hb, c, newLW l (ra.app rb) q⟩)
      | _ => exact absurd q rderr
    | _ => exact absurd q rderr
  | sub =>
    cases wx with
    | int i =>
      cases wy with
      | int j =>
        rw [qx.nodep_int, qy.nodep_int]
        exact ⟨i, j, rfl, rfl, q.fine l _ VR.mk_int⟩
      | _ => exact absurd q rderr
    | _ => exact absurd q rderr
  | mul =>
    cases wy with
    | int j =>
      rw [qy.nodep_int]
      cases wx with
      | int i =>
        rw [qx.nodep_int]
        obtain ⟨c, q⟩ := rdif q
        refine .inl (.inl ⟨i, j, rfl, rfl, ?_, q.fine l _ VR.mk_int⟩)
        rcases (Bool.or_eq_true_iff.mp c) with c | c
        · exact .inl (smallOk c)
        · exact .inr (smallOk c)
      | tup xs =>
        obtain ⟨a, vs, rfl, ta, ra⟩ := qx.tup
        by_cases e : j = 1
        · subst e
          simp only [binOp, if_true] at q
          exact .inr (.inr (.inl ⟨a, vs, rfl, rfl, ta.sq, q.fine l _ qx⟩))
        · simp only [binOp, if_neg e] at q
          by_cases e0 : -1000 ≤ j ∧ j ≤ 0 ∧ (!xs.isEmpty) = true
          · rw [if_pos e0] at q
            refine .inr (.inr (.inr ⟨a, j, vs, rfl, rfl, ta.sq, ?_, e0.2.1, e0.1, newTW l (VRs.nil_iff.mpr rfl) q⟩))
            rintro rfl
            have := ra.length
            cases xs with
            | nil => cases e0.2.2
            | cons _ _ => cases this
          rw [if_neg e0] at q
          obtain ⟨c, q⟩ := rdif q
          simp only [Bool.and_eq_true, decide_eq_true_eq] at c
          obtain ⟨⟨⟨c1, c2⟩, c3⟩, c4⟩ := c
          refine .inr (.inl ⟨a, j, vs, rfl, rfl, ta.sq, ?_, c2, c3, by rw [ra.length]; exact Nat.le_of_ble_eq_true c4, newTW l (ra.rep _) q⟩)
          rintro rfl
          have := ra.length
          cases xs with
          | nil => cases c1
          | cons _ _ => cases this
      | ref n =>
        cases e1 : h.get n with
        | none => simp only [binOp, e1] at q; exact absurd q rderr
        | some o1 =>
          cases o1 with
          | dct _ => simp only [binOp, e1] at q; exact absurd q rderr
          | lst xs =>
            simp only [binOp, e1] at q
            obtain ⟨c, q⟩ := rdif q
            obtain ⟨c1, c2⟩ := Bool.and_eq_true_iff.mp c
            obtain ⟨a, vs, rfl, _, ha, ra⟩ := l.lst e1 qx
            have c1 := Nat.le_of_ble_eq_true c1
            have c2 := szOk_le c2
            rw [← ra.length] at c2
            exact .inl (.inr ⟨a, j, vs, rfl, rfl, ha, by omega, by omega, c2, newLW l (ra.rep _) q⟩)
      | _ => exact absurd q rderr
    | _ => cases wx <;> exact absurd q rderr
  | fdiv =>
    cases wx with
    | int i =>
      cases wy with
      | int j =>
        rw [qx.nodep_int, qy.nodep_int]
        obtain ⟨c, q⟩ := rdnif q
        obtain ⟨c1, c2⟩ := Bool.or_eq_false_iff.mp c
        refine ⟨i, j, rfl, rfl, ⟨by simpa using c1, ?_⟩, q.fine l _ VR.mk_int⟩
        have := Nat.lt_of_not_le fun z => Bool.false_ne_true (c2.symm.trans (Nat.ble_eq_true_of_le z))
        omega
      | _ => exact absurd q rderr
    | _ => exact absurd q rderr
  | mod =>
    cases wx with
    | int i =>
      cases wy with
      | int j =>
        rw [qx.nodep_int, qy.nodep_int]
        obtain ⟨c, q⟩ := rdnif q
        exact ⟨i, j, rfl, rfl, by simpa using c, q.fine l _ VR.mk_int⟩
      | _ => exact absurd q rderr
    | _ => exact absurd q rderr
  | pow =>
    cases wx with
    | int i =>
      cases wy with
      | int j =>
        rw [qx.nodep_int, qy.nodep_int]
        obtain ⟨c, q⟩ := rdif q
        simp only [Bool.and_eq_true, decide_eq_true_eq] at c
        have c3 : i.natAbs ≤ 18446744073709551615 := Nat.le_of_ble_eq_true c.2
        exact ⟨i, j, rfl, rfl, ⟨c.1.1, c.1.2, by omega⟩, q.fine l _ VR.mk_int⟩
      | _ => exact absurd q rderr
    | _ => exact absurd q rderr
/-! ### comparisons -/
/-- what the machine says of a truth value -/
def m2B (K : PySem.W.Frag) (f : W → W → Hw → Option Bool) : R2 := fun x y H Q => ∃ ρ h wx wy b, Rel K ρ h H ∧ VR K ρ H wx x ∧ VR K ρ H wy y ∧ f wx wy h = some b ∧ Q (.bl b) H
def copOf : Cop → CmpOp
  | .eq => .Eq
  | .ne => .NotEq
  | .lt => .Lt
  | .le => .LtE
  | .gt => .Gt
  | .ge => .GtE
  | .isin => .In
  | .notin => .NotIn
  | .iss => .Is
  | .isnt => .IsNot
theorem eqW_ok (l : Rel K ρ h H) {wx wy : W} {x y : V} {b : Bool} (qx : VR K ρ H wx x) (qy : VR K ρ H wy y) (e : eqW h wx wy = some b) : (∃ i j, x = .int i ∧ y = .int j ∧ b = (i == j)) ∨ ∃ d e, Dp K H x d ∧ Dp K H y e ∧ SeqAt.shaped d = true ∧ SeqAt.shaped e = true ∧ b = PyData.eqv d e := by
  by_cases hi : ∃ i j, wx = .int i ∧ wy = .int j
  · obtain ⟨i, j, rfl, rfl⟩ := hi
    refine .inl ⟨i, j, qx.nodep_int, qy.nodep_int, ?_⟩
    unfold eqW at e
    exact (Option.some.inj e).symm
  · have e2 : (match dat h wx, dat h wy with
      | some d, some e => bif SeqAt.shaped d && SeqAt.shaped e then some (PyData.eqv d e) else none
      | _, _ => none) = some b := by
      unfold eqW at e
      split at e
      · exact absurd ⟨_, _, rfl, rfl⟩ hi
      · exact e
    cases e3 : dat h wx with
    | none => rw [e3] at e2; cases e2
    | some d =>
      cases e4 : dat h wy with
      | none => rw [e3, e4] at e2; cases e2
      | some d2 =>
        rw [e3, e4] at e2
        simp only at e2
        cases c : (SeqAt.shaped d && SeqAt.shaped d2) with
        | false => rw [c] at e2; cases e2
        | true =>
          rw [c] at e2
          obtain ⟨c1, c2⟩ := Bool.and_eq_true_iff.mp c
          exact .inr ⟨d, d2, toD_ok l 40 wx x d e3 qx, toD_ok l 40 wy y d2 e4 qy, c1, c2, (Option.some.inj e2).symm⟩
theorem isNon_ok {wx : W} {x : V} {b : Bool} (qx : VR K ρ H wx x) (e : isNon wx = some b) : b = decide (x = .non) := by
  cases wx with
  | non => rw [qx.nodep_non]; exact (Option.some.inj e).symm
  | bl _ => rw [qx.nodep_bl]; exact (Option.some.inj e).symm
  | int _ => rw [qx.nodep_int]; exact (Option.some.inj e).symm
  | str _ => rw [qx.nodep_str]; exact (Option.some.inj e).symm
  | tup _ => obtain ⟨a, _, rfl, _⟩ := qx.tup; exact (Option.some.inj e).symm
  | frl _ => obtain ⟨a, _, rfl, _⟩ := qx.frl; exact (Option.some.inj e).symm
  | ref _ => unfold VR at qx; obtain ⟨a, _, rfl⟩ := qx; exact (Option.some.inj e).symm
  | clo _ => cases e
theorem notO_some {o : Option Bool} {b : Bool} (e : notO o = some b) : o = some (!b) := by
  cases o with
  | none => cases e
  | some c => unfold notO at e; cases e; rw [Bool.not_not]
theorem flat_ok {wx : W} {x u : V} (qx : VR K ρ H wx x) (e : flatW wx = some u) : x = u ∧ flatV x = true := by
  cases wx with
  | non => cases e; rw [qx.nodep_non]; exact ⟨rfl, rfl⟩
  | bl _ => cases e; rw [qx.nodep_bl]; exact ⟨rfl, rfl⟩
  | int _ => cases e; rw [qx.nodep_int]; exact ⟨rfl, rfl⟩
  | str _ => cases e; rw [qx.nodep_str]; exact ⟨rfl, rfl⟩
  | _ => cases e
theorem flats_ok : ∀ {ws : List W} {vs us : List V}, VRs K ρ H ws vs → optAll (ws.map flatW) = some us → vs = us ∧ vs.all flatV = true
  | [], _, _, q, e => by rw [VRs.nil_iff.mp q]; cases e; exact ⟨rfl, rfl⟩
  | w :: ws, _, us, q, e => by
    obtain ⟨v, r, rfl, q1, q2⟩ := VRs.cons_iff.mp q
    rw [List.map_cons] at e
    cases e1 : flatW w with
    | none => rw [e1] at e; cases e
    | some u =>
      rw [e1] at e
      unfold optAll at e
      cases e2 : optAll (ws.map flatW) with
      | none => simp only [e2] at e; cases e
      | some t =>
        simp only [e2] at e; cases e
        obtain ⟨a1, a2⟩ := flat_ok q1 e1
        obtain ⟨b1, b2⟩ := flats_ok q2 e2
        exact ⟨by rw [a1, b1], by rw [List.all_cons, a2, b2]; rfl⟩
theorem kFind_ok : ∀ {ws : List (L2.Key × W)} {vs : List (L2.Key × V)} (k : L2.Key), KRs K ρ H ws vs → (kFind ws k = none → valV vs k = none) ∧ ∀ w, kFind ws k = some w → ∃ v, valV vs k = some v ∧ VR K ρ H w v
  | [], _, k, q => by unfold KRs at q; subst q; exact ⟨fun _ => rfl, fun w e => by cases e⟩
  | (j, w) :: r, _, k, q => by
    unfold KRs at q
    obtain ⟨v, t, rfl, q1, q2⟩ := q
    unfold kFind
    by_cases e : j = k
    · simp only [if_pos e]
      exact ⟨fun z => (by cases z), fun u z => by cases z; exact ⟨v, valV_pos (p := (j, v)) e, q1⟩⟩
    · simp only [if_neg e]
      rw [valV_neg (p := (j, v)) e]
      exact kFind_ok k q2
theorem KRs.any : ∀ {ws : List (L2.Key × W)} {vs : List (L2.Key × V)} (k : L2.Key), KRs K ρ H ws vs → (vs.any fun p => decide (p.1 = k)) = ws.any fun p => decide (p.1 = k)
  | [], _, k, q => by unfold KRs at q; subst q; rfl
  | (j, w) :: r, _, k, q => by
    unfold KRs at q
    obtain ⟨v, t, rfl, q1, q2⟩ := q
    rw [List.any_cons, List.any_cons, KRs.any k q2]
theorem KRs.put1 {k : L2.Key} {w : W} {v : V} (qv : VR K ρ H w v) : ∀ {ws : List (L2.Key × W)} {vs : List (L2.Key × V)}, KRs K ρ H ws vs →
    KRs K ρ H (ws.map fun p => if p.1 = k then (p.1, w) else p) (vs.map fun p => if p.1 = k then (p.1, v) else p)
  | [], _, q => by unfold KRs at q; subst q; unfold KRs; rfl
  | (j, w0) :: r, _, q => by
    unfold KRs at q
    obtain ⟨v0, t, rfl, q1, q2⟩ := q
    have ih := KRs.put1 (k := k) qv q2
    rw [List.map_cons, List.map_cons]
    by_cases e : j = k
    · simp only [if_pos e]
      unfold KRs
      exact ⟨v, _, rfl, qv, ih⟩
    · simp only [if_neg e]
      unfold KRs
      exact ⟨v0, _, rfl, q1, ih⟩
theorem KRs.snoc {k : L2.Key} {w : W} {v : V} (qv : VR K ρ H w v) : ∀ {ws : List (L2.Key × W)} {vs : List (L2.Key × V)}, KRs K ρ H ws vs → KRs K ρ H (ws ++ [(k, w)]) (vs ++ [(k, v)])
  | [], _, q => by
    unfold KRs at q; subst q
    show KRs K ρ H [(k, w)] [(k, v)]
    unfold KRs
    exact ⟨v, [], rfl, qv, by unfold KRs; rfl⟩
  | (j, w0) :: r, _, q => by
    unfold KRs at q
    obtain ⟨v0, t, rfl, q1, q2⟩ := q
    rw [List.cons_append, List.cons_append]
    unfold KRs
    exact ⟨v0, _, rfl, q1, KRs.snoc qv q2⟩
theorem kPut_ok {ws : List (L2.Key × W)} {vs : List (L2.Key × V)} (k : L2.Key) {w : W} {v : V} (q : KRs K ρ H ws vs) (qv : VR K ρ H w v) : KRs K ρ H (kPut ws k w) (putK vs k v) := by
  unfold kPut putK
  rw [KRs.any k q]
  split
  · exact q.put1 qv
  · exact q.snoc qv
theorem keyOf_ok {w : W} {v : V} {k : L2.Key} (q : VR K ρ H w v) (e : keyOf w = some k) : v = kV k := by
  cases w with
  | int i => cases e; rw [q.nodep_int]; rfl
  | str i => cases e; rw [q.nodep_str]; rfl
  | _ => cases e
theorem KRs.keys : ∀ {ws : List (L2.Key × W)} {vs : List (L2.Key × V)}, KRs K ρ H ws vs → vs.map (·.1) = ws.map (·.1)
  | [], _, q => by unfold KRs at q; subst q; rfl
  | (j, w) :: r, _, q => by
    unfold KRs at q
    obtain ⟨v, t, rfl, q1, q2⟩ := q
    rw [List.map_cons, List.map_cons, KRs.keys q2]
/-- in -/
def rIn2 (K : PySem.W.Frag) (neg : Bool) : R2 := fun x y H Q => (if neg then rDnin x y H Q else rDin x y H Q) ∨ (if neg then rNotInD K x y H Q else rInD K x y H Q) ∨ rIn K neg x y H Q
theorem in_ok (neg : Bool) {x y : V} {wx wy : W} {b : Bool} (l : Rel K ρ h H) (qx : VR K ρ H wx x) (qy : VR K ρ H wy y) (e : inOp wx wy h = some b) (q : Q (.bl (if neg then !b else b)) H) : rIn2 K neg x y H Q := by
  cases wy with
  | ref n =>
    cases e1 : h.get n with
    | none => simp only [inOp, e1] at e; cases e
    | some o =>
      cases o with
      | dct kvs =>
        simp only [inOp, e1] at e
        obtain ⟨a, vs, rfl, _, ha, ra⟩ := l.dct e1 qy
        cases e2 : keyOf wx with
        | none => simp only [e2] at e; cases e
        | some k =>
          simp only [e2] at e
          rw [keyOf_ok qx e2]
          have hb : (valV vs k).isSome = b := by
            obtain ⟨g1, g2⟩ := kFind_ok k ra
            rw [← Option.some.inj e]
            cases e3 : kFind kvs k with
            | none => rw [g1 e3]; rfl
            | some w => obtain ⟨v, g, _⟩ := g2 w e3; rw [g]; rfl
          refine .inl ?_
          cases neg with
          | true => exact ⟨a, _, rfl, DGet.k (k := k) ha, by rw [hb]; exact q⟩
          | false => exact ⟨a, _, rfl, DGet.k (k := k) ha, by rw [hb]; exact q⟩
      | lst xs =>
        simp only [inOp, e1] at e
        obtain ⟨a, vs, rfl, _, ha, ra⟩ := l.lst e1 qy
        cases e2 : dat h wx with
        | none => simp only [e2] at e; cases e
        | some d =>
          cases e3 : optAll (xs.map (toD 39 h)) with
          | none => simp only [e2, e3] at e; cases e
          | some ds =>
            simp only [e2, e3] at e
            cases c : (SeqAt.shaped d && SeqAt.shaped (.list ds)) with
            | false => rw [c] at e; cases e
            | true =>
              rw [c, cond_true] at e
              obtain ⟨c1, c2⟩ := Bool.and_eq_true_iff.mp c
              rw [← Option.some.inj e] at q
              have p1 := toD_ok l 40 wx x d e2 qx
              have p2 : Dp K H (.ref a) (.list ds) := .lst (SqL.of ha) (toDs_ok l 39 xs vs ds e3 ra)
              refine .inr (.inl ?_)
              cases neg with
              | true => exact ⟨d, ds, p1, p2, c1, c2, q⟩
              | false => exact ⟨d, ds, p1, p2, c1, c2, q⟩
  | tup xs =>
    obtain ⟨a, vs, rfl, ta, ra⟩ := qy.tup
    simp only [inOp] at e
    cases e2 : flatW wx with
    | none => simp only [e2] at e; cases e
    | some u =>
      cases e3 : optAll (xs.map flatW) with
      | none => simp only [e2, e3] at e; cases e
      | some us =>
        simp only [e2, e3] at e
        obtain ⟨a1, a2⟩ := flat_ok qx e2
        obtain ⟨b1, b2⟩ := flats_ok ra e3
        subst a1 b1
        rw [← Option.some.inj e] at q
        exact .inr (.inr ⟨a, vs, rfl, .inr ta.sq, a2, b2, q⟩)
  | _ => simp only [inOp] at e; cases e
end
end TL
/-! Comparisons, subscripts, slices, stores, built-in functions, methods: the rules, by the machine. -/
namespace TL
open PySem L2 PyProof.Rows
variable [TabI] [CloI]
section
variable {X : Cx} {ct : Nat → Option Value} {Wx : XK}
theorem binR (o : Bop) : OpR X (binaryOp (bopOf o)) (m2 X.K ct Wx (binOp o)) := fun pins s σ H x y v u Q I rx ry q => opB o pins s σ H x y v u Q I rx ry (binW o q)
theorem cmpR (hu : X.A.units + 65 < cLine) (o : Cop) : OpR X (compareOp (copOf o)) (m2B X.K (cmpOp o)) := by
  intro pins s σ H x y v u Q I rx ry q
  obtain ⟨ρ, h, wx, wy, b, l, qx, qy, e, q⟩ := q
  have ord : ∀ o : Cop, ordW o wx wy = some b → ∃ i j, x = .int i ∧ y = .int j ∧ b = ordOp o i j := fun o e2 => by
    cases wx with
    | int i =>
      cases wy with
      | int j => exact ⟨i, j, qx.nodep_int, qy.nodep_int, (Option.some.inj e2).symm⟩
      | _ => cases e2
    | _ => cases e2
  cases o with
  | eq =>
    rcases eqW_ok l qx qy e with ⟨i, j, rfl, rfl, rfl⟩ | ⟨d, d2, h1, h2, h3, h4, rfl⟩
    · exact op_eq pins s σ H _ _ v u Q I rx ry ⟨rfl, by rw [dec_int]; exact q⟩
    · exact op_eqD (by omega) pins s σ H _ _ v u Q I rx ry ⟨d, d2, h1, h2, h3, h4, q⟩
  | ne =>
    have e' := notO_some e
    rcases eqW_ok l qx qy e' with ⟨i, j, rfl, rfl, eb⟩ | ⟨d, d2, h1, h2, h3, h4, eb⟩
    · exact op_ne pins s σ H _ _ v u Q I rx ry ⟨rfl, by rw [dec_int, ← eb, Bool.not_not]; exact q⟩
    · exact op_neD (by omega) pins s σ H _ _ v u Q I rx ry ⟨d, d2, h1, h2, h3, h4, by rw [← eb, Bool.not_not]; exact q⟩
  | lt => obtain ⟨i, j, rfl, rfl, rfl⟩ := ord .lt e; exact op_lt pins s σ H _ _ v u Q I rx ry ⟨i, j, rfl, rfl, q⟩
  | le => obtain ⟨i, j, rfl, rfl, rfl⟩ := ord .le e; exact op_le pins s σ H _ _ v u Q I rx ry ⟨i, j, rfl, rfl, q⟩
  | gt => obtain ⟨i, j, rfl, rfl, rfl⟩ := ord .gt e; exact op_gt pins s σ H _ _ v u Q I rx ry ⟨i, j, rfl, rfl, q⟩
  | ge => obtain ⟨i, j, rfl, rfl, rfl⟩ := ord .ge e; exact op_ge pins s σ H _ _ v u Q I rx ry ⟨i, j, rfl, rfl, q⟩
  | isin =>
    rcases in_ok (Q := Q) false l qx qy e q with z | z | z
    · exact op_din (by omega) pins s σ H _ _ v u Q I rx ry z
    · exact op_inD hu pins s σ H _ _ v u Q I rx ry z
    · exact op_in_seq pins s σ H _ _ v u Q I rx ry z
  | notin =>
    have e' := notO_some e
    rcases in_ok (Q := Q) true l qx qy e' (by rw [if_pos rfl, Bool.not_not]; exact q) with z | z | z
    · exact op_dnin (by omega) pins s σ H _ _ v u Q I rx ry z
    · exact op_notInD hu pins s σ H _ _ v u Q I rx ry z
    · exact op_notIn_seq pins s σ H _ _ v u Q I rx ry z
  | iss =>
    cases wy with
    | non => rw [qy.nodep_non] at ry; exact op_isN pins s σ H x _ v u Q I rx ry ⟨rfl, by rw [← isNon_ok qx e]; exact q⟩
    | _ => cases e
  | isnt =>
    cases wy with
    | non => rw [qy.nodep_non] at ry; exact op_notN pins s σ H x _ v u Q I rx ry ⟨rfl, by rw [← isNon_ok qx (notO_some e), Bool.not_not]; exact q⟩
    | _ => cases e

/-! ### subscripts -/
theorem atI_W {K : PySem.W.Frag} {ρ : List Addr} {H : Hp} {ws : List W} {vs : List V} (q : VRs K ρ H ws vs) {i : Int} {w : W} (e : atI ws i = some w) : ∃ v, atI vs i = some v ∧ VR K ρ H w v := by
  unfold atI at e ⊢
  rw [q.length]
  cases e1 : ixN ws.length i with
  | none => rw [e1] at e; cases e
  | some j =>
    rw [e1] at e
    exact q.get e
def rIxA (K : PySem.W.Frag) : R2 := fun x y H Q => rIxL K x y H Q ∨ rIxT K x y H Q ∨ rIxD2 x y H Q
theorem idxW {K : PySem.W.Frag} {x y : V} {H : Hp} {Q : VK} (q : m2 K ct Wx idxOp x y H Q) : rIxA K x y H Q := by
  obtain ⟨ρ, h, wx, wy, l, qx, qy, q⟩ := q
  cases wx with
  | tup xs =>
    cases wy with
    | int i =>
      obtain ⟨a, vs, rfl, ta, ra⟩ := qx.tup
      rw [qy.nodep_int]
      cases e : atI xs i with
      | none => simp only [idxOp, e] at q; exact absurd q rderr
      | some w =>
        simp only [idxOp, e] at q
        obtain ⟨v, e2, qv⟩ := atI_W ra e
        exact .inr (.inl ⟨a, vs, i, v, rfl, rfl, ta.sq, e2, q.fine l _ qv⟩)
    | _ => exact absurd q rderr
  | frl xs =>
    cases wy with
    | int i =>
      obtain ⟨a, vs, rfl, ta, ra⟩ := qx.frl
      rw [qy.nodep_int]
      cases e : atI xs i with
      | none => simp only [idxOp, e] at q; exact absurd q rderr
      | some w =>
        simp only [idxOp, e] at q
        obtain ⟨v, e2, qv⟩ := atI_W ra e
        exact .inl ⟨a, vs, i, v, rfl, rfl, ta.seq, e2, q.fine l _ qv⟩
    | _ => exact absurd q rderr
  | ref n =>
    cases e1 : h.get n with
    | none => simp only [idxOp, e1] at q; exact absurd q rderr
    | some o =>
      cases o with
      | lst xs =>
        simp only [idxOp, e1] at q
        cases wy with
        | int i =>
          obtain ⟨a, vs, rfl, _, ha, ra⟩ := l.lst e1 qx
          rw [qy.nodep_int]
          cases e : atI xs i with
          | none => simp only [e] at q; exact absurd q rderr
          | some w =>
            simp only [e] at q
            obtain ⟨v, e2, qv⟩ := atI_W ra e
            exact .inl ⟨a, vs, i, v, rfl, rfl, SqL.of ha, e2, q.fine l _ qv⟩
        | _ => exact absurd q rderr
      | dct kvs =>
        simp only [idxOp, e1] at q
        obtain ⟨a, vs, rfl, _, ha, ra⟩ := l.dct e1 qx
        cases e2 : keyOf wy with
        | none => simp only [e2] at q; exact absurd q rderr
        | some k =>
          simp only [e2] at q
          rw [keyOf_ok qy e2]
          cases e3 : kFind kvs k with
          | none => simp only [e3] at q; exact absurd q rderr
          | some w =>
            simp only [e3] at q
            obtain ⟨v, g, qv⟩ := (kFind_ok k ra).2 w e3
            refine .inr (.inr ⟨a, v, rfl, ?_, q.fine l _ qv⟩)
            rw [← g]
            exact DGet.k ha
  | _ => exact absurd q rderr
theorem ixR (hu : X.A.units + 65 < cLine) : IxR X (m2 X.K ct Wx idxOp) := by
  intro value slice pins s σ H x y v u Q I rx ry q hs
  rcases idxW q with z | z | z
  · exact ix_list value slice pins s σ H x y v u Q I rx ry z hs
  · exact ix_tup value slice pins s σ H x y v u Q I rx ry z hs
  · exact ix_dct (by omega) value slice pins s σ H x y v u Q I rx ry z hs
theorem getR (hu : X.A.units + 65 < cLine) : PGet X (m2 X.K ct Wx idxOp) := by
  intro pins s σ H x y v u Q I rx ry q
  have hn := line63
  rcases idxW q with z | z | z
  · obtain ⟨p, xs, i, z, rfl, rfl, hq, he, q⟩ := z
    cases rx
    obtain ⟨t, rfl⟩ := ry
    obtain ⟨its, r, pl, hz⟩ := I.list hq
    obtain ⟨j, h1, h2, h3, h4, h5⟩ := atI_get he
    obtain ⟨w, ew, rw'⟩ := r.get h2
    have hl := r.length
    have fin : EP X pins σ Q w s := ⟨z, H, I, rw', q⟩
    by_cases h0 : 0 ≤ i
    · have hj : i.toNat = j := by
        rw [seqIndex_of h0 h5] at h1
        exact Option.some.inj h1
      exact wpAny_getItem_list pl.isList h0 (by omega) (by rw [hj]; simpa using ew) fin
    · have hj : (i + (its.toArray.size : Int)).toNat = j := by
        rw [seqIndex_neg (by omega) h4] at h1
        rw [List.size_toArray, ← hl]
        exact Option.some.inj h1
      exact wpAny_getItem_list_neg pl.isList (by omega) (by rw [List.size_toArray] <;> omega) (by omega) (by rw [hj]; simpa using ew) fin
  · obtain ⟨p, xs, i, z, rfl, rfl, hq, he, q⟩ := z
    cases rx
    obtain ⟨t, rfl⟩ := ry
    obtain ⟨its, r, pl, hz⟩ := I.tuple hq
    obtain ⟨j, h1, h2, h3, h4, h5⟩ := atI_get he
    obtain ⟨w, ew, rw'⟩ := r.get h2
    have hl := r.length
    exact PyProof.Rows.getItem_tuple (j := j) (Q := EP X pins σ Q) pl (by omega) (by omega) (by rw [List.size_toArray, ← hl]; exact h1) (by simpa using ew) ⟨z, H, I, rw', q⟩
  · obtain ⟨a, z, rfl, g, q⟩ := z
    cases rx
    exact d_getItem (by omega) I g ry fun w' s3 I3 rw' => ⟨z, H, I3, rw', q⟩
def m1S (K : PySem.W.Frag) (ct : Nat → Option Value) (Wx : XK) : V → Option Int → Option Int → Hp → VK → Prop := fun x lo hi H Q => ∃ ρ h wx, Rel K ρ h H ∧ VR K ρ H wx x ∧ rd K ct Wx ρ H (slcOp wx lo hi h) (QW K Q)
theorem cut_ok {K : PySem.W.Frag} {ρ : List Addr} {H : Hp} {ws : List W} {vs : List V} (q : VRs K ρ H ws vs) (lo hi : Option Int) : VRs K ρ H (cutW ws lo hi) (cutV vs lo hi) := by
  unfold cutW cutV
  rw [q.length]
  exact (q.drop _).take _
theorem slcR : SlR X (m1S X.K ct Wx) := by
  intro pins s σ H x v vl vu lo hi sl Q I rx hs pl pu q
  obtain ⟨ρ, h, wx, l, qx, q⟩ := q
  cases wx with
  | tup xs =>
    obtain ⟨a, vs, rfl, ta, ra⟩ := qx.tup
    refine sl_tupZ pins s σ H _ v vl vu lo hi sl Q I rx hs pl pu ⟨a, vs, rfl, ta.sq, fun e => ?_, fun e => newTW l (cut_ok ra lo hi) q⟩
    have e2 : cutW xs lo hi = xs := by
      unfold cutW
      rw [← ra.length, e.1, e.2, ra.length]
      simp
    have q2 : rd X.K ct Wx ρ H (.ok (.tup (cutW xs lo hi)) h) (QW X.K Q) := q
    rw [e2] at q2
    exact q2.fine l _ qx
  | frl xs =>
    obtain ⟨a, vs, rfl, ta, ra⟩ := qx.frl
    exact sl_list pins s σ H _ v vl vu lo hi sl Q I rx hs pl pu ⟨a, vs, rfl, ta.seq, newLW l (cut_ok ra lo hi) q⟩
  | ref n =>
    cases e1 : h.get n with
    | none => simp only [slcOp, e1] at q; exact absurd q rderr
    | some o =>
      cases o with
      | lst xs =>
        simp only [slcOp, e1] at q
        obtain ⟨a, vs, rfl, _, ha, ra⟩ := l.lst e1 qx
        exact sl_list pins s σ H _ v vl vu lo hi sl Q I rx hs pl pu ⟨a, vs, rfl, SqL.of ha, newLW l (cut_ok ra lo hi) q⟩
      | dct kvs => simp only [slcOp, e1] at q; exact absurd q rderr
  | _ => exact absurd q rderr
def m3S (K : PySem.W.Frag) : TSet := fun o i v H Q => ∃ ρ h wo wi wv h', Rel K ρ h H ∧ VR K ρ H wo o ∧ VR K ρ H wi i ∧ VR K ρ H wv v ∧ setOp wo wi wv h = some h' ∧ ∀ H', Stp ρ ρ H H' → Rel K ρ h' H' → Q H'
theorem putK_le {κ : Type} [DecidableEq κ] (kvs : List (κ × V)) (k : κ) (v : V) : (putK kvs k v).length ≤ kvs.length + 1 := length_putK kvs k v
theorem setR (hu : X.A.units + 65 < cLine) : PSet X (m3S X.K) := by
  intro pins s σ H o i v ov iv u Q I ro ri rv q
  obtain ⟨ρ, h, wo, wi, wv, h', l, qo, qi, qv, e, q⟩ := q
  cases wo with
  | ref n =>
    cases e1 : h.get n with
    | none => simp only [setOp, e1] at e; cases e
    | some ob =>
      cases ob with
      | lst xs =>
        simp only [setOp, e1] at e
        cases wi with
        | int k =>
          obtain ⟨a, vs, rfl, er, ha, ra⟩ := l.lst e1 qo
          rw [qi.nodep_int] at ri
          cases e2 : ixN xs.length k with
          | none => simp only [e2] at e; cases e
          | some j =>
            simp only [e2] at e
            have e := Option.some.inj e
            subst e
            obtain ⟨w1, w2⟩ := wrLW l er ha (ra.set j qv)
            exact set_list pins s σ H _ _ v ov iv u Q I ro ri rv ⟨a, vs, k, j, rfl, rfl, ha, by rw [ra.length]; exact e2, q _ w1 w2⟩
        | _ => cases e
      | dct kvs =>
        simp only [setOp, e1] at e
        obtain ⟨a, vs, rfl, er, ha, ra⟩ := l.dct e1 qo
        cases e2 : keyOf wi with
        | none => simp only [e2] at e; cases e
        | some k =>
          simp only [e2] at e
          rw [keyOf_ok qi e2] at ri
          cases c : Nat.ble (kvs.length + 1) 16777216 with
          | false => rw [c, cond_false] at e; exact absurd e (by simp)
          | true =>
            rw [c, cond_true] at e
            have e := Option.some.inj e
            subst e
            have c2 := Nat.le_of_ble_eq_true c
            have hl : vs.length = kvs.length := by have := congrArg List.length ra.keys; simpa using this
            have nz := NoZ.dct ha
            have st := Stp.wr (HO.dK (putK vs k v)) er nz
            exact set_dct (by omega) pins s σ H _ _ v ov iv u Q I ro ri rv ⟨a, _, rfl, DPut.k ha (by rw [hl, sizeLine_eq]; omega), q _ st (l.wr _ _ er nz ⟨_, upd_same, KRs.mv l st (kPut_ok k ra qv)⟩)⟩
  | _ => cases e
end
end TL
/-! Built-in functions, methods. -/
namespace TL
open PySem L2 PyProof.Rows
variable [TabI] [CloI]
section
variable {K : PySem.W.Frag} {ct : Nat → Option Value} {Wx : XK} {ρ : List Addr} {H : Hp} {h : Hw} {Q : VK}
theorem sqX_of {a : Addr} {vs : List V} (q : SqL K H a vs ∨ SqT K H a vs) : ∃ b, SqX K b H a vs := by
  rcases q with q | q
  · exact ⟨false, q⟩
  · exact ⟨true, q⟩
theorem ints_ok : ∀ {ws : List W} {vs : List V} {is : List Int}, VRs K ρ H ws vs → intsOf ws = some is → vs = is.map V.int
  | [], _, _, q, e => by rw [VRs.nil_iff.mp q]; cases e; rfl
  | w :: ws, _, is, q, e => by
    obtain ⟨v, r, rfl, q1, q2⟩ := VRs.cons_iff.mp q
    cases w with
    | int i =>
      unfold intsOf at e
      cases e2 : intsOf ws with
      | none => rw [e2] at e; cases e
      | some js =>
        rw [e2] at e; cases e
        rw [q1.nodep_int, ints_ok q2 e2]
        rfl
    | _ => cases e
/-! sorting -/
def PR (K : PySem.W.Frag) (ρ : List Addr) (H : Hp) : List (W × PyData) → List (V × PyData) → Prop
  | [], m => m = []
  | p :: l, m => ∃ q r, m = q :: r ∧ p.2 = q.2 ∧ VR K ρ H p.1 q.1 ∧ PR K ρ H l r
theorem PR.ins {p : W × PyData} {q : V × PyData} (e : p.2 = q.2) (g : VR K ρ H p.1 q.1) : ∀ {l : List (W × PyData)} {m : List (V × PyData)}, PR K ρ H l m → PR K ρ H (insS (PySem.W.dataLe false Prod.snd) p l) (insS (PySem.W.dataLe false Prod.snd) q m)
  | [], _, z => by
    unfold PR at z; subst z
    exact ⟨q, [], rfl, e, g, rfl⟩
  | a :: l, _, z => by
    have z0 := z
    obtain ⟨b, r, rfl, e2, g2, t⟩ := z
    have hle : PySem.W.dataLe false Prod.snd p a = PySem.W.dataLe false Prod.snd q b := by
      unfold PySem.W.dataLe PySem.W.sortLe
      simp only [e, e2]
    unfold insS
    rw [hle]
    cases PySem.W.dataLe false Prod.snd q b with
    | true => exact ⟨q, _, rfl, e, g, z0⟩
    | false => exact ⟨b, _, rfl, e2, g2, PR.ins e g t⟩
theorem PR.srt : ∀ {l : List (W × PyData)} {m : List (V × PyData)}, PR K ρ H l m → PR K ρ H (isort (PySem.W.dataLe false Prod.snd) l) (isort (PySem.W.dataLe false Prod.snd) m)
  | [], _, z => by unfold PR at z; subst z; exact rfl
  | a :: l, _, z => by
    obtain ⟨b, r, rfl, e2, g2, t⟩ := z
    exact PR.ins e2 g2 t.srt
theorem PR.zip : ∀ {ws : List W} {vs : List V} {ds : List PyData}, VRs K ρ H ws vs → PR K ρ H (ws.zip ds) (vs.zip ds)
  | [], _, _, q => by rw [VRs.nil_iff.mp q]; exact rfl
  | w :: ws, _, [], q => by
    obtain ⟨v, r, rfl, q1, q2⟩ := VRs.cons_iff.mp q
    exact rfl
  | w :: ws, _, d :: ds, q => by
    obtain ⟨v, r, rfl, q1, q2⟩ := VRs.cons_iff.mp q
    exact ⟨(v, d), _, rfl, rfl, q1, PR.zip q2⟩
theorem PR.fst : ∀ {l : List (W × PyData)} {m : List (V × PyData)}, PR K ρ H l m → VRs K ρ H (l.map Prod.fst) (m.map Prod.fst)
  | [], _, z => by unfold PR at z; subst z; exact VRs.nil_iff.mpr rfl
  | a :: l, _, z => by
    obtain ⟨b, r, rfl, e2, g2, t⟩ := z
    exact VRs.cons_iff.mpr ⟨_, _, rfl, g2, t.fst⟩
theorem sort_ok {ws : List W} {vs : List V} (ds : List PyData) (q : VRs K ρ H ws vs) : VRs K ρ H ((isort (PySem.W.dataLe false Prod.snd) (ws.zip ds)).map Prod.fst) (sortV vs ds) := (PR.zip q).srt.fst
theorem sortOk_ok {ds : List PyData} (e : sortOk ds = true) : PySem.W.AllAlike ds ∧ PySem.W.Sortable ds ∧ ∀ d ∈ ds, d.depth ≤ 60 := by
  unfold sortOk at e
  simp only [Bool.and_eq_true, List.all_eq_true, Bool.or_eq_true] at e
  obtain ⟨⟨e1, e2⟩, e3⟩ := e
  refine ⟨fun d hd d' hd' => e1 d hd d' hd', ?_, fun d hd => Nat.le_of_ble_eq_true (e3 d hd)⟩
  rcases e2 with e2 | e2
  · refine .inl fun d hd => ?_
    have := e2 d hd
    unfold tupNE at this
    split at this
    · exact ⟨_, _, rfl⟩
    · cases this
  · refine .inr fun d hd => ?_
    have := e2 d hd
    refine ⟨?_, ?_⟩
    · rintro rfl; cases this
    · rintro xs rfl; cases this
end
/-! ### built-in functions -/
def biName : Bi → Str
  | .len => "len"
  | .list => "list"
  | .tuple => "tuple"
  | .sum => "sum"
  | .sorted => "sorted"
  | .min1 => "min"
  | .max1 => "max"
  | .min2 => "min"
  | .max2 => "max"
  | .int => "int"
  | .abs => "abs"
  | .isinst _ => "isinstance"
  | .repr => "repr"
  | .rev => "len"
  | .lrng1 => "list"
  | .lrng2 => "list"
def biVal : Bi → Value
  | .len => .builtin "len"
  | .list => .type "list"
  | .tuple => .type "tuple"
  | .sum => .builtin "sum"
  | .sorted => .builtin "sorted"
  | .min1 => .builtin "min"
  | .max1 => .builtin "max"
  | .min2 => .builtin "min"
  | .max2 => .builtin "max"
  | .int => .type "int"
  | .abs => .builtin "abs"
  | .isinst _ => .builtin "isinstance"
  | .repr => .builtin "repr"
  | .rev => .builtin "len"
  | .lrng1 => .type "list"
  | .lrng2 => .type "list"
theorem bootB (b : Bi) : bootBuiltins (biName b) = some (biVal b) := by cases b <;> first | decide +kernel | exact PyProof.Rows.boot_isinstance
theorem biNoName (b : Bi) : biName b ≠ "__name__" ∧ (biName b == ("__debug__" : Str)) = false := by
  cases b <;> first | exact ⟨by decide +kernel, by decide +kernel⟩ | exact ⟨(by decide +kernel : ("isinstance" : Str) ≠ "__name__"), (by decide +kernel : (("isinstance" : Str) == ("__debug__" : Str)) = false)⟩
def plainBi : Bi → Bool
  | .isinst _ => false
  | .rev => false
  | .lrng1 => false
  | .lrng2 => false
  | _ => true
section
variable {X : Cx} {ct : Nat → Option Value} {Wx : XK}
def m1C (K : PySem.W.Frag) (ct : Nat → Option Value) (Wx : XK) (b : Bi) : List V → Hp → VK → Prop := fun xs H Q => ∃ ρ h ws, Rel K ρ h H ∧ VRs K ρ H ws xs ∧ rd K ct Wx ρ H (biOp b ws h) (QW K Q)
theorem biR (hc : X.calm = true) (hu : X.A.units + 65 < cLine) (hg : X.A.guards = some []) (b : Bi) (hb : plainBi b = true) : CallR X (biVal b) (m1C X.K ct Wx b) := by
  intro pins s σ H xs us Q I r q
  obtain ⟨ρ, h, ws, l, qs, q⟩ := q
  cases b with
  | len =>
    match ws, qs, q with
    | [], _, q => exact absurd q rderr
    | x :: _ :: _, _, q => exact False.elim (by cases x <;> exact q)
    | [w], qs, q =>
      obtain ⟨v, rfl, qv⟩ := qs.one
      cases w with
      | str x =>
        rw [qv.nodep_str] at r
        obtain ⟨c, q⟩ := rdif q
        exact call_len pins s σ H _ us Q I r ⟨_, _, rfl, (show LenV X.K (.str x) H x.length from ⟨szOk_le c, rfl⟩), q.fine l _ VR.mk_int⟩
      | tup ys =>
        obtain ⟨a, vs, rfl, ta, ra⟩ := qv.tup
        exact call_len pins s σ H _ us Q I r ⟨_, ys.length, rfl, .inr ⟨vs, ta.sq, ra.length.symm⟩, q.fine l _ VR.mk_int⟩
      | frl ys =>
        obtain ⟨a, vs, rfl, ta, ra⟩ := qv.frl
        exact call_len pins s σ H _ us Q I r ⟨_, ys.length, rfl, .inl ⟨vs, ta.seq, ra.length.symm⟩, q.fine l _ VR.mk_int⟩
      | ref n =>
        cases e1 : h.get n with
        | none => simp only [biOp, e1] at q; exact absurd q rderr
        | some o =>
          cases o with
          | lst ys =>
            simp only [biOp, e1] at q
            obtain ⟨a, vs, rfl, _, ha, ra⟩ := l.lst e1 qv
            exact call_len pins s σ H _ us Q I r ⟨_, ys.length, rfl, .inl ⟨vs, SqL.of ha, ra.length.symm⟩, q.fine l _ VR.mk_int⟩
          | dct kvs =>
            simp only [biOp, e1] at q
            obtain ⟨a, vs, rfl, _, ha, ra⟩ := l.dct e1 qv
            have hl : vs.length = kvs.length := by have := congrArg List.length ra.keys; simpa using this
            exact call_lenD pins s σ H _ us Q I r ⟨a, vs, rfl, ha, by rw [hl]; exact q.fine l _ VR.mk_int⟩
      | _ => exact absurd q rderr
  | list =>
    match ws, qs, q with
    | [], _, q => exact absurd q rderr
    | _ :: _ :: _, _, q => exact absurd q rderr
    | [w], qs, q =>
      obtain ⟨v, rfl, qv⟩ := qs.one
      cases e : seqOf h w with
      | none => simp only [biOp, e] at q; exact absurd q rderr
      | some ys =>
        simp only [biOp, e] at q
        obtain ⟨a, vs, rfl, sq, ra⟩ := seqOf_ok l e qv
        exact call_list_of pins s σ H _ us Q I r ⟨a, vs, rfl, sq, newLW l ra q⟩
  | tuple =>
    match ws, qs, q with
    | [], _, q => exact absurd q rderr
    | _ :: _ :: _, _, q => exact absurd q rderr
    | [w], qs, q =>
      obtain ⟨v, rfl, qv⟩ := qs.one
      cases e : seqOf h w with
      | none => simp only [biOp, e] at q; exact absurd q rderr
      | some ys =>
        simp only [biOp, e] at q
        obtain ⟨a, vs, rfl, sq, ra⟩ := seqOf_ok l e qv
        refine call_tupZ pins s σ H _ us Q I r ⟨a, vs, rfl, ?_⟩
        cases w with
        | tup zs =>
          cases e
          obtain ⟨a2, vs2, e2, ta, ra2⟩ := qv.tup
          cases e2
          have : vs = vs2 := by
            rcases sq with sq | sq
            · obtain ⟨its, rv, ⟨o, n, g1, g2, g3⟩, _⟩ := I.list sq
              obtain ⟨its2, rv2, ⟨o2, g4, g5, _⟩, _⟩ := I.tuple ta.sq
              rw [g1] at g4; cases g4
              rw [g2] at g5; exact absurd g5 (by simp)
            · exact I.tuple_inj sq ta.sq
          subst this
          exact .inr ⟨ta.sq, q.fine l _ qv⟩
        | frl zs =>
          cases e
          obtain ⟨a2, vs2, e2, ta, ra2⟩ := qv.frl
          cases e2
          exact .inl ⟨(by
            rcases sq with sq | sq
            · exact sq
            · obtain ⟨its2, rv2, ⟨o2, g4, g5, _⟩, _⟩ := I.tuple sq
              obtain ⟨its, rv, ⟨o, n, g1, g2, g3⟩, _⟩ := I.list ta.seq
              rw [g1] at g4; cases g4
              rw [g2] at g5; exact absurd g5 (by simp)), newTW l ra q⟩
        | ref n =>
          cases e0 : h.get n with
          | none => simp only [seqOf, e0] at e; cases e
          | some ob =>
            cases ob with
            | dct _ => simp only [seqOf, e0] at e; cases e
            | lst ys2 =>
              simp only [seqOf, e0] at e
              cases e
              obtain ⟨a2, vs2, e2, _, ha, ra2⟩ := l.lst e0 qv
              cases e2
              exact .inl ⟨(by
                rcases sq with sq | sq
                · exact sq
                · obtain ⟨its2, rv2, ⟨o2, g4, g5, _⟩, _⟩ := I.tuple sq
                  obtain ⟨its, rv, ⟨o, n, g1, g2, g3⟩, _⟩ := I.list (SqL.of ha)
                  rw [g1] at g4; cases g4
                  rw [g2] at g5; exact absurd g5 (by simp)), newTW l ra q⟩
        | _ => cases e
  | sum =>
    match ws, qs, q with
    | [], _, q => exact absurd q rderr
    | _ :: _ :: _, _, q => exact absurd q rderr
    | [w], qs, q =>
      obtain ⟨v, rfl, qv⟩ := qs.one
      cases e : seqOf h w with
      | none => simp only [biOp, e] at q; exact absurd q rderr
      | some ys =>
        obtain ⟨a, vs, rfl, sq, ra⟩ := seqOf_ok l e qv
        cases e2 : intsOf ys with
        | none => simp only [biOp, e, e2] at q; exact absurd q rderr
        | some is =>
          simp only [biOp, e, e2] at q
          obtain ⟨b, sx⟩ := sqX_of sq
          rw [ints_ok ra e2] at sx
          exact cr_sumX hc pins s σ H _ us Q I r ⟨b, a, is, rfl, sx, q.fine l _ VR.mk_int⟩
  | sorted =>
    match ws, qs, q with
    | [], _, q => exact absurd q rderr
    | _ :: _ :: _, _, q => exact absurd q rderr
    | [w], qs, q =>
      obtain ⟨v, rfl, qv⟩ := qs.one
      cases e : seqOf h w with
      | none => simp only [biOp, e] at q; exact absurd q rderr
      | some ys =>
        obtain ⟨a, vs, rfl, sq, ra⟩ := seqOf_ok l e qv
        cases e2 : optAll (ys.map (dat h)) with
        | none => simp only [biOp, e, e2] at q; exact absurd q rderr
        | some ds =>
          simp only [biOp, e, e2] at q
          obtain ⟨c, q⟩ := rdif q
          obtain ⟨c1, c2, c3⟩ := sortOk_ok c
          obtain ⟨b, sx⟩ := sqX_of sq
          exact cr_srt (by omega) pins s σ H _ us Q I r ⟨b, a, vs, ds, rfl, sx, toDs_ok l 40 ys vs ds e2 ra, c1, c2, c3, newLW l (sort_ok ds ra) q⟩
  | min1 =>
    match ws, qs, q with
    | [], _, q => exact absurd q rderr
    | _ :: _ :: _, _, q => exact absurd q rderr
    | [w], qs, q =>
      obtain ⟨v, rfl, qv⟩ := qs.one
      cases e : seqOf h w with
      | none => simp only [biOp, e] at q; exact absurd q rderr
      | some ys =>
        obtain ⟨a, vs, rfl, sq, ra⟩ := seqOf_ok l e qv
        cases e2 : intsOf ys with
        | none => simp only [biOp, e, e2] at q; exact absurd q rderr
        | some is =>
          cases is with
          | nil => simp only [biOp, e, e2] at q; exact absurd q rderr
          | cons n ns =>
            simp only [biOp, e, e2] at q
            obtain ⟨b, sx⟩ := sqX_of sq
            rw [ints_ok ra e2] at sx
            exact cr_lst hc (by omega) pins s σ H _ us Q I r ⟨b, a, n, ns, rfl, sx, q.fine l _ VR.mk_int⟩
  | max1 =>
    match ws, qs, q with
    | [], _, q => exact absurd q rderr
    | _ :: _ :: _, _, q => exact absurd q rderr
    | [w], qs, q =>
      obtain ⟨v, rfl, qv⟩ := qs.one
      cases e : seqOf h w with
      | none => simp only [biOp, e] at q; exact absurd q rderr
      | some ys =>
        obtain ⟨a, vs, rfl, sq, ra⟩ := seqOf_ok l e qv
        cases e2 : intsOf ys with
        | none => simp only [biOp, e, e2] at q; exact absurd q rderr
        | some is =>
          cases is with
          | nil => simp only [biOp, e, e2] at q; exact absurd q rderr
          | cons n ns =>
            simp only [biOp, e, e2] at q
            obtain ⟨b, sx⟩ := sqX_of sq
            rw [ints_ok ra e2] at sx
            exact cr_gst hc (by omega) pins s σ H _ us Q I r ⟨b, a, n, ns, rfl, sx, q.fine l _ VR.mk_int⟩
  | max2 =>
    match ws, qs, q with
    | [.int i, .int j], qs, q =>
      obtain ⟨v, v2, rfl, q1, q2⟩ := qs.two
      rw [q1.nodep_int, q2.nodep_int] at r
      exact call_max2 hc pins s σ H _ us Q I r ⟨i, j, rfl, q.fine l _ VR.mk_int⟩
    | [], _, q => exact absurd q rderr
    | [x], _, q => exact False.elim (by cases x <;> exact q)
    | x :: y :: _ :: _, _, q => exact False.elim (by cases x <;> cases y <;> exact q)
  | min2 =>
    match ws, qs, q with
    | [.int i, .int j], qs, q =>
      obtain ⟨v, v2, rfl, q1, q2⟩ := qs.two
      rw [q1.nodep_int, q2.nodep_int] at r
      exact call_min2 hc pins s σ H _ us Q I r ⟨i, j, rfl, q.fine l _ VR.mk_int⟩
    | [], _, q => exact absurd q rderr
    | [x], _, q => exact False.elim (by cases x <;> exact q)
    | x :: y :: _ :: _, _, q => exact False.elim (by cases x <;> cases y <;> exact q)
  | int =>
    match ws, qs, q with
    | [.int i], qs, q =>
      obtain ⟨v, rfl, q1⟩ := qs.one
      rw [q1.nodep_int] at r
      exact call_int1 pins s σ H _ us Q I r (.inl ⟨i, rfl, q.fine l _ VR.mk_int⟩)
    | [.bl i], qs, q =>
      obtain ⟨v, rfl, q1⟩ := qs.one
      rw [q1.nodep_bl] at r
      exact call_int1 pins s σ H _ us Q I r (.inr ⟨i, rfl, q.fine l _ VR.mk_int⟩)
    | [], _, q => exact absurd q rderr
    | x :: _ :: _, _, q => exact False.elim (by cases x <;> exact q)
  | abs =>
    match ws, qs, q with
    | [.int i], qs, q =>
      obtain ⟨v, rfl, q1⟩ := qs.one
      rw [q1.nodep_int] at r
      exact call_abs pins s σ H _ us Q I r ⟨i, rfl, q.fine l _ VR.mk_int⟩
    | [], _, q => exact absurd q rderr
    | x :: _ :: _, _, q => exact False.elim (by cases x <;> exact q)
  | repr =>
    match ws, qs, q with
    | [], _, q => exact absurd q rderr
    | _ :: _ :: _, _, q => exact absurd q rderr
    | [w], qs, q =>
      obtain ⟨v, rfl, qv⟩ := qs.one
      cases e : dat h w with
      | none => simp only [biOp, e] at q; exact absurd q rderr
      | some d =>
        simp only [biOp, e] at q
        obtain ⟨c, q⟩ := rdif q
        simp only [Bool.and_eq_true] at c
        exact cr_rpr hg (by omega) pins s σ H _ us Q I r ⟨v, d, rfl, toD_ok l 40 w v d e qv, c.1.1, Nat.le_of_ble_eq_true c.1.2, szOk_le c.2, q.fine l _ VR.mk_str⟩
  | isinst _ => cases hb
  | rev => cases hb
  | lrng1 => cases hb
  | lrng2 => cases hb
end
end TL
/-! Methods, truth, isinstance, reversed copies, lists of ranges. -/
namespace TL
open PySem L2 PyProof.Rows
variable [TabI] [CloI]
def meName : Me → Str
  | .append => "append"
  | .pop => "pop"
  | .index => "index"
  | .insert => "insert"
  | .extend => "extend"
def meId : Me → String
  | .append => "list.append"
  | .pop => "list.pop"
  | .index => "list.index"
  | .insert => "list.insert"
  | .extend => "list.extend"
def tyName : Nat → String
  | 0 => "int"
  | 1 => "bool"
  | 2 => "tuple"
  | 3 => "str"
  | 4 => "list"
  | _ => "dict"
def kindW : W → Bool
  | .tup _ => true
  | _ => false
section
variable {K : PySem.W.Frag} {ct : Nat → Option Value} {Wx : XK} {ρ : List Addr} {H : Hp} {h : Hw} {Q : VK}
theorem firstD_ok {d : PyData} : ∀ {ds : List PyData} {k j : Nat}, firstD d ds k = some j → ∃ i z, j = k + i ∧ ds[i]? = some z ∧ PyData.eqv z d = true ∧ ∀ m z', m < i → ds[m]? = some z' → PyData.eqv z' d = false
  | [], _, _, e => by cases e
  | a :: r, k, j, e => by
    unfold firstD at e
    cases c : PyData.eqv a d with
    | true =>
      rw [c, cond_true] at e
      cases e
      exact ⟨0, a, rfl, rfl, c, fun m _ z => absurd z (Nat.not_lt_zero m)⟩
    | false =>
      rw [c, cond_false] at e
      obtain ⟨i, z, e1, e2, e3, e4⟩ := firstD_ok e
      refine ⟨i + 1, z, by omega, e2, e3, fun m z' hm hz => ?_⟩
      cases m with
      | zero => cases hz; exact c
      | succ m => exact e4 m z' (by omega) hz
theorem VRs.dropLast {ws : List W} {vs : List V} (q : VRs K ρ H ws vs) : VRs K ρ H ws.dropLast vs.dropLast := by
  rw [List.dropLast_eq_take, List.dropLast_eq_take, q.length]
  exact q.take _
def mM (K : PySem.W.Frag) (ct : Nat → Option Value) (Wx : XK) (m : Me) (tp : Bool) : V → List V → Hp → VK → Prop := fun x xs H Q => ∃ ρ h wx ws, Rel K ρ h H ∧ VR K ρ H wx x ∧ VRs K ρ H ws xs ∧ kindW wx = tp ∧ rd K ct Wx ρ H (meOp m wx ws h) (QW K Q)
end
section
variable {X : Cx} {ct : Nat → Option Value} {Wx : XK}
theorem meLst {K : PySem.W.Frag} {m : Me} {wx : W} {ws : List W} {ρ : List Addr} {H : Hp} {h : Hw} {P : W → List Addr → Hw → Hp → Prop} (hk : kindW wx = false) (q : rd K ct Wx ρ H (meOp m wx ws h) P) : ∃ n xs, wx = .ref n ∧ h.get n = some (.lst xs) := by
  cases wx with
  | ref n =>
    cases e : h.get n with
    | none => exact False.elim (by cases m <;> cases ws with
        | nil => first | exact q | (simp only [meOp, e] at q; exact q)
        | cons w ws => cases w <;> cases ws with
          | nil => first | exact q | (simp only [meOp, e] at q; exact q)
          | cons w2 ws => cases ws <;> first | exact q | (simp only [meOp, e] at q; exact q))
    | some o =>
      cases o with
      | lst xs => exact ⟨n, xs, rfl, e⟩
      | dct kvs => exact False.elim (by cases m <;> cases ws with
        | nil => first | exact q | (simp only [meOp, e] at q; exact q)
        | cons w ws => cases w <;> cases ws with
          | nil => first | exact q | (simp only [meOp, e] at q; exact q)
          | cons w2 ws => cases ws <;> first | exact q | (simp only [meOp, e] at q; exact q))
  | tup xs => cases hk
  | _ => exact False.elim (by cases m <;> first | exact q | (cases ws with
      | nil => exact q
      | cons w ws => cases w <;> cases ws with
        | nil => exact q
        | cons w2 ws => cases ws <;> exact q))
theorem meL (hu : X.A.units + 65 < cLine) (m : Me) : MtR X (meId m) (mM X.K ct Wx m false) := by
  intro pins s σ H x xs v us Q I rx rxs q
  obtain ⟨ρ, h, wx, ws, l, qx, qs, hk, q⟩ := q
  obtain ⟨n, ys, rfl, e1⟩ := meLst hk q
  obtain ⟨a, vs, rfl, er, ha, ra⟩ := l.lst e1 qx
  cases m with
  | append =>
    match ws, qs, q with
    | [], _, q => exact False.elim q
    | _ :: _ :: _, _, q => exact False.elim q
    | [w], qs, q =>
      obtain ⟨y, rfl, qy⟩ := qs.one
      simp only [meOp, e1] at q
      obtain ⟨c, q⟩ := rdif q
      have c := Nat.le_of_ble_eq_true c
      obtain ⟨w1, w2⟩ := wrLW l er ha (ra.app (us := [w]) (ts := [y]) qs)
      exact mt_append pins s σ H _ _ v us Q I rx rxs ⟨a, vs, y, rfl, rfl, ha, by rw [ra.length, sizeLine_eq]; omega, q _ _ w1 w2 _ VR.mk_non⟩
  | pop =>
    match ws, qs, q with
    | [], qs, q =>
      obtain rfl := VRs.nil_iff.mp qs
      cases e2 : ys[ys.length - 1]? with
      | none => simp only [meOp, e1, e2] at q; exact absurd q rderr
      | some w =>
        simp only [meOp, e1, e2] at q
        obtain ⟨y, g, qy⟩ := ra.get e2
        obtain ⟨w1, w2⟩ := wrLW l er ha ra.dropLast
        exact mt_pop pins s σ H _ _ v us Q I rx rxs ⟨a, vs, y, rfl, rfl, ha, by rw [ra.length]; exact g, q _ _ w1 w2 _ (qy.mv l w1)⟩
    | [.int i], qs, q =>
      obtain ⟨y0, rfl, qy0⟩ := qs.one
      rw [qy0.nodep_int] at rxs
      cases e2 : ixN ys.length i with
      | none => simp only [meOp, e1, e2] at q; exact absurd q rderr
      | some k =>
        cases e3 : ys[k]? with
        | none => simp only [meOp, e1, e2, e3] at q; exact absurd q rderr
        | some w =>
          simp only [meOp, e1, e2, e3] at q
          obtain ⟨c, q⟩ := rdif q
          have c : i.natAbs ≤ 2305843009213693952 := Nat.le_of_ble_eq_true c
          obtain ⟨y, g, qy⟩ := ra.get e3
          obtain ⟨w1, w2⟩ := wrLW l er ha (ra.eraseIdx k)
          exact mt_popAt pins s σ H _ _ v us Q I rx rxs ⟨a, vs, i, k, y, rfl, rfl, ha, by omega, by omega, by rw [ra.length]; exact (ixN_seq e2).1, g, q _ _ w1 w2 _ (qy.mv l w1)⟩
    | x :: _ :: _, _, q => exact False.elim (by cases x <;> exact q)
  | index =>
    match ws, qs, q with
    | [], _, q => exact False.elim q
    | x :: _ :: _, _, q => exact False.elim (by cases x <;> exact q)
    | [w], qs, q =>
      obtain ⟨y, rfl, qy⟩ := qs.one
      have q2 : rd X.K ct Wx ρ H (match dat h w, optAll (ys.map (toD 39 h)) with
        | some d, some ds => bif SeqAt.shaped d && SeqAt.shaped (.list ds) then (match firstD d ds 0 with
          | some k => .ok (.int k) h
          | none => .err) else .err
        | _, _ => .err) (QW X.K Q) := by
        cases w <;> (simp only [meOp, e1] at q; exact q)
      cases e2 : dat h w with
      | none => rw [e2] at q2; exact absurd q2 rderr
      | some d =>
        cases e3 : optAll (ys.map (toD 39 h)) with
        | none => rw [e2, e3] at q2; exact absurd q2 rderr
        | some ds =>
          simp only [e2, e3] at q2
          obtain ⟨c, q2⟩ := rdif q2
          obtain ⟨c1, c2⟩ := Bool.and_eq_true_iff.mp c
          cases e4 : firstD d ds 0 with
          | none => rw [e4] at q2; exact absurd q2 rderr
          | some k =>
            simp only [e4] at q2
            obtain ⟨i, z, f1, f2, f3, f4⟩ := firstD_ok e4
            have f1 : k = i := by omega
            subst f1
            exact mt_indexD hu pins s σ H _ _ v us Q I rx rxs ⟨a, y, d, ds, k, z, rfl, rfl, .lst (SqL.of ha) (toDs_ok l 39 ys vs ds e3 ra), toD_ok l 40 w y d e2 qy, c2, c1, f2, f3, f4, q2.fine l _ VR.mk_int⟩
  | insert =>
    match ws, qs, q with
    | [.int i, w], qs, q =>
      obtain ⟨y0, y, rfl, qy0, qy⟩ := qs.two
      rw [qy0.nodep_int] at rxs
      simp only [meOp, e1] at q
      obtain ⟨c, q⟩ := rdif q
      simp only [Bool.and_eq_true, decide_eq_true_eq] at c
      obtain ⟨⟨c1, c2⟩, c3⟩ := c
      have c1 := Nat.le_of_ble_eq_true c1
      have c2 : i.natAbs ≤ 2305843009213693952 := Nat.le_of_ble_eq_true c2
      obtain ⟨w1, w2⟩ := wrLW l er ha (((ra.take i.toNat).app (VRs.cons_iff.mpr ⟨y, [], rfl, qy, VRs.nil_iff.mpr rfl⟩)).app (ra.drop i.toNat))
      exact mt_insert pins s σ H _ _ v us Q I rx rxs ⟨a, vs, i, y, rfl, rfl, ha, by rw [ra.length, sizeLine_eq]; omega, c3, by omega, q _ _ w1 w2 _ VR.mk_non⟩
    | [], _, q => exact False.elim q
    | [x], _, q => exact False.elim (by cases x <;> exact q)
    | x :: _ :: _ :: _, _, q => exact False.elim (by cases x <;> exact q)
    | [.non, _], _, q => exact False.elim q
    | [.bl _, _], _, q => exact False.elim q
    | [.str _, _], _, q => exact False.elim q
    | [.tup _, _], _, q => exact False.elim q
    | [.frl _, _], _, q => exact False.elim q
    | [.ref _, _], _, q => exact False.elim q
  | extend =>
    match ws, qs, q with
    | [.ref m], qs, q =>
      obtain ⟨y0, rfl, qy0⟩ := qs.one
      cases e2 : h.get m with
      | none => simp only [meOp, e1, e2] at q; exact absurd q rderr
      | some o =>
        cases o with
        | dct _ => simp only [meOp, e1, e2] at q; exact absurd q rderr
        | lst zs =>
          simp only [meOp, e1, e2] at q
          obtain ⟨c, q⟩ := rdif q
          have c := szOk_le c
          obtain ⟨b, us2, rfl, _, hb, rb⟩ := l.lst e2 qy0
          rw [← ra.length, ← rb.length] at c
          obtain ⟨w1, w2⟩ := wrLW l er ha (ra.app rb)
          exact mt_extend pins s σ H _ _ v us Q I rx rxs ⟨a, b, vs, us2, rfl, rfl, ha, hb, c, q _ _ w1 w2 _ VR.mk_non⟩
    | [], _, q => exact False.elim q
    | x :: _ :: _, _, q => exact False.elim (by cases x <;> exact q)
    | [.non], _, q => exact False.elim q
    | [.bl _], _, q => exact False.elim q
    | [.int _], _, q => exact False.elim q
    | [.str _], _, q => exact False.elim q
    | [.tup _], _, q => exact False.elim q
    | [.frl _], _, q => exact False.elim q
theorem meT : MtR X "tuple.index" (mM X.K ct Wx .index true) := by
  intro pins s σ H x xs v us Q I rx rxs q
  obtain ⟨ρ, h, wx, ws, l, qx, qs, hk, q⟩ := q
  cases wx with
  | tup ys =>
    obtain ⟨a, vs, rfl, ta, ra⟩ := qx.tup
    match ws, qs, q with
    | [.int k], qs, q =>
      obtain ⟨y, rfl, qy⟩ := qs.one
      rw [qy.nodep_int] at rxs
      cases e : intsOf ys with
      | none => simp only [meOp, e] at q; exact absurd q rderr
      | some is =>
        simp only [meOp, e] at q
        obtain ⟨c, q⟩ := rdif q
        have e2 := ints_ok ra e
        subst e2
        exact mt_tix pins s σ H _ _ v us Q I rx rxs ⟨a, is, k, rfl, rfl, ta.sq, List.elem_iff.mp c, q.fine l _ VR.mk_int⟩
    | [], _, q => exact False.elim q
    | x :: _ :: _, _, q => exact False.elim (by cases x <;> exact q)
    | [.non], _, q => exact False.elim q
    | [.bl _], _, q => exact False.elim q
    | [.str _], _, q => exact False.elim q
    | [.tup _], _, q => exact False.elim q
    | [.frl _], _, q => exact False.elim q
    | [.ref _], _, q => exact False.elim q
  | _ => cases hk
/-- the methods of lists -/
def spL (ct : Nat → Option Value) (Wx : XK) (hu : X.A.units + 65 < cLine) : ∀ m : Me, MSp X (meName m)
  | .append => ⟨"list", _, mM X.K ct Wx .append false, PySem.F.plainAttrs_list, PySem.F.slot_list_append, PySem.F.type_list_append, meL hu .append⟩
  | .pop => ⟨"list", _, mM X.K ct Wx .pop false, PySem.F.plainAttrs_list, PySem.F.slot_list_pop, PySem.F.type_list_pop, meL hu .pop⟩
  | .index => ⟨"list", _, mM X.K ct Wx .index false, PySem.F.plainAttrs_list, PySem.F.slot_list_index, PySem.F.type_list_index, meL hu .index⟩
  | .insert => ⟨"list", _, mM X.K ct Wx .insert false, PySem.F.plainAttrs_list, PySem.F.slot_list_insert, PySem.F.type_list_insert, meL hu .insert⟩
  | .extend => ⟨"list", _, mM X.K ct Wx .extend false, PySem.F.plainAttrs_list, PySem.F.slot_list_extend, PySem.F.type_list_extend, meL hu .extend⟩
/-- by the kind of the receiver -/
def spM (ct : Nat → Option Value) (Wx : XK) (hu : X.A.units + 65 < cLine) (m : Me) (tp : Bool) : MSp X (meName m) := match m, tp with
  | .index, true => ⟨"tuple", _, mM X.K ct Wx .index true, PySem.F.plainAttrs_tuple, PySem.F.slot_tuple_index, PySem.F.type_tuple_index, meT⟩
  | m, _ => spL ct Wx hu m
theorem spL_is (hu : X.A.units + 65 < cLine) (m : Me) : (spL ct Wx hu m).T = "list" ∧ (spL ct Wx hu m).r = mM X.K ct Wx m false := by cases m <;> exact ⟨rfl, rfl⟩
/-- what the machine's look at the receiver tells -/
theorem recv_ok (hu : X.A.units + 65 < cLine) {m : Me} {wx : W} {x : V} {ρ : List Addr} {H : Hp} {h : Hw} (l : Rel X.K ρ h H) (qx : VR X.K ρ H wx x) (e : recvOk m wx h = true) :
    tyZ X.K (spM ct Wx hu m (kindW wx)).T x H ∧ (spM ct Wx hu m (kindW wx)).r = mM X.K ct Wx m (kindW wx) := by
  cases wx with
  | ref n =>
    cases e1 : h.get n with
    | none => simp only [recvOk, e1] at e; cases e
    | some o =>
      cases o with
      | dct _ => simp only [recvOk, e1] at e; cases e
      | lst xs =>
        obtain ⟨a, vs, rfl, _, ha, ra⟩ := l.lst e1 qx
        have h1 := spL_is (ct := ct) (Wx := Wx) hu m
        have h2 : spM ct Wx hu m (kindW (.ref n)) = spL ct Wx hu m := by cases m <;> rfl
        rw [h2, h1.1, h1.2]
        exact ⟨.inl ⟨rfl, vs, SqL.of ha⟩, rfl⟩
  | tup xs =>
    obtain ⟨a, vs, rfl, ta, ra⟩ := qx.tup
    cases m with
    | index => exact ⟨.inr (.inl ⟨rfl, vs, ta⟩), rfl⟩
    | _ => cases e
  | _ => cases e

/-! ### truth -/
theorem tru_W {K : PySem.W.Frag} {ρ : List Addr} {H : Hp} {h : Hw} (l : Rel K ρ h H) {w : W} {v : V} {b : Bool} (q : VR K ρ H w v) (e : tru h w = some b) : TruV K v H b := by
  cases w with
  | non => rw [q.nodep_non]; exact (Option.some.inj e).symm
  | bl _ => rw [q.nodep_bl]; exact (Option.some.inj e).symm
  | int _ => rw [q.nodep_int]; exact (Option.some.inj e).symm
  | str x =>
    rw [q.nodep_str]
    simp only [tru] at e
    cases c : Nat.ble x.length 16777216 with
    | false => rw [c, cond_false] at e; cases e
    | true =>
      rw [c, cond_true] at e
      exact ⟨by rw [sizeLine_eq]; exact Nat.le_of_ble_eq_true c, (Option.some.inj e).symm⟩
  | tup xs =>
    obtain ⟨a, vs, rfl, ta, ra⟩ := q.tup
    refine .inr (.inl ⟨vs, ta.sq, ?_⟩)
    have := ra.length
    rw [← Option.some.inj e]
    cases xs <;> cases vs <;> first | rfl | cases this
  | frl xs =>
    obtain ⟨a, vs, rfl, ta, ra⟩ := q.frl
    refine .inl ⟨vs, ta.seq, ?_⟩
    have := ra.length
    rw [← Option.some.inj e]
    cases xs <;> cases vs <;> first | rfl | cases this
  | ref n =>
    cases e1 : h.get n with
    | none => simp only [tru, e1] at e; cases e
    | some o =>
      cases o with
      | lst xs =>
        simp only [tru, e1] at e
        obtain ⟨a, vs, rfl, _, ha, ra⟩ := l.lst e1 q
        refine .inl ⟨vs, SqL.of ha, ?_⟩
        have := ra.length
        rw [← Option.some.inj e]
        cases xs <;> cases vs <;> first | rfl | cases this
      | dct kvs =>
        simp only [tru, e1] at e
        obtain ⟨a, vs, rfl, _, ha, ra⟩ := l.dct e1 q
        refine .inr (.inr ⟨vs, ha, ?_⟩)
        have := congrArg List.length ra.keys
        rw [← Option.some.inj e]
        cases kvs <;> cases vs <;> first | rfl | (simp at this)
  | clo _ => cases e

/-! ### isinstance -/
theorem ty_W {K : PySem.W.Frag} {ρ : List Addr} {H : Hp} {h : Hw} (l : Rel K ρ h H) {w : W} {v : V} {b : Bool} {t : Nat} (ht : t < 6) (q : VR K ρ H w v) (e : isT t h w = some b) :
    ∃ T : String, TyX K H v (.type T) ∧ kitB T (tyName t) = some b := by
  have d : ∀ (T : String) (c : Bool), c = b → kitB T (tyName t) = some c → kitB T (tyName t) = some b := fun T c e1 e2 => by rw [← e1]; exact e2
  have h6 : t = 0 ∨ t = 1 ∨ t = 2 ∨ t = 3 ∨ t = 4 ∨ t = 5 := by omega
  cases w with
  | non =>
    rw [q.nodep_non]
    refine ⟨"NoneType", .base .non, d _ _ (Option.some.inj e) ?_⟩
    rcases h6 with rfl | rfl | rfl | rfl | rfl | rfl <;> decide +kernel
  | bl x =>
    rw [q.nodep_bl]
    refine ⟨"bool", .base (.bl x), d _ _ (Option.some.inj e) ?_⟩
    rcases h6 with rfl | rfl | rfl | rfl | rfl | rfl <;> decide +kernel
  | int x =>
    rw [q.nodep_int]
    refine ⟨"int", .base (.int x), d _ _ (Option.some.inj e) ?_⟩
    rcases h6 with rfl | rfl | rfl | rfl | rfl | rfl <;> decide +kernel
  | str x =>
    rw [q.nodep_str]
    refine ⟨"str", .base (.str x), d _ _ (Option.some.inj e) ?_⟩
    rcases h6 with rfl | rfl | rfl | rfl | rfl | rfl <;> decide +kernel
  | tup xs =>
    obtain ⟨a, vs, rfl, ta, ra⟩ := q.tup
    refine ⟨"tuple", ?_, d _ _ (Option.some.inj e) ?_⟩
    · rcases ta with ⟨o, g, _⟩ | ⟨o, its, n, g1, g2, _⟩
      · exact .fTuple g
      · exact .kTuple g1 g2
    · rcases h6 with rfl | rfl | rfl | rfl | rfl | rfl <;> decide +kernel
  | frl xs =>
    obtain ⟨a, vs, rfl, ta, ra⟩ := q.frl
    refine ⟨"list", ?_, d _ _ (Option.some.inj e) ?_⟩
    · rcases ta with ⟨o, g⟩ | ⟨o, its, n, g1, g2, _⟩
      · exact .base (.frz g)
      · exact .kList g1 g2
    · rcases h6 with rfl | rfl | rfl | rfl | rfl | rfl <;> decide +kernel
  | clo _ => cases e
  | ref n =>
    cases e1 : h.get n with
    | none => simp only [isT, e1] at e; cases e
    | some o =>
      cases o with
      | lst xs =>
        simp only [isT, e1] at e
        obtain ⟨a, vs, rfl, _, ha, ra⟩ := l.lst e1 q
        refine ⟨"list", .base (.lst ha), d _ _ (Option.some.inj e) ?_⟩
        rcases h6 with rfl | rfl | rfl | rfl | rfl | rfl <;> decide +kernel
      | dct kvs =>
        simp only [isT, e1] at e
        obtain ⟨a, vs, rfl, _, ha, ra⟩ := l.dct e1 q
        refine ⟨"dict", .base (.dK ha), d _ _ (Option.some.inj e) ?_⟩
        rcases h6 with rfl | rfl | rfl | rfl | rfl | rfl <;> decide +kernel
end
end TL
/-! What is walked, by the machine; targets; the readings of statements. -/
namespace TL
open PySem PySem.Spec PyProof.Rows L2
variable [TabI] [CloI]
mutual
theorem W.beq_eq : ∀ (a b : W), W.beq a b = true → a = b
  | .non, b, e => by cases b <;> first | rfl | (exact absurd e (by simp [W.beq]))
  | .bl x, b, e => by
    cases b with
    | bl y => simp [W.beq] at e; rw [e]
    | _ => exact absurd e (by simp [W.beq])
  | .int x, b, e => by
    cases b with
    | int y => simp [W.beq] at e; rw [e]
    | _ => exact absurd e (by simp [W.beq])
  | .str x, b, e => by
    cases b with
    | str y => simp [W.beq] at e; rw [e]
    | _ => exact absurd e (by simp [W.beq])
  | .tup x, b, e => by
    cases b with
    | tup y => simp only [W.beq] at e; rw [W.beqs_eq x y e]
    | _ => exact absurd e (by simp [W.beq])
  | .frl x, b, e => by cases b <;> exact absurd e (by simp [W.beq])
  | .ref x, b, e => by
    cases b with
    | ref y => simp only [W.beq] at e; rw [Nat.eq_of_beq_eq_true e]
    | _ => exact absurd e (by simp [W.beq])
theorem W.beqs_eq : ∀ (a b : List W), W.beqs a b = true → a = b
  | [], b, e => by
    cases b with
    | nil => rfl
    | cons _ _ => exact absurd e (by simp [W.beqs])
  | x :: xs, b, e => by
    cases b with
    | nil => exact absurd e (by simp [W.beqs])
    | cons y ys =>
      simp only [W.beqs, Bool.and_eq_true] at e
      rw [W.beq_eq x y e.1, W.beqs_eq xs ys e.2]
end
section
variable {K : PySem.W.Frag} {ct : Nat → Option Value} {ρ0 : List Addr} {H0 : Hp} {h0 : Hw}
/-- a sequence as it is walked -/
theorem seq_keep (l0 : Rel K ρ0 h0 H0) {w : W} {v : V} {xs : List W} (e : seqOf h0 w = some xs) (q : VR K ρ0 H0 w v) :
    ∃ (b : Bool) (a : Addr), v = .ref a ∧ (∃ vs, SqX K b H0 a vs) ∧ ∀ ρ h H, Stp ρ0 ρ H0 H → Rel K ρ h H → okG (grdOf h0 w) h = true → ∃ vs, SqX K b H a vs ∧ VRs K ρ H xs vs := by
  cases w with
  | tup ys =>
    cases e
    obtain ⟨a, vs, rfl, ta, ra⟩ := q.tup
    exact ⟨true, a, rfl, ⟨vs, ta.sq⟩, fun ρ h H s l g => ⟨vs, (ta.mv s).sq, ra.mv l0 s⟩⟩
  | frl ys =>
    cases e
    obtain ⟨a, vs, rfl, ta, ra⟩ := q.frl
    exact ⟨false, a, rfl, ⟨vs, ta.seq⟩, fun ρ h H s l g => ⟨vs, FzL.seq (ta.elim (fun ⟨o, q⟩ => .inl ⟨o, s.fz _ _ _ q⟩) .inr), ra.mv l0 s⟩⟩
  | ref n =>
    cases e0 : h0.get n with
    | none => simp only [seqOf, e0] at e; cases e
    | some o =>
      cases o with
      | dct _ => simp only [seqOf, e0] at e; cases e
      | lst ys =>
        simp only [seqOf, e0] at e
        cases e
        obtain ⟨a, vs, rfl, er, ha, ra⟩ := l0.lst e0 q
        refine ⟨false, a, rfl, ⟨vs, SqL.of ha⟩, fun ρ h H s l g => ?_⟩
        simp only [grdOf, e0, okG, List.all_cons, List.all_nil, Bool.and_true] at g
        cases e1 : h.get n with
        | none => rw [e1] at g; cases g
        | some o =>
          cases o with
          | dct _ => rw [e1] at g; cases g
          | lst zs =>
            rw [e1] at g
            have ez := W.beqs_eq _ _ g
            subst ez
            obtain ⟨a2, vs2, ea, _, hb, rb⟩ := l.lst e1 (VR.mk_ref (K := K) (H := H) (pre_get s.pre er))
            cases ea
            exact ⟨vs2, SqL.of hb, rb⟩
  | _ => cases e
/-- the walk goes over these items, while gs stand -/
structure WkW (K : PySem.W.Frag) (J : It) (xs : List W) (gs : List (Nat × List W)) (ρ0 : List Addr) (H0 : Hp) : Prop where
  go : ∀ ρ h H i, Stp ρ0 ρ H0 H → Rel K ρ h H → okG gs h = true → i < xs.length → J.go i H
  st : ∀ ρ h H, Stp ρ0 ρ H0 H → Rel K ρ h H → okG gs h = true → J.stop xs.length H
  yl : ∀ ρ h H i x H', Stp ρ0 ρ H0 H → Rel K ρ h H → okG gs h = true → i < xs.length → J.yld i H x H' → ∃ w, xs[i]? = some w ∧ Stp ρ ρ H H' ∧ Rel K ρ h H' ∧ VR K ρ H' w x
def ItS (K : PySem.W.Frag) (b : Bool) (a : Addr) : It := match b with
  | true => Itt K a
  | false => Itl K a
theorem its_go {b : Bool} {a : Addr} {i : Nat} {H : Hp} {xs : List V} {x : V} (q : SqX K b H a xs) (e : xs[i]? = some x) : (ItS K b a).go i H := by cases b <;> exact ⟨xs, x, q, e⟩
theorem its_st {b : Bool} {a : Addr} {i : Nat} {H : Hp} {xs : List V} (q : SqX K b H a xs) (e : xs.length ≤ i) : (ItS K b a).stop i H := by cases b <;> exact ⟨xs, q, e⟩
theorem its_yl {b : Bool} {a : Addr} {i : Nat} {H H' : Hp} {xs : List V} {x : V} (q : SqX K b H a xs) (e : (ItS K b a).yld i H x H') : H' = H ∧ xs[i]? = some x := by cases b <;> exact ⟨e.1, e.2 xs q⟩
theorem okG_app {g1 g2 : List (Nat × List W)} {h : Hw} (e : okG (g1 ++ g2) h = true) : okG g1 h = true ∧ okG g2 h = true := by
  unfold okG at e ⊢
  rw [List.all_append, Bool.and_eq_true] at e
  exact e
theorem wk_seq (l0 : Rel K ρ0 h0 H0) {w : W} {v : V} {xs : List W} (e : seqOf h0 w = some xs) (q : VR K ρ0 H0 w v) : ∃ (b : Bool) (a : Addr), v = .ref a ∧ (∃ vs, SqX K b H0 a vs) ∧ WkW K (ItS K b a) xs (grdOf h0 w) ρ0 H0 := by
  obtain ⟨b, a, rfl, k0, kp⟩ := seq_keep l0 e q
  refine ⟨b, a, rfl, k0, ⟨fun ρ h H i s l g hi => ?_, fun ρ h H s l g => ?_, fun ρ h H i x H' s l g hi y => ?_⟩⟩
  · obtain ⟨vs, sq, rv⟩ := kp ρ h H s l g
    have hi2 : i < vs.length := by rw [rv.length]; exact hi
    exact its_go sq (List.getElem?_eq_getElem hi2)
  · obtain ⟨vs, sq, rv⟩ := kp ρ h H s l g
    exact its_st sq (Nat.le_of_eq rv.length)
  · obtain ⟨vs, sq, rv⟩ := kp ρ h H s l g
    obtain ⟨rfl, ex⟩ := its_yl sq y
    obtain ⟨u, eu, qu⟩ := rv.get (List.getElem?_eq_getElem hi)
    rw [ex] at eu
    cases eu
    exact ⟨_, List.getElem?_eq_getElem hi, Stp.refl, l, qu⟩
theorem rngs_len : ∀ (n : Nat) (lo : Int), (rngs lo n).length = n
  | 0, _ => rfl
  | n + 1, lo => by unfold rngs; rw [List.length_cons, rngs_len n]
theorem rngs_get : ∀ (n : Nat) (lo : Int) (i : Nat), i < n → (rngs lo n)[i]? = some (.int (lo + i))
  | 0, _, _, h => absurd h (Nat.not_lt_zero _)
  | n + 1, lo, 0, _ => by unfold rngs; simp
  | n + 1, lo, i + 1, h => by
    unfold rngs
    rw [List.getElem?_cons_succ, rngs_get n (lo + 1) i (by omega)]
    congr 2
    omega
theorem wk_rng (lo : Int) (n : Nat) : WkW K (Itr lo n) (rngs lo n) [] ρ0 H0 := by
  refine ⟨fun ρ h H i s l g hi => ?_, fun ρ h H s l g => ?_, fun ρ h H i x H' s l g hi y => ?_⟩
  · rw [rngs_len] at hi; exact hi
  · exact Nat.le_of_eq (rngs_len n lo).symm
  · rw [rngs_len] at hi
    obtain ⟨rfl, rfl⟩ := y
    exact ⟨_, rngs_get n lo i hi, Stp.refl, l, VR.mk_int⟩
theorem enums_len : ∀ (xs : List W) (k : Nat), (enums k xs).length = xs.length
  | [], _ => rfl
  | x :: r, k => by unfold enums; rw [List.length_cons, List.length_cons, enums_len r]
theorem enums_get : ∀ (xs : List W) (k i : Nat) (x : W), xs[i]? = some x → (enums k xs)[i]? = some (.tup [.int ((k + i : Nat) : Int), x])
  | [], _, _, _, h => by simp at h
  | x :: r, k, 0, y, h => by unfold enums; simp at h; subst h; simp
  | x :: r, k, i + 1, y, h => by
    unfold enums
    rw [List.getElem?_cons_succ, enums_get r (k + 1) i y (by simpa using h)]
    rw [show k + 1 + i = k + (i + 1) by omega]
theorem newT_ok {ρ : List Addr} {h : Hw} {H H' : Hp} {ws : List W} {vs : List V} {v : V} (l : Rel K ρ h H) (q : VRs K ρ H ws vs) (n : NewT H vs v H') : Stp ρ ρ H H' ∧ Rel K ρ h H' ∧ VR K ρ H' (.tup ws) v := by
  obtain ⟨T, o, rfl, hT, hd, rfl⟩ := n
  have s := Stp.laid (ρ := ρ) T (HO.frz o (.tup vs)) hT
  exact ⟨s, l.laid T _ hT, VR.mk_tup (.inl ⟨o, upd_same, hd⟩) (q.mv l s)⟩
theorem wk_enm (l0 : Rel K ρ0 h0 H0) {w : W} {v : V} {xs : List W} (e : seqOf h0 w = some xs) (q : VR K ρ0 H0 w v) : ∃ (b : Bool) (a : Addr), v = .ref a ∧ (∃ vs, SqX K b H0 a vs) ∧ WkW K (ItE K b a) (enums 0 xs) (grdOf h0 w) ρ0 H0 := by
  obtain ⟨b, a, rfl, k0, kp⟩ := seq_keep l0 e q
  refine ⟨b, a, rfl, k0, ⟨fun ρ h H i s l g hi => ?_, fun ρ h H s l g => ?_, fun ρ h H i x H' s l g hi y => ?_⟩⟩
  · obtain ⟨vs, sq, rv⟩ := kp ρ h H s l g
    rw [enums_len] at hi
    have hi2 : i < vs.length := by rw [rv.length]; exact hi
    exact ⟨vs, _, sq, List.getElem?_eq_getElem hi2⟩
  · obtain ⟨vs, sq, rv⟩ := kp ρ h H s l g
    exact ⟨vs, sq, by rw [enums_len]; exact rv.length⟩
  · obtain ⟨vs, sq, rv⟩ := kp ρ h H s l g
    rw [enums_len] at hi
    obtain ⟨z, nt, ez⟩ := y
    obtain ⟨u, eu, qu⟩ := rv.get (List.getElem?_eq_getElem hi)
    rw [ez vs sq] at eu
    cases eu
    obtain ⟨s1, l1, q1⟩ := newT_ok (ws := [.int (i : Nat), xs[i]]) l (VRs.cons_iff.mpr ⟨_, _, rfl, VR.mk_int, VRs.cons_iff.mpr ⟨_, _, rfl, qu, VRs.nil_iff.mpr rfl⟩⟩) nt
    refine ⟨_, enums_get xs 0 i _ (List.getElem?_eq_getElem hi), s1, l1, ?_⟩
    rw [Nat.zero_add]
    exact q1
theorem zip2_len : ∀ (xs ys : List W), (zip2 xs ys).length = min xs.length ys.length
  | [], ys => by cases ys <;> simp [zip2]
  | x :: xs, [] => by simp [zip2]
  | x :: xs, y :: ys => by simp only [zip2, List.length_cons, zip2_len xs ys]; omega
theorem zip2_get : ∀ (xs ys : List W) (i : Nat) (x y : W), xs[i]? = some x → ys[i]? = some y → (zip2 xs ys)[i]? = some (.tup [x, y])
  | [], _, _, _, _, h, _ => by simp at h
  | _ :: _, [], _, _, _, _, h => by simp at h
  | x :: xs, y :: ys, 0, _, _, h, h2 => by simp at h h2; subst h h2; simp [zip2]
  | x :: xs, y :: ys, i + 1, a, b, h, h2 => by
    simp only [zip2, List.getElem?_cons_succ]
    exact zip2_get xs ys i a b (by simpa using h) (by simpa using h2)
theorem wk_zip (l0 : Rel K ρ0 h0 H0) {w w2 : W} {v v2 : V} {xs ys : List W} (e : seqOf h0 w = some xs) (q : VR K ρ0 H0 w v) (e2 : seqOf h0 w2 = some ys) (q2 : VR K ρ0 H0 w2 v2) :
    ∃ (b c : Bool) (a d : Addr) (us vs : List V), v = .ref a ∧ v2 = .ref d ∧ SqX K b H0 a us ∧ SqX K c H0 d vs ∧ WkW K (ItZ K b c a d) (zip2 xs ys) (grdOf h0 w ++ grdOf h0 w2) ρ0 H0 := by
  obtain ⟨b, a, rfl, ⟨us, k0⟩, kp⟩ := seq_keep l0 e q
  obtain ⟨c, d, rfl, ⟨vs, k1⟩, kp2⟩ := seq_keep l0 e2 q2
  refine ⟨b, c, a, d, us, vs, rfl, rfl, k0, k1, ⟨fun ρ h H i s l g hi => ?_, fun ρ h H s l g => ?_, fun ρ h H i x H' s l g hi y => ?_⟩⟩
  · obtain ⟨g1, g2⟩ := okG_app g
    obtain ⟨vs, sq, rv⟩ := kp ρ h H s l g1
    obtain ⟨vs2, sq2, rv2⟩ := kp2 ρ h H s l g2
    rw [zip2_len] at hi
    have i1 : i < vs.length := by rw [rv.length]; omega
    have i2 : i < vs2.length := by rw [rv2.length]; omega
    exact ⟨vs, vs2, _, _, sq, sq2, List.getElem?_eq_getElem i1, List.getElem?_eq_getElem i2⟩
  · obtain ⟨g1, g2⟩ := okG_app g
    obtain ⟨vs, sq, rv⟩ := kp ρ h H s l g1
    obtain ⟨vs2, sq2, rv2⟩ := kp2 ρ h H s l g2
    rw [zip2_len]
    exact ⟨vs, vs2, sq, sq2, by rw [rv.length]; omega, by rw [rv2.length]; omega, by rw [rv.length, rv2.length]; omega⟩
  · obtain ⟨g1, g2⟩ := okG_app g
    obtain ⟨vs, sq, rv⟩ := kp ρ h H s l g1
    obtain ⟨vs2, sq2, rv2⟩ := kp2 ρ h H s l g2
    rw [zip2_len] at hi
    have i1 : i < xs.length := by omega
    have i2 : i < ys.length := by omega
    obtain ⟨z1, z2, nt, e1, e2⟩ := y
    obtain ⟨u, eu, qu⟩ := rv.get (List.getElem?_eq_getElem i1)
    obtain ⟨u2, eu2, qu2⟩ := rv2.get (List.getElem?_eq_getElem i2)
    rw [e1 vs sq] at eu
    rw [e2 vs2 sq2] at eu2
    cases eu
    cases eu2
    obtain ⟨s1, l1, q1⟩ := newT_ok (ws := [xs[i], ys[i]]) l (VRs.cons_iff.mpr ⟨_, _, rfl, qu, VRs.cons_iff.mpr ⟨_, _, rfl, qu2, VRs.nil_iff.mpr rfl⟩⟩) nt
    exact ⟨_, zip2_get xs ys i _ _ (List.getElem?_eq_getElem i1) (List.getElem?_eq_getElem i2), s1, l1, q1⟩
end

/-! ### what a loop walks: the readings -/
def tI (K : PySem.W.Frag) (ct : Nat → Option Value) (Wx : WX) (k : ItK) (m : Env → Hw → R (List W)) : TI := fun σ H R => ∃ env ρ h, ER K ρ H env σ ∧ Rel K ρ h H ∧
  rd K ct (fun c d => Wx c d σ) ρ H (m env h) fun ws ρ' h' H' => ∃ p, iterOf k ws h' = some p ∧ ∀ J, WkW K J p.1 p.2 ρ' H' → R J H'
section
variable {X : Cx} {ct : Nat → Option Value} {Wx : WX} {tg : Expr} {m : Env → Hw → R W} {ma : Env → Hw → R (List W)}
def iSq (K : PySem.W.Frag) (tl : TE) : TI := fun σ H R => tl σ H fun x H1 => ∃ (b : Bool) (a : Addr), x = .ref a ∧ (∃ xs, SqX K b H1 a xs) ∧ R (ItS K b a) H1
theorem pi_sq {l : Expr} {tl : TE} (hl : PE X l tl) : PI X tg l (iSq X.K tl) := by
  refine ⟨fun pins s σ H R I hq => thn (hl.run pins s σ H _ I hq) fun v s1 ⟨x, H1, I1, r1, b, a, e, ⟨xs, sq⟩, q⟩ => ?_⟩
  subst e
  cases r1
  have fp : ∀ c ∈ [s1.heap.objs.size], FpOk X pins H1 c := fun c hc => by
    rw [List.mem_singleton.mp hc]
    exact I1.fpOk (Nat.le_refl _) (I1.hok.fresh (Nat.le_refl _))
  have kp : ∀ o : Obj, Inv X pins σ H1 { s1 with heap := s1.heap.push o } := fun o => I1.kept (t' := s1.toks) fun c u e => Heap.get?_push_of_some _ e
  cases b with
  | true =>
    obtain ⟨its, rv, p, hz⟩ := I1.tuple sq
    exact wpAny_pyIter_tuple (show s1.heap.IsTuple a its.toArray from p) ⟨_, _, _, _, H1, rfl, kp _, turn_tuple a _, ⟨_, Heap.get?_push_size _ rfl, rfl, rfl⟩, fp, q⟩
  | false =>
    obtain ⟨its, rv, p, hz⟩ := I1.list sq
    exact wpAny_pyIter_list p.isList ⟨_, _, _, _, H1, rfl, kp _, turn_list a _, ⟨_, Heap.get?_push_size _ rfl, rfl, rfl⟩, fp, q⟩
theorem PI.mo {e : Expr} {t t' : TI} (p : PI X tg e t) (f : ∀ σ H R, t' σ H R → t σ H R) : PI X tg e t' := ⟨fun pins s σ H R I q => p.run pins s σ H R I (f σ H R q)⟩
theorem pi_seqW {l : Expr} (hl : PE X l (tE X.K ct Wx m)) : PI X tg l (tI X.K ct Wx .seq fun env h => (m env h).bind fun x h1 => .ok [x] h1) := by
  refine PI.mo (pi_sq hl) fun σ H R ⟨env, ρ, h, er, l, q⟩ => ⟨env, ρ, h, er, l, (rd.bind q).imp fun w ρ' h' H' s' l' q => fun v qv => ?_⟩
  obtain ⟨p, e, q⟩ := rd.fine q l'
  simp only [iterOf] at e
  cases e1 : seqOf h' w with
  | none => rw [e1] at e; cases e
  | some xs =>
    rw [e1] at e
    cases e
    obtain ⟨b, a, rfl, ks, wk⟩ := wk_seq l' e1 qv
    exact ⟨b, a, rfl, ks, q _ wk⟩
theorem rngOk_b {i : Int} (e : rngOk i = true) : -(2 ^ 62) ≤ i ∧ i < 2 ^ 62 := by
  have : i.natAbs ≤ 2305843009213693952 := Nat.le_of_ble_eq_true e
  omega
theorem pi_rngW1 {a : Expr} {p pos : Pos} (hg : Gl X "range") (hm : X.mg "range" = none) (ha : PA X [a] (tA X.K ct Wx ma)) (hs : starEach [a] X.env = [(false, eval a X.env)]) :
    PI X tg (.Call (.Name "range" p) [a] [] pos) (tI X.K ct Wx .rng1 ma) := by
  refine PI.mo (pi_range1 hg hm ha hs) fun σ H R ⟨env, ρ, h, er, l, q⟩ => ⟨env, ρ, h, er, l, q.imp fun ws ρ' h' H' s' l' ⟨p, e, q⟩ => fun vs qs => ?_⟩
  match ws, qs, e with
  | [.int j], qs, e =>
    obtain ⟨v, rfl, qv⟩ := qs.one
    simp only [iterOf] at e
    cases c : rngOk j with
    | false => rw [c, cond_false] at e; exact absurd e (by simp)
    | true =>
      rw [c, cond_true] at e
      have e := Option.some.inj e
      subst e
      exact ⟨j, by rw [qv.nodep_int], (rngOk_b c).1, (rngOk_b c).2, q _ (wk_rng 0 j.toNat)⟩
  | [], _, e => exact absurd e (by simp [iterOf])
  | x :: _ :: _, _, e => exact absurd e (by cases x <;> simp [iterOf])
  | [.non], _, e => exact absurd e (by simp [iterOf])
  | [.bl _], _, e => exact absurd e (by simp [iterOf])
  | [.str _], _, e => exact absurd e (by simp [iterOf])
  | [.tup _], _, e => exact absurd e (by simp [iterOf])
  | [.frl _], _, e => exact absurd e (by simp [iterOf])
  | [.ref _], _, e => exact absurd e (by simp [iterOf])
theorem rng2_inv {ws : List W} {h : Hw} {p : List W × List (Nat × List W)} (e : iterOf .rng2 ws h = some p) : ∃ i j, ws = [.int i, .int j] ∧ rngOk i = true ∧ rngOk j = true ∧ p = (rngs i (j - i).toNat, []) := by
  match ws with
  | [] => simp [iterOf] at e
  | [x] => simp [iterOf] at e
  | _ :: _ :: _ :: _ => simp [iterOf] at e
  | [x, y] =>
    cases x with
    | int i =>
      cases y with
      | int j =>
        simp only [iterOf] at e
        cases c : (rngOk i && rngOk j) with
        | false => rw [c, cond_false] at e; exact absurd e (by simp)
        | true =>
          rw [c, cond_true] at e
          obtain ⟨c1, c2⟩ := Bool.and_eq_true_iff.mp c
          exact ⟨i, j, rfl, c1, c2, (Option.some.inj e).symm⟩
      | _ => simp [iterOf] at e
    | _ => simp [iterOf] at e
theorem pi_rngW2 {a b : Expr} {p pos : Pos} (hg : Gl X "range") (hm : X.mg "range" = none) (ha : PA X [a, b] (tA X.K ct Wx ma)) (hs : starEach [a, b] X.env = [(false, eval a X.env), (false, eval b X.env)]) (hs2 : starEach [b] X.env = [(false, eval b X.env)]) :
    PI X tg (.Call (.Name "range" p) [a, b] [] pos) (tI X.K ct Wx .rng2 ma) := by
  refine PI.mo (pi_range2 hg hm ha hs hs2) fun σ H R ⟨env, ρ, h, er, l, q⟩ => ⟨env, ρ, h, er, l, q.imp fun ws ρ' h' H' s' l' ⟨p, e, q⟩ => fun vs qs => ?_⟩
  have key := rng2_inv e
  obtain ⟨i, j, rfl, c1, c2, rfl⟩ := key
  obtain ⟨v, v2, rfl, q1, q2⟩ := qs.two
  exact ⟨i, j, by rw [q1.nodep_int, q2.nodep_int], ⟨(rngOk_b c1).1, (rngOk_b c1).2, (rngOk_b c2).1, (rngOk_b c2).2⟩, q _ (wk_rng i (j - i).toNat)⟩
theorem pi_enmW {e : Expr} {p pos tpos : Pos} {elts : List Expr} {kk : Nat} (hg : Gl X "enumerate") (hm : X.mg "enumerate" = none) (ha : PA X [e] (tA X.K ct Wx ma)) (hs : starEach [e] X.env = [(false, eval e X.env)]) :
    PI X (.Tuple elts kk tpos) (.Call (.Name "enumerate" p) [e] [] pos) (tI X.K ct Wx .enm ma) := by
  refine PI.mo (pi_enX hg hm ha hs) fun σ H R ⟨env, ρ, h, er, l, q⟩ => ⟨env, ρ, h, er, l, q.imp fun ws ρ' h' H' s' l' ⟨p, e, q⟩ => fun vs qs => ?_⟩
  match ws, qs, e with
  | [w], qs, e =>
    obtain ⟨v, rfl, qv⟩ := qs.one
    simp only [iterOf] at e
    cases e1 : seqOf h' w with
    | none => rw [e1] at e; cases e
    | some xs =>
      rw [e1] at e
      cases e
      obtain ⟨b, a, rfl, ⟨vs, ks⟩, wk⟩ := wk_enm l' e1 qv
      exact ⟨b, a, vs, rfl, ks, q _ wk⟩
  | [], _, e => exact absurd e (by simp [iterOf])
  | x :: _ :: _, _, e => exact absurd e (by simp [iterOf])
theorem pi_zipW {e e2 : Expr} {p pos tpos : Pos} {elts : List Expr} {kk : Nat} (hg : Gl X "zip") (hm : X.mg "zip" = none) (ha : PA X [e, e2] (tA X.K ct Wx ma))
    (hs : starEach [e, e2] X.env = (false, eval e X.env) :: starEach [e2] X.env) (hpl : (backTo pos (starEach [e2] X.env)).any (·.1) = false) :
    PI X (.Tuple elts kk tpos) (.Call (.Name "zip" p) [e, e2] [] pos) (tI X.K ct Wx .zip ma) := by
  refine PI.mo (pi_zpX hg hm ha hs hpl) fun σ H R ⟨env, ρ, h, er, l, q⟩ => ⟨env, ρ, h, er, l, q.imp fun ws ρ' h' H' s' l' ⟨p, e, q⟩ => fun vs qs => ?_⟩
  match ws, qs, e with
  | [w, w2], qs, e =>
    obtain ⟨v, v2, rfl, qv, qv2⟩ := qs.two
    simp only [iterOf] at e
    cases e1 : seqOf h' w with
    | none => rw [e1] at e; cases e
    | some xs =>
      cases e2 : seqOf h' w2 with
      | none => rw [e1, e2] at e; cases e
      | some ys =>
        rw [e1, e2] at e
        cases e
        obtain ⟨b, c, a, d, us, vs, rfl, rfl, k1, k2, wk⟩ := wk_zip l' e1 qv e2 qv2
        exact ⟨b, c, a, d, us, vs, rfl, k1, k2, q _ wk⟩
  | [], _, e => exact absurd e (by simp [iterOf])
  | [x], _, e => exact absurd e (by simp [iterOf])
  | x :: y :: _ :: _, _, e => exact absurd e (by simp [iterOf])
end
end TL
/-! Expressions: the rules, by the machine. -/
namespace TL
open PySem PySem.Spec PyProof.Rows L2
variable [TabI] [CloI]
section
variable {K : PySem.W.Frag} {ct : Nat → Option Value} {Wx : WX} {env : Env} {ρ : List Addr} {h : Hw} {H : Hp} {σ : L2.St} {β : Type} {P : β → List Addr → Hw → Hp → Prop}
theorem stepE {m : Env → Hw → R W} {f : W → Hw → R β} {R' : VK} (er : ER K ρ H env σ) (l : Rel K ρ h H) (q : rd K ct (fun c d => Wx c d σ) ρ H ((m env h).bind f) P)
    (k : ∀ w ρ1 h1 H1, Stp ρ ρ1 H H1 → Rel K ρ1 h1 H1 → ER K ρ1 H1 env σ → rd K ct (fun c d => Wx c d σ) ρ1 H1 (f w h1) P → ∀ v, VR K ρ1 H1 w v → R' v H1) : tE K ct Wx m σ H R' :=
  ⟨env, ρ, h, er, l, (rd.bind q).imp fun w ρ1 h1 H1 s1 l1 q1 v qv => k w ρ1 h1 H1 s1 l1 (er.mv l s1) q1 v qv⟩
theorem stepT {m : Env → Hw → R Bool} {f : Bool → Hw → R β} {R' : Bool → Hp → Prop} (er : ER K ρ H env σ) (l : Rel K ρ h H) (q : rd K ct (fun c d => Wx c d σ) ρ H ((m env h).bind f) P)
    (k : ∀ b ρ1 h1 H1, Stp ρ ρ1 H H1 → Rel K ρ1 h1 H1 → ER K ρ1 H1 env σ → rd K ct (fun c d => Wx c d σ) ρ1 H1 (f b h1) P → R' b H1) : tT K ct Wx m σ H R' :=
  ⟨env, ρ, h, er, l, (rd.bind q).imp fun b ρ1 h1 H1 s1 l1 q1 => k b ρ1 h1 H1 s1 l1 (er.mv l s1) q1⟩
theorem stepA {m : Env → Hw → R (List W)} {f : List W → Hw → R β} {R' : List V → Hp → Prop} (er : ER K ρ H env σ) (l : Rel K ρ h H) (q : rd K ct (fun c d => Wx c d σ) ρ H ((m env h).bind f) P)
    (k : ∀ ws ρ1 h1 H1, Stp ρ ρ1 H H1 → Rel K ρ1 h1 H1 → ER K ρ1 H1 env σ → rd K ct (fun c d => Wx c d σ) ρ1 H1 (f ws h1) P → ∀ vs, VRs K ρ1 H1 ws vs → R' vs H1) : tA K ct Wx m σ H R' :=
  ⟨env, ρ, h, er, l, (rd.bind q).imp fun w ρ1 h1 H1 s1 l1 q1 v qv => k w ρ1 h1 H1 s1 l1 (er.mv l s1) q1 v qv⟩
end
section
variable {X : Cx} {ct : Nat → Option Value} {Wx : WX} {pos : Pos} {a b c : Expr} {ma mb mc : Env → Hw → R W} {es : List Expr} {mes : Env → Hw → R (List W)} {ta tb tc : Env → Hw → R Bool}

/-! names, constants -/
theorem w_var (C : CT) {i : Nat} {x : Str} (hN : X.N[i]? = some x) (hv : Vis X.env.scope x) (hd : (x == ("__debug__" : Str)) = false) (hcd : (x == ("__classdict__" : Str)) = false) : PE X (.Name x pos) (tE X.K ct Wx (evE C (.var i))) :=
  PE.mo (pe_var hN hv hd hcd) fun σ H Q ⟨env, ρ, h, er, l, q⟩ => by
    simp only [evE] at q
    cases e : slotV env i with
    | none => rw [e] at q; exact absurd q rderr
    | some w =>
      rw [e] at q
      obtain ⟨v, e2, qv⟩ := er.slot e
      exact ⟨v, e2, rd.fine q l v qv⟩
theorem w_c {e : Expr} {v : V} {w : W} {m : Env → Hw → R W} (he : PE X e (tC v)) (hm : ∀ env h, m env h = .ok w h) (hq : ∀ ρ H, VR X.K ρ H w v) : PE X e (tE X.K ct Wx m) :=
  PE.mo he fun σ H Q ⟨env, ρ, h, er, l, q⟩ => by
    rw [hm] at q
    exact rd.fine q l v (hq ρ H)

/-! operators -/
theorem w_bin (o : Bop) (ha : PE X a (tE X.K ct Wx ma)) (hb : PE X b (tE X.K ct Wx mb)) : PE X (.BinOp a (bopOf o) b pos) (tE X.K ct Wx fun env h => (ma env h).bind fun x h1 => (mb env h1).bind fun y h2 => binOp o x y h2) := by
  refine ⟨fun pins s σ H Q I ⟨env, ρ, h, er, l, q⟩ => (pe_op (pos := pos) (binR (ct := ct) (Wx := fun c d => Wx c d σ) o) ha hb).run pins s σ H Q I ?_⟩
  exact stepE er l q fun x ρ1 h1 H1 s1 l1 er1 q1 v qv => stepE er1 l1 q1 fun y ρ2 h2 H2 s2 l2 er2 q2 u qu => ⟨ρ2, h2, x, y, l2, qv.mv l1 s2, qu, q2⟩
def negOp (x : W) (h : Hw) : R W := match x with
  | .int i => .ok (.int (-i)) h
  | _ => .err
theorem w_neg (ha : PE X a (tE X.K ct Wx ma)) : PE X (.UnaryOp .USub a pos) (tE X.K ct Wx fun env h => (ma env h).bind fun x h1 => negOp x h1) :=
  PE.mo (pe_un un_neg ha) fun σ H Q ⟨env, ρ, h, er, l, q⟩ => stepE er l q fun x ρ1 h1 H1 s1 l1 er1 q1 v qv => by
    cases x with
    | int i => exact ⟨i, qv.nodep_int, rd.fine q1 l1 _ VR.mk_int⟩
    | _ => exact absurd q1 rderr
def okB (o : Option Bool) (h : Hw) : R W := match o with
  | some k => .ok (.bl k) h
  | none => .err
theorem w_cmp (hu : X.A.units + 65 < cLine) (o : Cop) (ha : PE X a (tE X.K ct Wx ma)) (hb : PE X b (tE X.K ct Wx mb)) (hm : behindInMarks (copOf o) b = false) :
    PE X (.Compare a [copOf o] [b] pos) (tE X.K ct Wx fun env h => (ma env h).bind fun x h1 => (mb env h1).bind fun y h2 => okB (cmpOp o x y h2) h2) :=
  PE.mo (pe_cmpR (cmpR hu o) ha hb hm) fun σ H Q ⟨env, ρ, h, er, l, q⟩ =>
    stepE er l q fun x ρ1 h1 H1 s1 l1 er1 q1 v qv => stepE er1 l1 q1 fun y ρ2 h2 H2 s2 l2 er2 q2 u qu => by
      cases e : cmpOp o x y h2 with
      | none => rw [e] at q2; exact absurd q2 rderr
      | some k => rw [e] at q2; exact ⟨ρ2, h2, x, y, k, l2, qv.mv l1 s2, qu, e, rd.fine q2 l2 _ VR.mk_bl⟩
/-- a test out of a truth value -/
def okT (o : Option Bool) (h : Hw) : R Bool := match o with
  | some k => .ok k h
  | none => .err
theorem w_cmpT (hu : X.A.units + 65 < cLine) (o : Cop) (ha : PE X a (tE X.K ct Wx ma)) (hb : PE X b (tE X.K ct Wx mb)) (hm : behindInMarks (copOf o) b = false) :
    PT X (.Compare a [copOf o] [b] pos) (tT X.K ct Wx fun env h => (ma env h).bind fun x h1 => (mb env h1).bind fun y h2 => okT (cmpOp o x y h2) h2) :=
  PT.mo (pt_cmpR (cmpR hu o) ha hb hm) fun σ H Q ⟨env, ρ, h, er, l, q⟩ =>
    stepE er l q fun x ρ1 h1 H1 s1 l1 er1 q1 v qv => stepE er1 l1 q1 fun y ρ2 h2 H2 s2 l2 er2 q2 u qu => by
      cases e : cmpOp o x y h2 with
      | none => rw [e] at q2; exact absurd q2 rderr
      | some k => rw [e] at q2; exact ⟨ρ2, h2, x, y, k, l2, qv.mv l1 s2, qu, e, k, rfl, rd.fine q2 l2⟩
def chnK (p : Cop) (y : W) (m3 : Hw → R W) (o : Option Bool) (h2 : Hw) : R W := match o with
  | some true => (m3 h2).bind fun z h3 => okB (cmpOp p y z h3) h3
  | some false => .ok (.bl false) h2
  | none => .err
theorem w_chn (hu : X.A.units + 65 < cLine) (o p : Cop) (ha : PE X a (tE X.K ct Wx ma)) (hb : PE X b (tE X.K ct Wx mb)) (hc : PE X c (tE X.K ct Wx mc)) (hm : lastMarks [copOf o, copOf p] [b, c] = false) :
    PE X (.Compare a [copOf o, copOf p] [b, c] pos) (tE X.K ct Wx fun env h => (ma env h).bind fun x h1 => (mb env h1).bind fun y h2 => chnK p y (mc env) (cmpOp o x y h2) h2) :=
  PE.mo (pe_chain (cmpR hu o) (cmpR hu p) ha hb hc hm) fun σ H Q ⟨env, ρ, h, er, l, q⟩ =>
    stepE er l q fun x ρ1 h1 H1 s1 l1 er1 q1 v qv => stepE er1 l1 q1 fun y ρ2 h2 H2 s2 l2 er2 q2 u qu => by
      cases e : cmpOp o x y h2 with
      | none => rw [e] at q2; exact absurd q2 rderr
      | some k =>
        rw [e] at q2
        refine ⟨ρ2, h2, x, y, k, l2, qv.mv l1 s2, qu, e, k, rfl, ?_⟩
        cases k with
        | false => exact rd.fine q2 l2 _ VR.mk_bl
        | true =>
          refine stepE er2 l2 q2 fun z ρ3 h3 H3 s3 l3 er3 q3 t qt => ?_
          cases e2 : cmpOp p y z h3 with
          | none => rw [e2] at q3; exact absurd q3 rderr
          | some k => rw [e2] at q3; exact ⟨ρ3, h3, y, z, k, l3, qu.mv l2 s3, qt, e2, rd.fine q3 l3 _ VR.mk_bl⟩
def chnT (p : Cop) (y : W) (m3 : Hw → R W) (o : Option Bool) (h2 : Hw) : R Bool := match o with
  | some true => (m3 h2).bind fun z h3 => okT (cmpOp p y z h3) h3
  | some false => .ok false h2
  | none => .err
theorem w_chnT (hu : X.A.units + 65 < cLine) (o p : Cop) (ha : PE X a (tE X.K ct Wx ma)) (hb : PE X b (tE X.K ct Wx mb)) (hc : PE X c (tE X.K ct Wx mc)) (hm : lastMarks [copOf o, copOf p] [b, c] = false) :
    PT X (.Compare a [copOf o, copOf p] [b, c] pos) (tT X.K ct Wx fun env h => (ma env h).bind fun x h1 => (mb env h1).bind fun y h2 => chnT p y (mc env) (cmpOp o x y h2) h2) :=
  PT.mo (pt_chain (cmpR hu o) (cmpR hu p) ha hb hc hm) fun σ H Q ⟨env, ρ, h, er, l, q⟩ =>
    stepE er l q fun x ρ1 h1 H1 s1 l1 er1 q1 v qv => stepE er1 l1 q1 fun y ρ2 h2 H2 s2 l2 er2 q2 u qu => by
      cases e : cmpOp o x y h2 with
      | none => rw [e] at q2; exact absurd q2 rderr
      | some k =>
        rw [e] at q2
        refine ⟨ρ2, h2, x, y, k, l2, qv.mv l1 s2, qu, e, k, rfl, ?_⟩
        cases k with
        | false => exact ⟨false, rfl, rd.fine q2 l2⟩
        | true =>
          refine stepE er2 l2 q2 fun z ρ3 h3 H3 s3 l3 er3 q3 t qt => ?_
          cases e2 : cmpOp p y z h3 with
          | none => rw [e2] at q3; exact absurd q3 rderr
          | some k => rw [e2] at q3; exact ⟨ρ3, h3, y, z, k, l3, qu.mv l2 s3, qt, e2, k, rfl, rd.fine q3 l3⟩

/-! and, or, not, if -/
def andK (m2 : Hw → R W) (x : W) (o : Option Bool) (h1 : Hw) : R W := match o with
  | some true => m2 h1
  | some false => .ok x h1
  | none => .err
def orK (m2 : Hw → R W) (x : W) (o : Option Bool) (h1 : Hw) : R W := match o with
  | some false => m2 h1
  | some true => .ok x h1
  | none => .err
theorem w_and {rest : List Expr} (ha : PE X a (tE X.K ct Wx ma)) (hb : PE X (.BoolOp .And (b :: rest) pos) (tE X.K ct Wx mb)) :
    PE X (.BoolOp .And (a :: b :: rest) pos) (tE X.K ct Wx fun env h => (ma env h).bind fun x h1 => andK (mb env) x (tru h1 x) h1) :=
  PE.mo (pe_andT ha hb) fun σ H Q ⟨env, ρ, h, er, l, q⟩ => stepE er l q fun x ρ1 h1 H1 s1 l1 er1 q1 v qv => by
    cases e : tru h1 x with
    | none => rw [e] at q1; exact absurd q1 rderr
    | some k =>
      rw [e] at q1
      refine ⟨k, tru_W l1 qv e, ?_⟩
      cases k with
      | true => exact ⟨env, ρ1, h1, er1, l1, q1⟩
      | false => exact rd.fine q1 l1 v qv
theorem w_or {rest : List Expr} (ha : PE X a (tE X.K ct Wx ma)) (hb : PE X (.BoolOp .Or (b :: rest) pos) (tE X.K ct Wx mb)) :
    PE X (.BoolOp .Or (a :: b :: rest) pos) (tE X.K ct Wx fun env h => (ma env h).bind fun x h1 => orK (mb env) x (tru h1 x) h1) :=
  PE.mo (pe_orT ha hb) fun σ H Q ⟨env, ρ, h, er, l, q⟩ => stepE er l q fun x ρ1 h1 H1 s1 l1 er1 q1 v qv => by
    cases e : tru h1 x with
    | none => rw [e] at q1; exact absurd q1 rderr
    | some k =>
      rw [e] at q1
      refine ⟨k, tru_W l1 qv e, ?_⟩
      cases k with
      | false => exact ⟨env, ρ1, h1, er1, l1, q1⟩
      | true => exact rd.fine q1 l1 v qv
def notOp (o : Option Bool) (h : Hw) : R W := match o with
  | some k => .ok (.bl (!k)) h
  | none => .err
theorem w_not (ha : PE X a (tE X.K ct Wx ma)) : PE X (.UnaryOp .Not a pos) (tE X.K ct Wx fun env h => (ma env h).bind fun x h1 => notOp (tru h1 x) h1) :=
  PE.mo (pe_notT ha) fun σ H Q ⟨env, ρ, h, er, l, q⟩ => stepE er l q fun x ρ1 h1 H1 s1 l1 er1 q1 v qv => by
    cases e : tru h1 x with
    | none => rw [e] at q1; exact absurd q1 rderr
    | some k => rw [e] at q1; exact ⟨k, tru_W l1 qv e, rd.fine q1 l1 _ VR.mk_bl⟩
theorem w_truth (ha : PE X a (tE X.K ct Wx ma)) (he : ∀ whole, isTrue a X.env whole = (do let v ← whole; standAt a.pos; holding [v] (truthy v))) :
    PT X a (tT X.K ct Wx fun env h => (ma env h).bind fun x h1 => okT (tru h1 x) h1) :=
  PT.mo (pt_truth ha he) fun σ H Q ⟨env, ρ, h, er, l, q⟩ => stepE er l q fun x ρ1 h1 H1 s1 l1 er1 q1 v qv => by
    cases e : tru h1 x with
    | none => rw [e] at q1; exact absurd q1 rderr
    | some k => rw [e] at q1; exact ⟨k, tru_W l1 qv e, rd.fine q1 l1⟩
theorem w_notT (ha : PT X a (tT X.K ct Wx ta)) : PT X (.UnaryOp .Not a pos) (tT X.K ct Wx fun env h => (ta env h).bind fun b h1 => .ok (!b) h1) :=
  PT.mo (pt_not ha) fun σ H Q ⟨env, ρ, h, er, l, q⟩ => stepT er l q fun b ρ1 h1 H1 s1 l1 er1 q1 => rd.fine q1 l1
theorem w_andT {rest : List Expr} (ha : PT X a (tT X.K ct Wx ta)) (hb : PW X (.BoolOp .And (b :: rest) pos) (tT X.K ct Wx tb)) :
    PW X (.BoolOp .And (a :: b :: rest) pos) (tT X.K ct Wx fun env h => (ta env h).bind fun k h1 => bif k then tb env h1 else .ok false h1) := by
  refine ⟨fun wh pins s σ H Q I ⟨env, ρ, h, er, l, q⟩ => (pw_and ha hb).run wh pins s σ H Q I ?_⟩
  refine stepT er l q fun k ρ1 h1 H1 s1 l1 er1 q1 => ?_
  cases k with
  | true => exact ⟨env, ρ1, h1, er1, l1, q1⟩
  | false => exact rd.fine q1 l1
theorem w_orT {rest : List Expr} (ha : PT X a (tT X.K ct Wx ta)) (hb : PW X (.BoolOp .Or (b :: rest) pos) (tT X.K ct Wx tb)) :
    PW X (.BoolOp .Or (a :: b :: rest) pos) (tT X.K ct Wx fun env h => (ta env h).bind fun k h1 => bif k then .ok true h1 else tb env h1) := by
  refine ⟨fun wh pins s σ H Q I ⟨env, ρ, h, er, l, q⟩ => (pw_or ha hb).run wh pins s σ H Q I ?_⟩
  refine stepT er l q fun k ρ1 h1 H1 s1 l1 er1 q1 => ?_
  cases k with
  | false => exact ⟨env, ρ1, h1, er1, l1, q1⟩
  | true => exact rd.fine q1 l1
theorem w_ife (hc : PT X c (tT X.K ct Wx tc)) (ha : PE X a (tE X.K ct Wx ma)) (hb : PE X b (tE X.K ct Wx mb)) :
    PE X (.IfExp c a b pos) (tE X.K ct Wx fun env h => (tc env h).bind fun k h1 => bif k then ma env h1 else mb env h1) :=
  PE.mo (pe_ifExp hc ha hb) fun σ H Q ⟨env, ρ, h, er, l, q⟩ => stepT er l q fun k ρ1 h1 H1 s1 l1 er1 q1 => by
    cases k with
    | true => exact ⟨env, ρ1, h1, er1, l1, q1⟩
    | false => exact ⟨env, ρ1, h1, er1, l1, q1⟩

/-! displays -/
theorem w_nil : PA X [] (tA X.K ct Wx fun _ h => .ok [] h) := PA.mo pa_nil fun σ H Q ⟨env, ρ, h, er, l, q⟩ => rd.fine q l [] (VRs.nil_iff.mpr rfl)
theorem w_cons (ha : PE X a (tE X.K ct Wx ma)) (hr : PA X es (tA X.K ct Wx mes)) (hs : starEach (a :: es) X.env = (false, eval a X.env) :: starEach es X.env) :
    PA X (a :: es) (tA X.K ct Wx fun env h => (ma env h).bind fun x h1 => (mes env h1).bind fun xs h2 => .ok (x :: xs) h2) :=
  PA.mo (pa_cons ha hr hs) fun σ H Q ⟨env, ρ, h, er, l, q⟩ => stepE er l q fun x ρ1 h1 H1 s1 l1 er1 q1 v qv => stepA er1 l1 q1 fun xs ρ2 h2 H2 s2 l2 er2 q2 vs qs =>
    rd.fine q2 l2 _ (VRs.cons_iff.mpr ⟨v, vs, rfl, qv.mv l1 s2, qs⟩)
def starK (m2 : Hw → R (List W)) (o : Option (List W)) (h1 : Hw) : R (List W) := match o with
  | some xs => (m2 h1).bind fun ys h2 => .ok (xs ++ ys) h2
  | none => .err
theorem w_star {p : Pos} (ha : PE X a (tE X.K ct Wx ma)) (hr : PA X es (tA X.K ct Wx mes)) : PA X (.Starred a p :: es) (tA X.K ct Wx fun env h => (ma env h).bind fun x h1 => starK (mes env) (seqOf h1 x) h1) :=
  PA.mo (StX.pa_star ha hr) fun σ H Q ⟨env, ρ, h, er, l, q⟩ => stepE er l q fun x ρ1 h1 H1 s1 l1 er1 q1 v qv => by
    cases e : seqOf h1 x with
    | none => rw [e] at q1; exact absurd q1 rderr
    | some xs =>
      rw [e] at q1
      obtain ⟨a, vs, rfl, sq, ra⟩ := seqOf_ok l1 e qv
      refine ⟨a, vs, rfl, sq.symm, stepA er1 l1 q1 fun ys ρ2 h2 H2 s2 l2 er2 q2 us qs => rd.fine q2 l2 _ ((ra.mv l1 s2).app qs)⟩
theorem w_tup {k : Nat} (hs : PA X es (tA X.K ct Wx mes)) : PE X (.Tuple es k pos) (tE X.K ct Wx fun env h => (mes env h).bind fun ws h1 => bif szOk ws.length then .ok (.tup ws) h1 else .err) :=
  PE.mo (pe_tupZ hs) fun σ H Q ⟨env, ρ, h, er, l, q⟩ => stepA er l q fun ws ρ1 h1 H1 s1 l1 er1 q1 vs qs => by
    obtain ⟨c, q1⟩ := rdif q1
    exact ⟨by rw [qs.length]; exact szOk_le c, newTW l1 qs q1⟩
theorem w_lst (hs : PA X es (tA X.K ct Wx mes)) : PE X (.List es pos) (tE X.K ct Wx fun env h => (mes env h).bind fun ws h1 => bif szOk ws.length then .ok (.ref h1.n) (h1.new (.lst ws)) else .err) :=
  PE.mo (pe_lst hs) fun σ H Q ⟨env, ρ, h, er, l, q⟩ => stepA er l q fun ws ρ1 h1 H1 s1 l1 er1 q1 vs qs => by
    obtain ⟨c, q1⟩ := rdif q1
    exact ⟨by rw [qs.length]; exact szOk_le c, newLW l1 qs q1⟩

/-! subscripts -/
theorem w_idx (hu : X.A.units + 65 < cLine) (ha : PE X a (tE X.K ct Wx ma)) (hb : PE X b (tE X.K ct Wx mb)) (hs : PlainIx b) : PE X (.Subscript a b pos) (tE X.K ct Wx fun env h => (ma env h).bind fun x h1 => (mb env h1).bind fun y h2 => idxOp x y h2) := by
  refine ⟨fun pins s σ H Q I ⟨env, ρ, h, er, l, q⟩ => (pe_ix (pos := pos) (ixR (ct := ct) (Wx := fun c d => Wx c d σ) hu) ha hb hs).run pins s σ H Q I ?_⟩
  exact stepE er l q fun x ρ1 h1 H1 s1 l1 er1 q1 v qv => stepE er1 l1 q1 fun y ρ2 h2 H2 s2 l2 er2 q2 u qu => ⟨ρ2, h2, x, y, l2, qv.mv l1 s2, qu, q2⟩
def intK {β : Type} (f : Option Int → Hw → R β) (x : W) (h : Hw) : R β := match x with
  | .int i => f (some i) h
  | _ => .err
def tOW (K : PySem.W.Frag) (ct : Nat → Option Value) (Wx : WX) (m : Env → Hw → R (Option Int)) : TO := fun σ H Q => ∃ env ρ h, ER K ρ H env σ ∧ Rel K ρ h H ∧ rd K ct (fun c d => Wx c d σ) ρ H (m env h) fun o _ _ H' => Q o H'
theorem PO.mo {o : Option Expr} {t t' : TO} (p : PO X o t) (f : ∀ σ H Q, t' σ H Q → t σ H Q) : PO X o t' := ⟨fun pins s σ H Q I q => p.run pins s σ H Q I (f σ H Q q)⟩
theorem w_none : PO X none (tOW X.K ct Wx fun _ h => .ok none h) := PO.mo po_none fun σ H Q ⟨env, ρ, h, er, l, q⟩ => rd.fine q l
theorem w_some (ha : PE X a (tE X.K ct Wx ma)) : PO X (some a) (tOW X.K ct Wx fun env h => (ma env h).bind fun x h1 => intK (fun o h => .ok o h) x h1) :=
  PO.mo (po_some ha) fun σ H Q ⟨env, ρ, h, er, l, q⟩ => stepE er l q fun x ρ1 h1 H1 s1 l1 er1 q1 v qv => by
    cases x with
    | int i => exact ⟨i, qv.nodep_int, rd.fine q1 l1⟩
    | _ => exact absurd q1 rderr
theorem w_slc {lo hi : Option Expr} {ml mh : Env → Hw → R (Option Int)} {p2 : Pos} (ha : PE X a (tE X.K ct Wx ma)) (hl : PO X lo (tOW X.K ct Wx ml)) (hh : PO X hi (tOW X.K ct Wx mh)) :
    PE X (.Subscript a (.Slice lo hi none p2) pos) (tE X.K ct Wx fun env h => (ma env h).bind fun x h1 => (ml env h1).bind fun l h2 => (mh env h2).bind fun u h3 => slcOp x l u h3) := by
  refine ⟨fun pins s σ H Q I ⟨env, ρ, h, er, l, q⟩ => (pe_slice (pos := pos) (p2 := p2) (slcR (ct := ct) (Wx := fun c d => Wx c d σ)) ha hl hh).run pins s σ H Q I ?_⟩
  refine stepE er l q fun x ρ1 h1 H1 s1 l1 er1 q1 v qv => ⟨env, ρ1, h1, er1, l1, (rd.bind q1).imp fun o ρ2 h2 H2 s2 l2 q2 => ⟨env, ρ2, h2, er1.mv l1 s2, l2, (rd.bind q2).imp fun u ρ3 h3 H3 s3 l3 q3 => ?_⟩⟩
  exact ⟨ρ3, h3, x, l3, (qv.mv l1 s2).mv l2 s3, q3⟩
theorem w_rev {k : Nat} {p1 p2 p3 : Pos} (ha : PE X a (tE X.K ct Wx ma)) : PE X (.Subscript a (.Slice none none (some (.UnaryOp .USub (.Constant (.int 1) k p1) p2)) p3) pos) (tE X.K ct Wx fun env h => (ma env h).bind fun x h1 => biOp .rev [x] h1) :=
  PE.mo (pe_revL ha) fun σ H Q ⟨env, ρ, h, er, l, q⟩ => stepE er l q fun x ρ1 h1 H1 s1 l1 er1 q1 v qv => by
    have rv : ∀ {ws : List W} {vs : List V}, VRs X.K ρ1 H1 ws vs → VRs X.K ρ1 H1 ws.reverse vs.reverse := fun {ws} => by
      induction ws with
      | nil => intro vs q; rw [VRs.nil_iff.mp q]; exact VRs.nil_iff.mpr rfl
      | cons w ws ih =>
        intro vs q
        obtain ⟨v, r, rfl, g1, g2⟩ := VRs.cons_iff.mp q
        rw [List.reverse_cons, List.reverse_cons]
        exact (ih g2).app (VRs.cons_iff.mpr ⟨v, [], rfl, g1, VRs.nil_iff.mpr rfl⟩)
    cases x with
    | frl ys =>
      obtain ⟨a, vs, rfl, ta, ra⟩ := qv.frl
      exact ⟨a, vs, rfl, ta.seq, newLW l1 (rv ra) q1⟩
    | ref n =>
      cases e : h1.get n with
      | none => simp only [biOp, e] at q1; exact absurd q1 rderr
      | some o =>
        cases o with
        | dct _ => simp only [biOp, e] at q1; exact absurd q1 rderr
        | lst ys =>
          simp only [biOp, e] at q1
          obtain ⟨a, vs, rfl, _, hb, ra⟩ := l1.lst e qv
          exact ⟨a, vs, rfl, SqL.of hb, newLW l1 (rv ra) q1⟩
    | _ => exact absurd q1 rderr

/-! built-in functions -/
theorem w_bi (hc : X.calm = true) (hu : X.A.units + 65 < cLine) (hgd : X.A.guards = some []) (bi : Bi) (hb : plainBi bi = true) {x : Str} {p : Pos} (hx : x = biName bi) (hg : Gl X x) (hm : X.mg x = none) (hs : PA X (a :: es) (tA X.K ct Wx mes))
    (he : starEach (a :: es) X.env = (false, eval a X.env) :: starEach es X.env) (hpl : (backTo pos (starEach es X.env)).any (·.1) = false) :
    PE X (.Call (.Name x p) (a :: es) [] pos) (tE X.K ct Wx fun env h => (mes env h).bind fun ws h1 => biOp bi ws h1) := by
  subst hx
  refine ⟨fun pins s σ H Q I ⟨env, ρ, h, er, l, q⟩ => ?_⟩
  have rule : CallR X (biVal bi) (m1C X.K ct (fun c d => Wx c d σ) bi) := biR hc hu hgd bi hb
  have rd' : (tCB (m1C X.K ct (fun c d => Wx c d σ) bi) (tA X.K ct Wx mes)) σ H Q := stepA er l q fun ws ρ1 h1 H1 s1 l1 er1 q1 vs qs => ⟨ρ1, h1, ws, l1, qs, q1⟩
  have bn := biNoName bi
  have bv := bootB bi
  generalize biName bi = nm at bn bv hg hm
  have go : (∃ id, biVal bi = .builtin id) ∨ ∃ T, biVal bi = .type T := by cases bi <;> first | exact .inl ⟨_, rfl⟩ | exact .inr ⟨_, rfl⟩
  rcases go with ⟨id, e⟩ | ⟨T, e⟩
  · rw [e] at bv rule
    exact (pe_callB rule hg hm bv hs bn.1 bn.2 he hpl).run pins s σ H Q I rd'
  · rw [e] at bv rule
    exact (pe_callTy rule hg hm bv hs bn.1 bn.2 he hpl).run pins s σ H Q I rd'
theorem bootTy (t : Nat) : bootBuiltins (Str.ofString (tyName t)) = some (.type (tyName t)) := by
  match t with
  | 0 => decide +kernel
  | 1 => decide +kernel
  | 2 => decide +kernel
  | 3 => decide +kernel
  | 4 => decide +kernel
  | _ + 5 => exact (by decide +kernel : bootBuiltins "dict" = some (.type "dict"))
theorem w_isi {t : Nat} (ht : t < 6) {p p2 : Pos} (hg : Gl X "isinstance") (hm : X.mg "isinstance" = none) {y : Str} (hy : y = Str.ofString (tyName t)) (hgy : Gl X y) (hmy : X.mg y = none) (hyn : y ≠ "__name__") (hyd : (y == ("__debug__" : Str)) = false)
    (ha : PE X a (tE X.K ct Wx ma)) (he : starEach [a, .Name y p2] X.env = (false, eval a X.env) :: starEach [.Name y p2] X.env) (he2 : starEach [.Name y p2] X.env = (false, eval (.Name y p2) X.env) :: starEach [] X.env)
    (hpl : (backTo pos (starEach [.Name y p2] X.env)).any (·.1) = false) :
    PE X (.Call (.Name "isinstance" p) [a, .Name y p2] [] pos) (tE X.K ct Wx fun env h => (ma env h).bind fun x h1 => biOp (.isinst t) [x] h1) :=
  PE.mo (pe_callB call_isi hg hm PyProof.Rows.boot_isinstance (pa_cons ha (pa_cons (pe_bltn hgy hmy (by rw [hy]; exact bootTy t) (v := .ty (tyName t)) rfl hyn hyd) pa_nil he2) he) (by decide) (by decide) he hpl) fun σ H Q ⟨env, ρ, h, er, l, q⟩ =>
    stepE er l q fun x ρ1 h1 H1 s1 l1 er1 q1 v qv => by
      cases e : isT t h1 x with
      | none => simp only [biOp, e] at q1; exact absurd q1 rderr
      | some b =>
        simp only [biOp, e] at q1
        obtain ⟨T, ty, kb⟩ := ty_W l1 ht qv e
        exact ⟨v, .ty (tyName t), .type T, .type (tyName t), b, rfl, .ty _, ty, kit_ty kb, rd.fine q1 l1 _ VR.mk_bl⟩
theorem rg_ok {K : PySem.W.Frag} {ρ : List Addr} {H : Hp} (lo hi : Int) : VRs K ρ H (rngs lo (hi - lo).toNat) (rgV lo hi) := by
  unfold rgV
  generalize (hi - lo).toNat = n
  induction n generalizing lo with
  | zero => exact VRs.nil_iff.mpr rfl
  | succ n ih =>
    unfold rngs
    rw [List.range_succ_eq_map, List.map_cons, List.map_map]
    refine VRs.cons_iff.mpr ⟨_, _, rfl, by rw [show lo + ((0 : Nat) : Int) = lo by simp]; exact VR.mk_int, ?_⟩
    have := ih (lo + 1)
    rw [show ((fun i : Nat => V.int (lo + (i : Nat))) ∘ Nat.succ) = fun i : Nat => V.int (lo + 1 + (i : Nat)) by
      funext i
      show V.int (lo + ((i + 1 : Nat) : Int)) = _
      congr 1
      omega]
    exact this
theorem w_lrng1 (hc : X.calm = true) {p p2 pos2 : Pos} (hg : Gl X "list") (hm : X.mg "list" = none) (hg2 : Gl X "range") (hm2 : X.mg "range" = none) (ha : PE X a (tE X.K ct Wx ma)) (na : starEach [a] X.env = (false, eval a X.env) :: starEach [] X.env)
    (na2 : starEach [.Call (.Name "range" p2) [a] [] pos2] X.env = (false, eval (.Call (.Name "range" p2) [a] [] pos2) X.env) :: starEach [] X.env) :
    PE X (.Call (.Name "list" p) [.Call (.Name "range" p2) [a] [] pos2] [] pos) (tE X.K ct Wx fun env h => (ma env h).bind fun x h1 => biOp .lrng1 [x] h1) :=
  PE.mo (pe_listRg hc hg hm (prg_1 hg2 hm2 ha na) na2) fun σ H Q ⟨env, ρ, h, er, l, q⟩ => stepE er l q fun x ρ1 h1 H1 s1 l1 er1 q1 v qv => by
    cases x with
    | int j =>
      simp only [biOp] at q1
      obtain ⟨c, q1⟩ := rdif q1
      obtain ⟨c1, c2⟩ := Bool.and_eq_true_iff.mp c
      have r1 := rngOk_b c1
      have r2 : j.toNat ≤ 16777216 := Nat.le_of_ble_eq_true c2
      refine ⟨j, qv.nodep_int, ⟨by omega, by omega, r1.1, r1.2, by omega⟩, newLW l1 ?_ q1⟩
      have := rg_ok (K := X.K) (ρ := ρ1) (H := H1) 0 j
      rw [show j - 0 = j by omega] at this
      exact this
    | _ => exact absurd q1 rderr
theorem w_lrng2 (hc : X.calm = true) {p p2 pos2 : Pos} (hg : Gl X "list") (hm : X.mg "list" = none) (hg2 : Gl X "range") (hm2 : X.mg "range" = none) (ha : PE X a (tE X.K ct Wx ma)) (hb : PE X b (tE X.K ct Wx mb))
    (na : starEach [a, b] X.env = (false, eval a X.env) :: starEach [b] X.env) (nb : starEach [b] X.env = (false, eval b X.env) :: starEach [] X.env) (hp : (backTo pos2 (starEach [b] X.env)).any (·.1) = false)
    (na2 : starEach [.Call (.Name "range" p2) [a, b] [] pos2] X.env = (false, eval (.Call (.Name "range" p2) [a, b] [] pos2) X.env) :: starEach [] X.env) :
    PE X (.Call (.Name "list" p) [.Call (.Name "range" p2) [a, b] [] pos2] [] pos) (tE X.K ct Wx fun env h => (ma env h).bind fun x h1 => (mb env h1).bind fun y h2 => biOp .lrng2 [x, y] h2) :=
  PE.mo (pe_listRg hc hg hm (prg_2 hg2 hm2 ha hb na nb hp) na2) fun σ H Q ⟨env, ρ, h, er, l, q⟩ => stepE er l q fun x ρ1 h1 H1 s1 l1 er1 q1 v qv => stepE er1 l1 q1 fun y ρ2 h2 H2 s2 l2 er2 q2 u qu => by
    cases x with
    | int i =>
      cases y with
      | int j =>
        simp only [biOp] at q2
        obtain ⟨c, q2⟩ := rdif q2
        simp only [Bool.and_eq_true] at c
        have r1 := rngOk_b c.1.1
        have r2 := rngOk_b c.1.2
        have r3 : (j - i).toNat ≤ 16777216 := Nat.le_of_ble_eq_true c.2
        exact ⟨i, j, qv.nodep_int, qu.nodep_int, ⟨r1.1, r1.2, r2.1, r2.2, by omega⟩, newLW l2 (rg_ok i j) q2⟩
      | _ => exact absurd q2 rderr
    | _ => exact absurd q2 rderr

/-! methods -/
theorem w_me (hu : X.A.units + 65 < cLine) (m : Me) {o : Expr} {mo : Env → Hw → R W} {apos cpos : Pos} (ho : PE X o (tE X.K ct Wx mo)) (ha : PA X (a :: es) (tA X.K ct Wx mes)) (hbase : attributeBase o (meName m) X.env (eval o X.env) = eval o X.env)
    (hfew : (backTo cpos (starEach (a :: es) X.env)).all (fun x => !x.1) = true) (hlen : es.length < 28) (hline : (apos.endLine == cpos.line) = true)
    (hst : starEach (a :: es) X.env = (false, eval a X.env) :: starEach es X.env) (hplain : (backTo cpos (starEach es X.env)).any (·.1) = false) :
    PE X (.Call (.Attribute o (meName m) apos) (a :: es) [] cpos) (tE X.K ct Wx fun env h => (mo env h).bind fun x h1 => bif recvOk m x h1 then (mes env h1).bind fun ws h2 => meOp m x ws h2 else .err) := by
  refine ⟨fun pins s σ H Q I ⟨env, ρ, h, er, l, q⟩ => (pe_mz (spM ct (fun c d => Wx c d σ) hu m) ho ha hbase hfew hlen hline hst hplain).run pins s σ H Q I ?_⟩
  refine stepE er l q fun x ρ1 h1 H1 s1 l1 er1 q1 v qv => ?_
  obtain ⟨c, q1⟩ := rdif q1
  obtain ⟨k1, k2⟩ := recv_ok (ct := ct) (Wx := fun c d => Wx c d σ) hu l1 qv c
  refine ⟨kindW x, k1, stepA er1 l1 q1 fun ws ρ2 h2 H2 s2 l2 er2 q2 vs qs => ?_⟩
  rw [k2]
  exact ⟨ρ2, h2, x, ws, l2, qv.mv l1 s2, qs, rfl, q2⟩
theorem w_me0 (hu : X.A.units + 65 < cLine) (m : Me) {o : Expr} {mo : Env → Hw → R W} {apos cpos : Pos} (ho : PE X o (tE X.K ct Wx mo)) (hbase : attributeBase o (meName m) X.env (eval o X.env) = eval o X.env) (hline : (apos.endLine == cpos.line) = true) :
    PE X (.Call (.Attribute o (meName m) apos) [] [] cpos) (tE X.K ct Wx fun env h => (mo env h).bind fun x h1 => bif recvOk m x h1 then meOp m x [] h1 else .err) := by
  refine ⟨fun pins s σ H Q I ⟨env, ρ, h, er, l, q⟩ => (pe_mz0 (spM ct (fun c d => Wx c d σ) hu m) ho hbase hline).run pins s σ H Q I ?_⟩
  refine stepE er l q fun x ρ1 h1 H1 s1 l1 er1 q1 v qv => ?_
  obtain ⟨c, q1⟩ := rdif q1
  obtain ⟨k1, k2⟩ := recv_ok (ct := ct) (Wx := fun c d => Wx c d σ) hu l1 qv c
  refine ⟨kindW x, k1, ?_⟩
  rw [k2]
  exact ⟨ρ1, h1, x, [], l1, qv, VRs.nil_iff.mpr rfl, rfl, q1⟩
end
end TL
/-! Targets, statements, loops, comprehensions: the rules, by the machine. -/
namespace TL
open PySem PySem.Spec PyProof.Rows L2
variable [TabI] [CloI]
/-! ### targets -/
mutual
def Tg.ix : Tg → List Nat
  | .nm i => [i]
  | .tp ts => Tg.ixs ts
def Tg.ixs : List Tg → List Nat
  | [] => []
  | t :: ts => t.ix ++ Tg.ixs ts
end
theorem wipe_at : ∀ (vs : List Nat) (σ : L2.St) (j : Nat), (wipe σ vs)[j]? = if j ∈ vs then (if j < σ.length then some none else none) else σ[j]?
  | [], σ, j => by simp [wipe]
  | v :: vs, σ, j => by
    unfold wipe
    by_cases e : v = j
    · subst e
      rw [if_pos List.mem_cons_self]
      by_cases hl : v < σ.length
      · rw [if_pos hl, List.getElem?_set_self (by rw [wipe_length]; exact hl)]
      · rw [if_neg hl, List.getElem?_eq_none (by rw [List.length_set, wipe_length]; omega)]
    · rw [List.getElem?_set_ne e, wipe_at vs σ j]
      by_cases m : j ∈ vs
      · rw [if_pos m, if_pos (List.mem_cons_of_mem _ m)]
      · rw [if_neg m, if_neg (fun z => (List.mem_cons.mp z).elim (fun q => e q.symm) m)]
theorem wipe_set (vs : List Nat) (σ : L2.St) (i : Nat) (x : Option V) (m : i ∈ vs) : wipe (σ.set i x) vs = wipe σ vs := by
  apply List.ext_getElem?
  intro j
  rw [wipe_at, wipe_at, List.length_set]
  by_cases mj : j ∈ vs
  · rw [if_pos mj, if_pos mj]
  · rw [if_neg mj, if_neg mj, List.getElem?_set_ne (show i ≠ j from fun e => mj (by rw [← e]; exact m))]
theorem wipe_wipe (vs : List Nat) (σ : L2.St) : wipe (wipe σ vs) vs = wipe σ vs := by
  apply List.ext_getElem?
  intro j
  rw [wipe_at, wipe_length]
  by_cases mj : j ∈ vs
  · rw [if_pos mj, wipe_at, if_pos mj]
  · rw [if_neg mj]
/-- only these slots were stored at -/
def Keep (ix : List Nat) (σ σ' : L2.St) : Prop := ∀ vs, (∀ i ∈ ix, i ∈ vs) → wipe σ' vs = wipe σ vs
def tG (K : PySem.W.Frag) (tg : Tg) : TG := fun v σ H Q => ∃ env ρ h w s', ER K ρ H env σ ∧ Rel K ρ h H ∧ VR K ρ H w v ∧ asg tg w env h = some s' ∧ ∀ σ', ER K ρ H s' σ' → Keep tg.ix σ σ' → Q σ' H
def tGs (K : PySem.W.Frag) (tgs : List Tg) : TGs := fun vs σ H Q => ∃ env ρ h ws s', ER K ρ H env σ ∧ Rel K ρ h H ∧ VRs K ρ H ws vs ∧ asgs tgs ws env h = some s' ∧ ∀ σ', ER K ρ H s' σ' → Keep (Tg.ixs tgs) σ σ' → Q σ' H
section
variable {X : Cx} {pos : Pos}
theorem PG.mo {e : Expr} {t t' : TG} (p : PG X e t) (f : ∀ v σ H Q, t' v σ H Q → t v σ H Q) : PG X e t' := ⟨fun pins s σ H v u Q I r q => p.run pins s σ H v u Q I r (f v σ H Q q)⟩
theorem PGs.mo {e : List Expr} {t t' : TGs} (p : PGs X e t) (f : ∀ v σ H Q, t' v σ H Q → t v σ H Q) : PGs X e t' := ⟨fun pins s σ H v u Q I r q => p.run pins s σ H v u Q I r (f v σ H Q q)⟩
theorem PG.or {e : Expr} {t t' : TG} (p : PG X e t) (p' : PG X e t') : PG X e (fun v σ H Q => t v σ H Q ∨ t' v σ H Q) := ⟨fun pins s σ H v u Q I r q => q.elim (p.run pins s σ H v u Q I r) (p'.run pins s σ H v u Q I r)⟩
theorem g_nm {i : Nat} {x : Str} (hN : X.N.Nodup) (hi : X.N[i]? = some x) (hx : Loc X.env.scope x) (hf : X.fn x = true ∨ X.env.scope.names.lookup x = some .local) : PG X (.Name x pos) (tG X.K (.nm i)) :=
  PG.mo (pg_name hN hi hx hf) fun v σ H Q ⟨env, ρ, h, w, s', er, l, qv, e, q⟩ => by
    simp only [asg] at e
    cases e
    exact q _ (er.set i qv) fun vs hv => wipe_set vs σ i _ (hv i (by simp [Tg.ix]))
theorem g_nil : PGs X [] (tGs X.K []) :=
  PGs.mo pgs_nil fun vs σ H Q ⟨env, ρ, h, ws, s', er, l, qv, e, q⟩ => by
    cases ws with
    | nil =>
      simp only [asgs] at e
      cases e
      exact ⟨VRs.nil_iff.mp qv, q _ er fun _ _ => rfl⟩
    | cons _ _ => simp only [asgs] at e; cases e
theorem g_cons {a : Expr} {es : List Expr} {t : Tg} {ts : List Tg} (h1 : PG X a (tG X.K t)) (h2 : PGs X es (tGs X.K ts)) (hs : (assignEach (a :: es) X.env).map (·.2) = assign a X.env :: (assignEach es X.env).map (·.2)) : PGs X (a :: es) (tGs X.K (t :: ts)) :=
  PGs.mo (pgs_cons h1 h2 hs) fun vs σ H Q ⟨env, ρ, h, ws, s', er, l, qv, e, q⟩ => by
    cases ws with
    | nil => simp only [asgs] at e; cases e
    | cons w ws =>
      obtain ⟨v, r, rfl, q1, q2⟩ := VRs.cons_iff.mp qv
      simp only [asgs] at e
      cases e1 : asg t w env h with
      | none => rw [e1] at e; cases e
      | some s1 =>
        rw [e1] at e
        exact ⟨v, r, rfl, env, ρ, h, w, s1, er, l, q1, e1, fun σ1 er1 k1 => ⟨s1, ρ, h, ws, s', er1, l, q2, e, fun σ2 er2 k2 => q σ2 er2 fun vs hv => (k2 vs fun i m => hv i (by simp only [Tg.ixs]; exact List.mem_append_right _ m)).trans (k1 vs fun i m => hv i (by simp only [Tg.ixs]; exact List.mem_append_left _ m))⟩⟩
theorem g_tp {es : List Expr} {k n : Nat} {ts : List Tg} (hc : X.calm = true) (h : PGs X es (tGs X.K ts)) (hn : (assignEach es X.env).length = n) (hl : ts.length = n) (hst : (assignEach es X.env).findIdx? (·.1) = none) : PG X (.Tuple es k pos) (tG X.K (.tp ts)) := by
  have len : ∀ (ts : List Tg) (ws : List W) (s s' : Env) (h : Hw), asgs ts ws s h = some s' → ws.length = ts.length := fun ts => by
    induction ts with
    | nil => intro ws s s' h e; cases ws with
      | nil => rfl
      | cons _ _ => simp only [asgs] at e; cases e
    | cons t ts ih => intro ws s s' h e; cases ws with
      | nil => simp only [asgs] at e; cases e
      | cons w ws =>
        simp only [asgs] at e
        cases e1 : asg t w s h with
        | none => rw [e1] at e; cases e
        | some s1 => rw [e1] at e; rw [List.length_cons, List.length_cons, ih ws s1 s' h e]
  refine PG.mo (PG.or (pg_tup (k := k) (pos := pos) hc h hn hst) (pg_unl (k := k) (pos := pos) hc h hn hst)) fun v σ H Q ⟨env, ρ, h, w, s', er, l, qv, e, q⟩ => ?_
  cases w with
  | tup ws =>
    obtain ⟨a, vs, rfl, ta, ra⟩ := qv.tup
    simp only [asg] at e
    exact .inl ⟨a, vs, rfl, ta.sq, by rw [ra.length, len _ _ _ _ _ e, hl], env, ρ, h, ws, s', er, l, ra, e, fun σ' er' k => q σ' er' (by simpa only [Tg.ix] using k)⟩
  | ref n =>
    cases e1 : h.get n with
    | none => simp only [asg, e1] at e; cases e
    | some o =>
      cases o with
      | dct _ => simp only [asg, e1] at e; cases e
      | lst ws =>
        simp only [asg, e1] at e
        obtain ⟨a, vs, rfl, _, ha, ra⟩ := l.lst e1 qv
        exact .inr ⟨a, vs, rfl, SqL.of ha, by rw [ra.length, len _ _ _ _ _ e, hl], env, ρ, h, ws, s', er, l, ra, e, fun σ' er' k => q σ' er' (by simpa only [Tg.ix] using k)⟩
  | _ => simp only [asg] at e; cases e
end

/-! ### statements -/
/-- what is wanted behind a statement, by the machine's end -/
def DP (K : PySem.W.Frag) (D : Ends) : Env × Fl → List Addr → Hw → Hp → Prop := fun p ρ' _ H' => ∀ σ', ER K ρ' H' p.1 σ' → match p.2 with
  | .nx => D.nx σ' H'
  | .rt w => ∀ v, VR K ρ' H' w v → D.rt v H'
  | .bk => D.bk σ' H'
  | .ct => D.ct σ' H'
def tS (K : PySem.W.Frag) (ct : Nat → Option Value) (Wx : XK) (m : Env → Hw → R (Env × Fl)) : TS := fun D σ H => ∃ env ρ h, ER K ρ H env σ ∧ Rel K ρ h H ∧ rd K ct Wx ρ H (m env h) (DP K D)
def flK (m2 : Env → Hw → R (Env × Fl)) (p : Env × Fl) (h1 : Hw) : R (Env × Fl) := match p.2 with
  | .nx => m2 p.1 h1
  | _ => .ok p h1
section
variable {X : Cx} {ct : Nat → Option Value} {Wx : XK} {pos : Pos} {st : Stmt} {rest : List Stmt} {m1 m2 : Env → Hw → R (Env × Fl)} {a b c : Expr} {ma mb mc : Env → Hw → R W} {tc : Env → Hw → R Bool}
/-- the same wish at all slots -/
abbrev wx (Wx : XK) : WX := fun c d _ H => Wx c d H
theorem s_nil : PSs X [] (tS X.K ct Wx fun env h => .ok (env, .nx) h) := PSs.mo pss_nil fun D σ H ⟨env, ρ, h, er, l, q⟩ => rd.fine q l σ er
theorem s_cons (h1 : PS X st (tS X.K ct Wx m1)) (h2 : PSs X rest (tS X.K ct Wx m2)) : PSs X (st :: rest) (tS X.K ct Wx fun env h => (m1 env h).bind fun p h1 => flK m2 p h1) :=
  PSs.mo (pss_cons h1 h2) fun D σ H ⟨env, ρ, h, er, l, q⟩ => ⟨env, ρ, h, er, l, (rd.bind q).imp fun p ρ1 h1 H1 s1 l1 q1 => by
    obtain ⟨env1, f⟩ := p
    intro σ1 er1
    cases f with
    | nx => exact ⟨env1, ρ1, h1, er1, l1, q1⟩
    | rt w => exact rd.fine q1 l1 σ1 er1
    | bk => exact rd.fine q1 l1 σ1 er1
    | ct => exact rd.fine q1 l1 σ1 er1⟩
theorem s_pass : PS X (.Pass pos) (tS X.K ct Wx fun env h => .ok (env, .nx) h) := PS.mo ps_pass fun D σ H ⟨env, ρ, h, er, l, q⟩ => rd.fine q l σ er
theorem s_brk : PS X (.Break pos) (tS X.K ct Wx fun env h => .ok (env, .bk) h) := PS.mo ps_break fun D σ H ⟨env, ρ, h, er, l, q⟩ => rd.fine q l σ er
theorem s_cont : PS X (.Continue pos) (tS X.K ct Wx fun env h => .ok (env, .ct) h) := PS.mo ps_continue fun D σ H ⟨env, ρ, h, er, l, q⟩ => rd.fine q l σ er
theorem s_retN : PS X (.Return none pos) (tS X.K ct Wx fun env h => .ok (env, .rt .non) h) := PS.mo ps_retN fun D σ H ⟨env, ρ, h, er, l, q⟩ => rd.fine q l σ er .non VR.mk_non
theorem s_ret (ha : PE X a (tE X.K ct (wx Wx) ma)) : PS X (.Return (some a) pos) (tS X.K ct Wx fun env h => (ma env h).bind fun w h1 => .ok (env, .rt w) h1) :=
  PS.mo (ps_ret ha) fun D σ H ⟨env, ρ, h, er, l, q⟩ => stepE (Wx := wx Wx) er l q fun w ρ1 h1 H1 s1 l1 er1 q1 v qv => rd.fine q1 l1 σ er1 v qv
theorem s_ex (ha : PE X a (tE X.K ct (wx Wx) ma)) (hs : swapsWith a none pos.line X.env = pure false) : PS X (.Expr a pos) (tS X.K ct Wx fun env h => (ma env h).bind fun _ h1 => .ok (env, .nx) h1) :=
  PS.mo (ps_expr ha hs) fun D σ H ⟨env, ρ, h, er, l, q⟩ => stepE (Wx := wx Wx) er l q fun w ρ1 h1 H1 s1 l1 er1 q1 v qv => rd.fine q1 l1 σ er1
theorem s_set {i : Nat} {x : Str} {px : Pos} (hN : X.N.Nodup) (hi : X.N[i]? = some x) (hx : Loc X.env.scope x) (ha : PE X a (tE X.K ct (wx Wx) ma)) (hs : swapsWith a (some (.Name x px)) pos.line X.env = pure false) (hf : X.fn x = true ∨ X.env.scope.names.lookup x = some .local) :
    PS X (.Assign [.Name x px] a pos) (tS X.K ct Wx fun env h => (ma env h).bind fun w h1 => .ok (env.set i (some w), .nx) h1) :=
  PS.mo (ps_set hN hi hx ha hs hf) fun D σ H ⟨env, ρ, h, er, l, q⟩ => stepE (Wx := wx Wx) er l q fun w ρ1 h1 H1 s1 l1 er1 q1 v qv => rd.fine q1 l1 _ (er1.set i qv)
def asgK (tg : Tg) (env : Env) (w : W) (h : Hw) : R (Env × Fl) := match asg tg w env h with
  | some s' => .ok (s', .nx) h
  | none => .err
theorem s_setT {tg : Expr} {t : Tg} (ha : PE X a (tE X.K ct (wx Wx) ma)) (hg : PG X tg (tG X.K t)) (hs : swapsWithSole [tg] a pos.line X.env = pure false) (hw : swappedStores [tg] a X.env = pure none) (h1 : (assignEach [tg] X.env).map (·.2) = [assign tg X.env]) :
    PS X (.Assign [tg] a pos) (tS X.K ct Wx fun env h => (ma env h).bind fun w h1 => asgK t env w h1) :=
  PS.mo (ps_asg ha hg hs hw h1) fun D σ H ⟨env, ρ, h, er, l, q⟩ => stepE (Wx := wx Wx) er l q fun w ρ1 h1 H1 s1 l1 er1 q1 v qv => by
    cases e : asg t w env h1 with
    | none => simp only [asgK, e] at q1; exact absurd q1 rderr
    | some s' =>
      simp only [asgK, e] at q1
      exact ⟨env, ρ1, h1, w, s', er1, l1, qv, e, fun σ' er' _ => rd.fine q1 l1 σ' er'⟩
theorem s_par {i j : Nat} {x y : Str} {mes : Env → Hw → R (List W)} {px py pt : Pos} {kt k2 : Nat} {pt2 : Pos} (hc : X.calm = true) (hN : X.N.Nodup) (hi : X.N[i]? = some x) (hj : X.N[j]? = some y) (hij : i ≠ j)
    (hx : X.env.scope.names.lookup x = some .local) (hy : X.env.scope.names.lookup y = some .local) (ha : PA X [a, b] (tA X.K ct (wx Wx) mes))
    (hw : swappedStores [.Tuple [.Name x px, .Name y py] kt pt] (.Tuple [a, b] k2 pt2) X.env = pure (some [x, y])) (hs : swapsWithSole [.Tuple [.Name x px, .Name y py] kt pt] (.Tuple [a, b] k2 pt2) pos.line X.env = pure false) :
    PS X (.Assign [.Tuple [.Name x px, .Name y py] kt pt] (.Tuple [a, b] k2 pt2) pos) (tS X.K ct Wx fun env h => ((mes env h).bind fun ws h1 => bif szOk ws.length then .ok (.tup ws) h1 else .err).bind fun w h1 => asgK (.tp [.nm i, .nm j]) env w h1) :=
  PS.mo (ps_par (pos := pos) hc hN hi hj hij hx hy ha hw hs) fun D σ H ⟨env, ρ, h, er, l, q⟩ => by
    refine stepA (Wx := wx Wx) (f := fun ws h1 => (bif szOk ws.length then (.ok (.tup ws) h1 : R W) else .err).bind fun w h1 => asgK (.tp [.nm i, .nm j]) env w h1) (P := DP X.K D) er l ?_ fun ws ρ1 h1 H1 s1 l1 er1 q1 vs qs => ?_
    · have : ((mes env h).bind fun ws h1 => (bif szOk ws.length then (.ok (.tup ws) h1 : R W) else .err)).bind (fun w h1 => asgK (.tp [.nm i, .nm j]) env w h1) = (mes env h).bind fun ws h1 => (bif szOk ws.length then (.ok (.tup ws) h1 : R W) else .err).bind fun w h1 => asgK (.tp [.nm i, .nm j]) env w h1 := by
        cases mes env h <;> rfl
      rw [← this]
      exact q
    · cases c : szOk ws.length with
      | false => rw [c] at q1; exact absurd q1 rderr
      | true =>
        rw [c] at q1
        have q1 : rd X.K ct Wx ρ1 H1 (asgK (.tp [.nm i, .nm j]) env (.tup ws) h1) (DP X.K D) := q1
        match ws, qs, q1 with
        | [w1, w2], qs, q1 =>
          obtain ⟨v, u, rfl, g1, g2⟩ := qs.two
          simp only [asgK, asg, asgs] at q1
          exact ⟨v, u, rfl, rd.fine q1 l1 _ ((er1.set i g1).set j g2)⟩
        | [], _, q1 => simp only [asgK, asg, asgs] at q1; exact absurd q1 rderr
        | [_], _, q1 => simp only [asgK, asg, asgs] at q1; exact absurd q1 rderr
        | _ :: _ :: _ :: _, _, q1 => simp only [asgK, asg, asgs] at q1; exact absurd q1 rderr
theorem s_par3 {i j k : Nat} {x y z : Str} {mes : Env → Hw → R (List W)} {px py pz pt : Pos} {kt k2 : Nat} {pt2 : Pos} (hc : X.calm = true) (hN : X.N.Nodup) (hi : X.N[i]? = some x) (hj : X.N[j]? = some y) (hk : X.N[k]? = some z) (hij : i ≠ j) (hik : i ≠ k) (hjk : j ≠ k)
    (hx : X.env.scope.names.lookup x = some .local) (hy : X.env.scope.names.lookup y = some .local) (hz : X.env.scope.names.lookup z = some .local) (ha : PA X [a, b, c] (tA X.K ct (wx Wx) mes))
    (hw : swappedStores [.Tuple [.Name x px, .Name y py, .Name z pz] kt pt] (.Tuple [a, b, c] k2 pt2) X.env = pure (some [x, y, z])) (hs : swapsWithSole [.Tuple [.Name x px, .Name y py, .Name z pz] kt pt] (.Tuple [a, b, c] k2 pt2) pos.line X.env = pure false) :
    PS X (.Assign [.Tuple [.Name x px, .Name y py, .Name z pz] kt pt] (.Tuple [a, b, c] k2 pt2) pos) (tS X.K ct Wx fun env h => ((mes env h).bind fun ws h1 => bif szOk ws.length then .ok (.tup ws) h1 else .err).bind fun w h1 => asgK (.tp [.nm i, .nm j, .nm k]) env w h1) :=
  PS.mo (ps_par3 (pos := pos) hc hN hi hj hk hij hik hjk hx hy hz ha hw hs) fun D σ H ⟨env, ρ, h, er, l, q⟩ => by
    refine stepA (Wx := wx Wx) (f := fun ws h1 => (bif szOk ws.length then (.ok (.tup ws) h1 : R W) else .err).bind fun w h1 => asgK (.tp [.nm i, .nm j, .nm k]) env w h1) (P := DP X.K D) er l ?_ fun ws ρ1 h1 H1 s1 l1 er1 q1 vs qs => ?_
    · have e : ((mes env h).bind fun ws h1 => (bif szOk ws.length then (.ok (.tup ws) h1 : R W) else .err)).bind (fun w h1 => asgK (.tp [.nm i, .nm j, .nm k]) env w h1) = (mes env h).bind fun ws h1 => (bif szOk ws.length then (.ok (.tup ws) h1 : R W) else .err).bind fun w h1 => asgK (.tp [.nm i, .nm j, .nm k]) env w h1 := by
        cases mes env h <;> rfl
      rw [← e]
      exact q
    · cases c : szOk ws.length with
      | false => rw [c] at q1; exact absurd q1 rderr
      | true =>
        rw [c] at q1
        have q1 : rd X.K ct Wx ρ1 H1 (asgK (.tp [.nm i, .nm j, .nm k]) env (.tup ws) h1) (DP X.K D) := q1
        match ws, qs, q1 with
        | [w1, w2, w3], qs, q1 =>
          obtain ⟨v, r, rfl, g1, qr⟩ := VRs.cons_iff.mp qs
          obtain ⟨u, t, rfl, g2, g3⟩ := qr.two
          simp only [asgK, asg, asgs] at q1
          exact ⟨v, u, t, rfl, rd.fine q1 l1 _ (((er1.set i g1).set j g2).set k g3)⟩
        | [], _, q1 => simp only [asgK, asg, asgs] at q1; exact absurd q1 rderr
        | [_], _, q1 => simp only [asgK, asg, asgs] at q1; exact absurd q1 rderr
        | [_, _], _, q1 => simp only [asgK, asg, asgs] at q1; exact absurd q1 rderr
        | _ :: _ :: _ :: _ :: _, _, q1 => simp only [asgK, asg, asgs] at q1; exact absurd q1 rderr
def setK (env : Env) (o : Option Hw) : R (Env × Fl) := match o with
  | some h => .ok (env, .nx) h
  | none => .err
theorem s_setI {p1 : Pos} (hu : X.A.units + 65 < cLine) (ha : PE X a (tE X.K ct (wx Wx) ma)) (hb : PE X b (tE X.K ct (wx Wx) mb)) (hc : PE X c (tE X.K ct (wx Wx) mc))
    (has : ∀ v, assign (.Subscript a b p1) X.env v = (do
      let ov ← holding [v] (eval a X.env)
      let iv ← holding [v, ov] (eval b X.env)
      standAt p1
      holding [v, ov, iv] (setItem ov iv v)
      release [v, ov, iv] []))
    (hs : swapsWithSole [.Subscript a b p1] c pos.line X.env = pure false) (hw : swappedStores [.Subscript a b p1] c X.env = pure none) (h1 : (assignEach [.Subscript a b p1] X.env).map (·.2) = [assign (.Subscript a b p1) X.env]) :
    PS X (.Assign [.Subscript a b p1] c pos) (tS X.K ct Wx fun env h => (mc env h).bind fun v h1 => (ma env h1).bind fun x h2 => (mb env h2).bind fun y h3 => setK env (setOp x y v h3)) :=
  PS.mo (ps_asg hc (pg_sub ha hb (setR hu) has) hs hw h1) fun D σ H ⟨env, ρ, h, er, l, q⟩ =>
    stepE (Wx := wx Wx) er l q fun w ρ1 h1 H1 s1 l1 er1 q1 v qv => stepE (Wx := wx Wx) er1 l1 q1 fun x ρ2 h2 H2 s2 l2 er2 q2 u qu => stepE (Wx := wx Wx) er2 l2 q2 fun y ρ3 h3 H3 s3 l3 er3 q3 t qt => by
      cases e : setOp x y w h3 with
      | none => simp only [setK, e] at q3; exact absurd q3 rderr
      | some h4 =>
        simp only [setK, e] at q3
        exact ⟨ρ3, h3, x, y, w, h4, l3, qu.mv l2 s3, qt, (qv.mv l1 s2).mv l2 s3, e, fun H' s' l' => q3 ρ3 H' s' l' σ (er3.mv l3 s')⟩
theorem augOp_ok {K : PySem.W.Frag} {o : Bop} {x y : W} {ρ : List Addr} {H : Hp} {h : Hw} {P : W → List Addr → Hw → Hp → Prop} (q : rd K ct Wx ρ H (augOp o x y h) P) :
    ∃ i j, x = .int i ∧ y = .int j ∧ rd K ct Wx ρ H (binOp o (.int i) (.int j) h) P ∧ ((o = .fdiv ∨ o = .mod) → 0 < j) ∧ o ≠ .pow := by
  cases x with
  | int i =>
    cases y with
    | int j =>
      refine ⟨i, j, rfl, rfl, ?_⟩
      cases o with
      | add => exact ⟨q, fun z => z.elim (fun e => nomatch e) (fun e => nomatch e), fun z => nomatch z⟩
      | sub => exact ⟨q, fun z => z.elim (fun e => nomatch e) (fun e => nomatch e), fun z => nomatch z⟩
      | mul => exact ⟨q, fun z => z.elim (fun e => nomatch e) (fun e => nomatch e), fun z => nomatch z⟩
      | fdiv => obtain ⟨c, q⟩ := rdif q; exact ⟨q, fun _ => of_decide_eq_true c, fun z => nomatch z⟩
      | mod => obtain ⟨c, q⟩ := rdif q; exact ⟨q, fun _ => of_decide_eq_true c, fun z => nomatch z⟩
      | pow => exact absurd q rderr
    | _ => cases o <;> exact absurd q rderr
  | _ => cases o <;> exact absurd q rderr
theorem iopR (o : Bop) : PIp X (bopOf o) (TL.m2 X.K ct Wx (augOp o)) := by
  intro pins s σ H x y v u Q I rx ry q
  obtain ⟨ρ, h, wx, wy, l, qx, qy, q⟩ := q
  obtain ⟨i, j, rfl, rfl, q, pos, np⟩ := augOp_ok q
  rw [qx.nodep_int] at rx
  rw [qy.nodep_int] at ry
  cases o with
  | add => exact iop_add pins s σ H _ _ v u Q I rx ry ⟨i, j, rfl, rfl, rd.fine q l _ VR.mk_int⟩
  | sub => exact iop_sub pins s σ H _ _ v u Q I rx ry ⟨i, j, rfl, rfl, rd.fine q l _ VR.mk_int⟩
  | mul =>
    obtain ⟨c, q⟩ := rdif q
    refine iop_mul pins s σ H _ _ v u Q I rx ry ⟨i, j, rfl, rfl, ?_, rd.fine q l _ VR.mk_int⟩
    rcases (Bool.or_eq_true_iff.mp c) with c | c
    · exact .inl (smallOk c)
    · exact .inr (smallOk c)
  | fdiv =>
    have hj := pos (.inl rfl)
    obtain ⟨c, q⟩ := rdnif q
    obtain ⟨c1, c2⟩ := Bool.or_eq_false_iff.mp c
    have c2 := Nat.lt_of_not_le fun z => Bool.false_ne_true (c2.symm.trans (Nat.ble_eq_true_of_le z))
    refine iop_fdiv pins s σ H _ _ v u Q I rx ry ⟨i, j, rfl, rfl, ⟨hj, by omega⟩, ?_⟩
    have := rd.fine q l _ VR.mk_int
    rw [Int.fdiv_eq_ediv_of_nonneg _ (Int.le_of_lt hj)] at this
    exact this
  | mod =>
    have hj := pos (.inr rfl)
    obtain ⟨c, q⟩ := rdnif q
    refine iop_mod pins s σ H _ _ v u Q I rx ry ⟨i, j, rfl, rfl, hj, ?_⟩
    have := rd.fine q l _ VR.mk_int
    rw [Int.fmod_eq_emod_of_nonneg _ (Int.le_of_lt hj)] at this
    exact this
  | pow => exact absurd rfl np
theorem aug_clo {K : PySem.W.Frag} (o : Bop) (ws : List W) (y : W) (h1 : Hw) {ρ : List Addr} {H : Hp} {f : W → Hw → R (Env × Fl)} {P : Env × Fl → List Addr → Hw → Hp → Prop} : ¬ rd K ct Wx ρ H ((augOp o (.clo ws) y h1).bind f) P := by
  have : augOp o (.clo ws) y h1 = .err := by cases o <;> rfl
  rw [this]
  exact rderr
def augK (o : Bop) (i : Nat) (m : Env → Hw → R W) (env : Env) (h : Hw) : R (Env × Fl) := match env[i]? with
  | some (some x) => (m env h).bind fun y h1 => (augOp o x y h1).bind fun z h2 => .ok (env.set i (some z), .nx) h2
  | _ => .err
theorem s_aug {i : Nat} {x : Str} {px : Pos} (o : Bop) (hN : X.N.Nodup) (hi : X.N[i]? = some x) (hx : Loc X.env.scope x) (ha : PE X a (tE X.K ct (wx Wx) ma)) (hf : X.fn x = true ∨ X.env.scope.names.lookup x = some .local) :
    PS X (.AugAssign (.Name x px) (bopOf o) a pos) (tS X.K ct Wx (augK o i ma)) :=
  PS.mo (ps_aug hN hi hx ha (iopR (ct := ct) (Wx := Wx) o) hf) fun D σ H ⟨env, ρ, h, er, l, q⟩ => by
    cases e : env[i]? with
    | none => simp only [augK, e] at q; exact absurd q rderr
    | some ow =>
      cases ow with
      | none => simp only [augK, e] at q; exact absurd q rderr
      | some w =>
        simp only [augK, e] at q
        obtain ⟨v, ev, qv⟩ := er.get i w e
        refine ⟨v, ev, stepE (Wx := wx Wx) er l q fun y ρ1 h1 H1 s1 l1 er1 q1 u qu => ⟨ρ1, h1, w, y, l1, (qv.vr fun ws z => by subst z; exact absurd q1 (aug_clo o ws y h1)).mv l s1, qu, (rd.bind q1).imp fun z ρ2 h2 H2 s2 l2 q2 t qt => ?_⟩⟩
        exact rd.fine q2 l2 _ ((er1.mv l1 s2).set i qt)
theorem s_augI {p1 : Pos} (o : Bop) (hu : X.A.units + 65 < cLine) (ha : PE X a (tE X.K ct (wx Wx) ma)) (hb : PE X b (tE X.K ct (wx Wx) mb)) (hc : PE X c (tE X.K ct (wx Wx) mc))
    (has : ∀ ov iv new, augStore b ov iv new = (do holding [new, ov, iv] (setItem ov iv new); release [new, ov, iv] []; pure .next)) :
    PS X (.AugAssign (.Subscript a b p1) (bopOf o) c pos) (tS X.K ct Wx fun env h => (ma env h).bind fun x h1 => (mb env h1).bind fun y h2 => (idxOp x y h2).bind fun z h3 => (mc env h3).bind fun v h4 => (augOp o z v h4).bind fun r h5 => setK env (setOp x y r h5)) :=
  PS.mo (ps_augS (pos := pos) ha hb (getR (ct := ct) (Wx := Wx) hu) hc (iopR (ct := ct) (Wx := Wx) o) (setR hu) has) fun D σ H ⟨env, ρ, h, er, l, q⟩ =>
    stepE (Wx := wx Wx) er l q fun x ρ1 h1 H1 s1 l1 er1 q1 v qv => stepE (Wx := wx Wx) er1 l1 q1 fun y ρ2 h2 H2 s2 l2 er2 q2 u qu =>
      ⟨ρ2, h2, x, y, l2, qv.mv l1 s2, qu, (rd.bind q2).imp fun z ρ3 h3 H3 s3 l3 q3 t qt => stepE (Wx := wx Wx) (er2.mv l2 s3) l3 q3 fun e ρ4 h4 H4 s4 l4 er4 q4 f qf =>
        ⟨ρ4, h4, z, e, l4, qt.mv l3 s4, qf, (rd.bind q4).imp fun r ρ5 h5 H5 s5 l5 q5 g qg => by
          cases e : setOp x y r h5 with
          | none => simp only [setK, e] at q5; exact absurd q5 rderr
          | some h6 =>
            simp only [setK, e] at q5
            exact ⟨ρ5, h5, x, y, r, h6, l5, ((((qv.mv l1 s2).mv l2 s3).mv l3 s4).mv l4 s5), (((qu.mv l2 s3).mv l3 s4).mv l4 s5), qg, e, fun H' s' l' => q5 ρ5 H' s' l' σ ((er4.mv l4 s5).mv l5 s')⟩⟩⟩
theorem s_if {t u : List Stmt} (hc : PT X c (tT X.K ct (wx Wx) tc)) (ha : PSs X t (tS X.K ct Wx m1)) (hb : PSs X u (tS X.K ct Wx m2)) :
    PS X (.If c t u pos) (tS X.K ct Wx fun env h => (tc env h).bind fun k h1 => bif k then m1 env h1 else m2 env h1) :=
  PS.mo (ps_if hc ha hb) fun D σ H ⟨env, ρ, h, er, l, q⟩ => stepT (Wx := wx Wx) er l q fun k ρ1 h1 H1 s1 l1 er1 q1 => by
    cases k with
    | true => exact ⟨env, ρ1, h1, er1, l1, q1⟩
    | false => exact ⟨env, ρ1, h1, er1, l1, q1⟩
theorem s_whl {body : List Stmt} (wf : Nat) (hp : PassesOwn (model X.prog X.w) X.A X.env X.xe) (hc : PT X c (tT X.K ct (wx Wx) tc)) (hb : PSs X body (tS X.K ct Wx m1)) : PS X (.While c body [] pos) (tS X.K ct Wx (whlS tc m1 wf)) :=
  PS.mo (ps_while hp hc hb) fun D σ H ⟨env, ρ, h, er, l, q⟩ => by
    refine ⟨fun n σ H => ∃ env ρ h, ER X.K ρ H env σ ∧ Rel X.K ρ h H ∧ rd X.K ct Wx ρ H (whlS tc m1 n env h) (DP X.K D), ⟨wf, env, ρ, h, er, l, q⟩, ?_⟩
    rintro n σ H ⟨env, ρ, h, er, l, q⟩
    cases n with
    | zero => exact absurd q rderr
    | succ n =>
      refine stepT (Wx := wx Wx) (f := fun b h1 => bif b then (m1 env h1).bind fun p h2 => (match p.2 with
        | .nx => whlS tc m1 n p.1 h2
        | .ct => whlS tc m1 n p.1 h2
        | .bk => .ok (p.1, .nx) h2
        | .rt w => .ok (p.1, .rt w) h2) else .ok (env, .nx) h1) er l q fun k ρ1 h1 H1 s1 l1 er1 q1 => ?_
      cases k with
      | false => exact rd.fine q1 l1 σ er1
      | true =>
        refine ⟨fun σ' H' => ∃ env ρ h, ER X.K ρ H' env σ' ∧ Rel X.K ρ h H' ∧ rd X.K ct Wx ρ H' (whlS tc m1 n env h) (DP X.K D), fun σ' H' z => ⟨n, Nat.lt_succ_self n, z⟩, env, ρ1, h1, er1, l1, (rd.bind q1).imp fun p ρ2 h2 H2 s2 l2 q2 => ?_⟩
        obtain ⟨env2, f⟩ := p
        intro σ2 er2
        cases f with
        | nx => exact ⟨env2, ρ2, h2, er2, l2, q2⟩
        | ct => exact ⟨env2, ρ2, h2, er2, l2, q2⟩
        | bk => exact rd.fine q2 l2 σ2 er2
        | rt w => exact rd.fine q2 l2 σ2 er2
def loopK (k : ItK) (f : W → Env → Hw → R (Env × Fl)) (env : Env) (ws : List W) (h1 : Hw) : R (Env × Fl) := match iterOf k ws h1 with
  | some p => loopS p.2 f p.1 env h1
  | none => .err
def asgS (t : Tg) (m : Env → Hw → R (Env × Fl)) (x : W) (env : Env) (h : Hw) : R (Env × Fl) := match asg t x env h with
  | some s3 => m s3 h
  | none => .err
theorem loop_g {gs : List (Nat × List W)} {f : W → Env → Hw → R (Env × Fl)} {K : PySem.W.Frag} {ρ : List Addr} {H : Hp} {P : Env × Fl → List Addr → Hw → Hp → Prop} : ∀ {xs : List W} {env : Env} {h : Hw}, rd K ct Wx ρ H (loopS gs f xs env h) P → okG gs h = true
  | [], _, _, q => (rdif q).1
  | _ :: _, _, _, q => (rdif q).1
theorem s_for {tg iter : Expr} {body : List Stmt} {k : ItK} {mes : Env → Hw → R (List W)} {t : Tg} (hp : PassesOwn (model X.prog X.w) X.A X.env X.xe) (hc : X.calm = true) (hi : PI X tg iter (tI X.K ct (wx Wx) k mes)) (hg : PG X tg (tG X.K t)) (hb : PSs X body (tS X.K ct Wx m1))
    (hs : ∀ x, foldedSetIterable iter X.env x = pure x) : PS X (.For tg iter body [] pos) (tS X.K ct Wx fun env h => (mes env h).bind fun ws h1 => loopK k (asgS t m1) env ws h1) := by
  refine PS.mo (ps_for (pos := pos) hp hc hi hg hb hs) fun D σ H ⟨env, ρ, h, er, l, q⟩ => ⟨env, ρ, h, er, l, (rd.bind q).imp fun ws ρ1 h1 H1 s1 l1 q1 => ?_⟩
  cases e : iterOf k ws h1 with
  | none => simp only [loopK, e] at q1; exact absurd q1 rderr
  | some p =>
    simp only [loopK, e] at q1
    refine ⟨p, rfl, fun J wk => ?_⟩
    have er1 := er.mv l s1
    -- the walk
    have walk : Walk J p.1.length (fun H => ∃ ρ h, Stp ρ1 ρ H1 H ∧ Rel X.K ρ h H ∧ okG p.2 h = true) (fun i H x H' => J.yld i H x H') :=
      ⟨fun i H hi ⟨ρ, h, s, l, g⟩ => wk.go ρ h H i s l g hi, fun H ⟨ρ, h, s, l, g⟩ => wk.st ρ h H s l g, fun i H x H' hi _ y => y⟩
    refine for_it walk (fun i σ H => ∃ env ρ h, ER X.K ρ H env σ ∧ Stp ρ1 ρ H1 H ∧ Rel X.K ρ h H ∧ rd X.K ct Wx ρ H (loopS p.2 (asgS t m1) (p.1.drop i) env h) (DP X.K D)) ⟨env, ρ1, h1, er1, Stp.refl, l1, q1⟩ (fun i σ H hi z => ?_) (fun i x σ H H' hi z y => ?_) (fun σ H z => ?_)
    · obtain ⟨env, ρ, h, er, s, l, q⟩ := z
      exact ⟨ρ, h, s, l, loop_g q⟩
    · obtain ⟨env, ρ, h, er, s, l, q⟩ := z
      have g := loop_g q
      obtain ⟨w, ew, s2, l2, qv⟩ := wk.yl ρ h H i x H' s l g hi y
      have ed : p.1.drop i = w :: p.1.drop (i + 1) := by
        rw [List.drop_eq_getElem_cons hi]
        rw [List.getElem?_eq_getElem hi] at ew
        rw [Option.some.inj ew]
      rw [ed] at q
      obtain ⟨_, q⟩ := rdif q
      have q := q.mv s2
      cases ea : asg t w env h with
      | none =>
        have : asgS t m1 w env h = .err := by simp only [asgS, ea]
        rw [this] at q
        exact absurd q rderr
      | some s3 =>
        have : asgS t m1 w env h = m1 s3 h := by simp only [asgS, ea]
        rw [this] at q
        refine ⟨env, ρ, h, w, s3, er.mv l s2, l2, qv, ea, fun σ3 er3 _ => ⟨s3, ρ, h, er3, l2, (rd.bind q).imp fun pr ρ4 h4 H4 s4 l4 q4 => ?_⟩⟩
        obtain ⟨env4, f⟩ := pr
        intro σ4 er4
        cases f with
        | nx => exact ⟨env4, ρ4, h4, er4, (s.trans s2).trans s4, l4, q4⟩
        | ct => exact ⟨env4, ρ4, h4, er4, (s.trans s2).trans s4, l4, q4⟩
        | bk => exact rd.fine q4 l4 σ4 er4
        | rt w => exact rd.fine q4 l4 σ4 er4
    · obtain ⟨env, ρ, h, er, s, l, q⟩ := z
      rw [List.drop_length] at q
      obtain ⟨_, q⟩ := rdif q
      exact rd.fine q l σ er
end
end TL
/-! Comprehensions; dict displays. -/
namespace TL
open PySem PySem.Spec PyProof.Rows L2
variable [TabI] [CloI]
section
variable {K : PySem.W.Frag} {ct : Nat → Option Value} {Wx : XK} {ρ ρ' ρ1 : List Addr} {h : Hw} {H H' H1 : Hp}
mutual
theorem VR.mw (pre : ρ <+: ρ') (fz : ∀ a o u, H a = some (.frz o u) → H' a = some (.frz o u)) : ∀ {w : W} {v : V}, VR K ρ H w v → VR K ρ' H' w v
  | .non, _, e => by unfold VR at e ⊢; exact e
  | .bl _, _, e => by unfold VR at e ⊢; exact e
  | .int _, _, e => by unfold VR at e ⊢; exact e
  | .str _, _, e => by unfold VR at e ⊢; exact e
  | .tup ws, _, e => by
    unfold VR at e ⊢
    obtain ⟨a, vs, e1, e2, e3⟩ := e
    exact ⟨a, vs, e1, e2.elim (fun ⟨o, q, d⟩ => .inl ⟨o, fz _ _ _ q, d⟩) .inr, VRs.mw pre fz e3⟩
  | .frl ws, _, e => by
    unfold VR at e ⊢
    obtain ⟨a, vs, e1, e2, e3⟩ := e
    exact ⟨a, vs, e1, e2.elim (fun ⟨o, q⟩ => .inl ⟨o, fz _ _ _ q⟩) .inr, VRs.mw pre fz e3⟩
  | .ref n, _, e => by
    unfold VR at e ⊢
    obtain ⟨a, e1, e2⟩ := e
    exact ⟨a, pre_get pre e1, e2⟩
theorem VRs.mw (pre : ρ <+: ρ') (fz : ∀ a o u, H a = some (.frz o u) → H' a = some (.frz o u)) : ∀ {ws : List W} {vs : List V}, VRs K ρ H ws vs → VRs K ρ' H' ws vs
  | [], _, e => by unfold VRs at e ⊢; exact e
  | _ :: _, _, e => by
    unfold VRs at e ⊢
    obtain ⟨v, q, e1, e2, e3⟩ := e
    exact ⟨v, q, e1, VR.mw pre fz e2, VRs.mw pre fz e3⟩
end
theorem KRs.mw (pre : ρ <+: ρ') (fz : ∀ a o u, H a = some (.frz o u) → H' a = some (.frz o u)) : ∀ {ws : List (L2.Key × W)} {vs : List (L2.Key × V)}, KRs K ρ H ws vs → KRs K ρ' H' ws vs
  | [], _, e => by unfold KRs at e ⊢; exact e
  | (_, _) :: _, _, e => by
    unfold KRs at e ⊢
    obtain ⟨v, q, e1, e2, e3⟩ := e
    exact ⟨v, q, e1, e2.mw pre fz, KRs.mw pre fz e3⟩
/-- a list that the machine does not know is written -/
theorem over {D : Addr} {acc : List V} {o : HO} (hD : H D = some (.lst acc)) : ∀ a ob u, H a = some (.frz ob u) → upd H D o a = some (.frz ob u) := fun a ob u e => by
  have na : a ≠ D := by rintro rfl; rw [hD] at e; cases e
  rw [upd_ne na]; exact e
theorem Rel.over (l : Rel K ρ h H) {D : Addr} {acc : List V} (o : HO) (hD : H D = some (.lst acc)) (n : D ∉ ρ) : Rel K ρ h (upd H D o) := by
  refine ⟨l.len, l.nd, fun m a e => ?_, l.out, (NoZ.lst hD).tabs l.tab⟩
  obtain ⟨ob, e1, q⟩ := l.ob m a e
  have na : a ≠ D := fun z => n (z ▸ List.mem_of_getElem? e)
  refine ⟨ob, e1, ?_⟩
  cases ob with
  | lst xs => obtain ⟨vs, q1, q2⟩ := q; exact ⟨vs, by rw [upd_ne na]; exact q1, q2.mw (List.prefix_refl _) (TL.over hD)⟩
  | dct kvs => obtain ⟨vs, q1, q2⟩ := q; exact ⟨vs, by rw [upd_ne na]; exact q1, q2.mw (List.prefix_refl _) (TL.over hD)⟩
theorem Stp.over (s : Stp ρ1 ρ H1 H) {D : Addr} {acc : List V} (o : HO) (hD : H D = some (.lst acc)) (n1 : H1 D = none) : Stp ρ1 ρ H1 (upd H D o) := by
  refine ⟨s.pre, fun a ob e m nt => ?_, s.nw, fun a ob u e => TL.over hD a ob u (s.fz a ob u e), fun a ps e => ?_⟩
  · have na : a ≠ D := by rintro rfl; rw [n1] at e; cases e
    rw [upd_ne na]; exact s.fr a ob e m nt
  · obtain ⟨ps', e'⟩ := s.tb a ps e
    exact ⟨ps', by rw [upd_ne ((NoZ.lst hD).ne e' (.inr (.inl ⟨_, rfl⟩)))]; exact e'⟩
/-- the machine learns of a list -/
theorem Rel.adopt (l : Rel K ρ h H) {D : Addr} {acc : List V} {ys : List W} (hD : H D = some (.lst acc)) (n : D ∉ ρ) (q : VRs K ρ H ys acc) : Rel K (ρ ++ [D]) (h.new (.lst ys)) H := by
  have pre : ρ <+: ρ ++ [D] := List.prefix_append _ _
  have kp : ∀ a ob u, H a = some (.frz ob u) → H a = some (.frz ob u) := fun _ _ _ e => e
  refine ⟨by rw [List.length_append, l.len]; rfl, ?_, fun m a e => ?_, fun m hm => ?_, l.tab⟩
  · rw [List.nodup_append]
    exact ⟨l.nd, by simp, fun a m b m' z => by rw [List.mem_singleton.mp m'] at z; exact n (z ▸ m)⟩
  · by_cases hn : m < ρ.length
    · rw [List.getElem?_append_left hn] at e
      obtain ⟨ob, e1, q1⟩ := l.ob m a e
      refine ⟨ob, by rw [Hw.new_ne h _ (by rw [← l.len]; omega)]; exact e1, ?_⟩
      cases ob with
      | lst xs => obtain ⟨vs, q1, q2⟩ := q1; exact ⟨vs, q1, q2.mw pre kp⟩
      | dct kvs => obtain ⟨vs, q1, q2⟩ := q1; exact ⟨vs, q1, q2.mw pre kp⟩
    · have hl : m = ρ.length := by
        have := (List.getElem?_eq_some_iff.mp e).1
        rw [List.length_append] at this
        simp at this
        omega
      subst hl
      rw [List.getElem?_append_right (Nat.le_refl _)] at e
      simp at e
      subst e
      exact ⟨.lst ys, by rw [l.len]; exact Hw.new_same h _, (show OR K (ρ ++ [D]) H D (.lst ys) from ⟨acc, hD, q.mw pre kp⟩)⟩
  · have hn' : h.n + 1 ≤ m := hm
    rw [Hw.new_ne h _ (by omega)]
    exact l.out m (by omega)
theorem rd_eq {α : Type} {r : R α} {a : α} (e : r = .ok a h) : rd K ct Wx ρ H r (fun a' _ h' _ => a' = a ∧ h' = h) := by
  subst e
  exact fun _ _ _ _ => ⟨rfl, rfl⟩
end
def optC {α : Type} (o : Option α) (r : List α) : List α := match o with
  | some w => w :: r
  | none => r
def turnC (tg : Tg) (m : Env → Hw → R Bool) (me : Env → Hw → R W) (s0 : Env) (x : W) (h2 : Hw) : R (Option W) := match asg tg x s0 h2 with
  | some s2 => (m s2 h2).bind fun c h3 => bif c then (me s2 h3).bind fun w h4 => .ok (some w) h4 else .ok none h3
  | none => .err
def compK (k : ItK) (f : W → Hw → R (Option W)) (ws : List W) (h1 : Hw) : R W := match iterOf k ws h1 with
  | some p => bif szOk p.1.length then (loopC p.2 f p.1 h1).bind fun ys h5 => .ok (.ref h5.n) (h5.new (.lst ys)) else .err
  | none => .err
theorem bind_ok {α β : Type} {r : R α} {f : α → Hw → R β} {b : β} {h : Hw} (e : r.bind f = .ok b h) : ∃ a h1, r = .ok a h1 ∧ f a h1 = .ok b h := by
  cases r with
  | ok a h1 => exact ⟨a, h1, rfl, e⟩
  | exc c d h1 => cases e
  | err => cases e
theorem nox_ok {α : Type} {r : R α} {a : α} {h : Hw} (e : r.nox = .ok a h) : r = .ok a h := by
  cases r with
  | ok a h1 => exact e
  | exc c d h1 => cases e
  | err => cases e
theorem loopC_cons {gs : List (Nat × List W)} {f : W → Hw → R (Option W)} {x : W} {xs : List W} {h : Hw} {ys : List W} {h5 : Hw} (e : loopC gs f (x :: xs) h = .ok ys h5) :
    okG gs h = true ∧ ∃ o h1 r, f x h = .ok o h1 ∧ loopC gs f xs h1 = .ok r h5 ∧ ys = optC o r := by
  unfold loopC at e
  cases g : okG gs h with
  | false => rw [g] at e; cases e
  | true =>
    rw [g, cond_true] at e
    obtain ⟨o, h1, e1, e2⟩ := bind_ok e
    obtain ⟨r, h2, e3, e4⟩ := bind_ok e2
    cases o with
    | none => cases e4; exact ⟨rfl, none, h1, r, nox_ok e1, e3, rfl⟩
    | some w => cases e4; exact ⟨rfl, some w, h1, r, nox_ok e1, e3, rfl⟩
theorem loopC_nil {gs : List (Nat × List W)} {f : W → Hw → R (Option W)} {h : Hw} {ys : List W} {h5 : Hw} (e : loopC gs f [] h = .ok ys h5) : okG gs h = true ∧ ys = [] ∧ h = h5 := by
  unfold loopC at e
  cases g : okG gs h with
  | false => rw [g] at e; cases e
  | true => rw [g, cond_true] at e; cases e; exact ⟨rfl, rfl, rfl⟩
theorem loopC_g {gs : List (Nat × List W)} {f : W → Hw → R (Option W)} {xs : List W} {h : Hw} {ys : List W} {h5 : Hw} (e : loopC gs f xs h = .ok ys h5) : okG gs h = true := by
  cases xs with
  | nil => exact (loopC_nil e).1
  | cons x xs => exact (loopC_cons e).1
section
variable {X : Cx} {ct : Nat → Option Value} {Wx : WX} {pos : Pos}
/-- no exception in a block -/
abbrev wF : WX := fun _ _ _ _ => False
theorem lc_read {K : PySem.W.Frag} {k : ItK} {mes : Env → Hw → R (List W)} {t : Tg} {mi : Env → Hw → R Bool} {me : Env → Hw → R W} {own : List Nat} (hix : ∀ i ∈ t.ix, i ∈ own) {σ : L2.St} {H : Hp} {Q : VK} {env : Env} {ρ : List Addr} {h : Hw} (er : ER K ρ H env σ) (l : Rel K ρ h H)
    (q : rd K ct (fun c d => Wx c d σ) ρ H ((mes env h).bind fun ws h1 => compK k (turnC t mi me (wipeW env own)) ws h1) (QW K Q)) : tLc (tI K ct Wx k mes) (tG K t) (tT K ct wF mi) (tE K ct wF me) own σ H Q := by
  refine ⟨env, ρ, h, er, l, (rd.bind q).imp fun ws ρ1 h1 H1 s1 l1 q1 => ?_⟩
  cases e : iterOf k ws h1 with
  | none => simp only [compK, e] at q1; exact absurd q1 rderr
  | some p =>
    simp only [compK, e] at q1
    obtain ⟨csz, q1⟩ := rdif q1
    have csz : p.1.length ≤ 16777216 := Nat.le_of_ble_eq_true csz
    refine ⟨p, rfl, fun J wk D nD => ?_⟩
    have er1 := er.mv l s1
    cases eL : loopC p.2 (turnC t mi me (wipeW env own)) p.1 h1 with
    | err => rw [eL] at q1; exact absurd q1 rderr
    | exc c d h' =>
      exfalso
      have nx : ∀ (gs : List (Nat × List W)) (f : W → Hw → R (Option W)) (xs : List W) (h : Hw) c d h', loopC gs f xs h ≠ .exc c d h' := fun gs f xs => by
        induction xs with
        | nil => intro h c d h' z; unfold loopC at z; cases g : okG gs h <;> rw [g] at z <;> cases z
        | cons x xs ih =>
          intro h c d h' z
          unfold loopC at z
          cases g : okG gs h with
          | false => rw [g] at z; cases z
          | true =>
            rw [g, cond_true] at z
            cases e1 : f x h with
            | err => rw [e1] at z; cases z
            | exc _ _ _ => rw [e1] at z; cases z
            | ok o h2 =>
              rw [e1] at z
              have z : (loopC gs f xs h2).bind (fun ys h3 => .ok (match o with | some w => w :: ys | none => ys) h3) = .exc c d h' := z
              cases e2 : loopC gs f xs h2 with
              | err => rw [e2] at z; cases z
              | ok _ _ => rw [e2] at z; cases z
              | exc c2 d2 h3 => exact ih h2 c2 d2 h3 e2
      exact nx _ _ _ _ _ _ _ eL
    | ok ys h5 =>
      rw [eL] at q1
      have q1 : rd K ct (fun c d => Wx c d σ) ρ1 H1 (.ok (.ref h5.n) (h5.new (.lst ys))) (QW K Q) := q1
      have walk : Walk J p.1.length (fun H => ∃ ρ h, Stp ρ1 ρ H1 H ∧ Rel K ρ h H ∧ okG p.2 h = true) (fun i H x H' => J.yld i H x H') :=
        ⟨fun i H hi ⟨ρ, h, s, l, g⟩ => wk.go ρ h H i s l g hi, fun H ⟨ρ, h, s, l, g⟩ => wk.st ρ h H s l g, fun i H x H' hi _ y => y⟩
      refine lc_it walk (fun i H => ∃ ρ h acc y0 y1, Stp ρ1 ρ H1 H ∧ Rel K ρ h H ∧ H D = some (.lst acc) ∧ D ∉ ρ ∧ VRs K ρ H y0 acc ∧ y0.length ≤ i ∧ loopC p.2 (turnC t mi me (wipeW env own)) (p.1.drop i) h = .ok y1 h5 ∧ y0 ++ y1 = ys)
        ⟨ρ1, h1, [], [], ys, Stp.laid D _ nD, l1.laid D _ nD, upd_same, fun m => l1.trk m nD, VRs.nil_iff.mpr rfl, Nat.le_refl _, eL, rfl⟩ (fun i H hi z => ?_) (fun i x H H' hi z y => ?_) (fun H z => ?_)
      · obtain ⟨ρ, h, acc, y0, y1, s, l, _, _, _, _, eq, _⟩ := z
        exact ⟨ρ, h, s, l, loopC_g eq⟩
      · obtain ⟨ρ, h, acc, y0, y1, s, l, hD, nm, qa, hlen, eq, ey⟩ := z
        have g := loopC_g eq
        obtain ⟨w, ew, s2, l2, qv⟩ := wk.yl ρ h H i x H' s l g hi y
        have ed : p.1.drop i = w :: p.1.drop (i + 1) := by
          rw [List.drop_eq_getElem_cons hi]
          rw [List.getElem?_eq_getElem hi] at ew
          rw [Option.some.inj ew]
        rw [ed] at eq
        obtain ⟨_, o, h6, r, ef, el, eo⟩ := loopC_cons eq
        have hD2 := s2.fr D _ hD nm (fun _ z => nomatch z)
        have s3 := s.trans s2
        have qa2 := qa.mv l s2
        cases ea : asg t w (wipeW env own) h with
        | none => simp only [turnC, ea] at ef; cases ef
        | some e2 =>
          simp only [turnC, ea] at ef
          refine ⟨wipeW env own, ρ, h, w, e2, (er1.mv l1 s3).wipe own, l2, qv, ea, fun σ2 er2 kp => ⟨by rw [kp own hix, wipe_wipe], ?_⟩⟩
          refine stepT (Wx := wF) (ct := ct) (P := fun a' _ h' _ => a' = o ∧ h' = h6) er2 l2 (rd_eq ef) fun c ρ3 h3 H3 s4 l3 er3 q3 => ?_
          have nm3 : D ∉ ρ3 := fun m => by have := s4.nw D m nm; rw [hD2] at this; cases this
          have hD3 := s4.fr D _ hD2 nm (fun _ z => nomatch z)
          cases c with
          | false =>
            obtain ⟨rfl, rfl⟩ := rd.fine q3 l3
            exact ⟨ρ3, h3, acc, y0, r, s3.trans s4, l3, hD3, nm3, qa2.mv l2 s4, Nat.le_succ_of_le hlen, el, by rw [← ey, eo]; rfl⟩
          | true =>
            refine stepE (Wx := wF) (ct := ct) (P := fun a' _ h' _ => a' = o ∧ h' = h6) er3 l3 q3 fun w4 ρ4 h4 H4 s5 l4 er4 q4 v4 qv4 => ?_
            obtain ⟨rfl, rfl⟩ := rd.fine q4 l4
            have nm4 : D ∉ ρ4 := fun m => by have := s5.nw D m nm3; rw [hD3] at this; cases this
            have hD4 := s5.fr D _ hD3 nm3 (fun _ z => nomatch z)
            have sall := (s3.trans s4).trans s5
            have qa4 := (qa2.mv l2 s4).mv l3 s5
            refine ⟨acc, hD4, ?_, ρ4, h4, acc ++ [v4], y0 ++ [w4], r, sall.over _ hD4 nD, l4.over _ hD4 nm4, upd_same, nm4, ?_, ?_, el, ?_⟩
            · rw [qa4.length, sizeLine_eq]; omega
            · exact (qa4.app (VRs.cons_iff.mpr ⟨v4, [], rfl, qv4, VRs.nil_iff.mpr rfl⟩)).mw (List.prefix_refl _) (TL.over hD4)
            · rw [List.length_append]; simp; omega
            · rw [← ey, eo, List.append_assoc]; rfl
      · obtain ⟨ρ, h, acc, y0, y1, s, l, hD, nm, qa, hlen, eq, ey⟩ := z
        rw [List.drop_length] at eq
        obtain ⟨_, rfl, rfl⟩ := loopC_nil eq
        rw [List.append_nil] at ey
        subst ey
        refine q1 (ρ ++ [D]) H ⟨s.pre.trans (List.prefix_append _ _), s.fr, fun a m n => ?_, s.fz, s.tb⟩ (l.adopt hD nm qa) _ (VR.mk_ref ?_)
        · rcases List.mem_append.mp m with m | m
          · exact s.nw a m n
          · rw [List.mem_singleton.mp m]; exact nD
        · rw [← l.len, List.getElem?_append_right (Nat.le_refl _)]; simp
theorem w_lc {elt tg iter : Expr} {ifs : List Expr} {scope : Scope} {own : List (Str × Nat)} {k : ItK} {mes : Env → Hw → R (List W)} {t : Tg} {mi : Env → Hw → R Bool} {me : Env → Hw → R W} (hc : X.calm = true) (hN : X.N.Nodup) (hi : PI X tg iter (tI X.K ct Wx k mes)) (ok : BlkOk X.N X.env.scope scope own) (hix : ∀ i ∈ t.ix, i ∈ own.map (·.2))
    (hg : ∀ (s : Shared) (H : Hp) (C : Addr) (cl : List (Str × Addr)) (fp : List Addr), PG (X.blk s H scope (compEnvC scope cl C X.env) fp) tg (tG X.K t)) (ht : ∀ (s : Shared) (H : Hp) (C : Addr) (cl : List (Str × Addr)) (fp : List Addr), PTs (X.blk s H scope (compEnvC scope cl C X.env) fp) ifs (tT X.K ct wF mi))
    (he : ∀ (s : Shared) (H : Hp) (C : Addr) (cl : List (Str × Addr)) (fp : List Addr), PE (X.blk s H scope (compEnvC scope cl C X.env) fp) elt (tE X.K ct wF me)) (hs : ∀ x, foldedSetIterable iter X.env x = pure x) :
    PE X (.ListComp elt [⟨tg, iter, ifs, 0⟩] scope pos) (tE X.K ct Wx fun env h => (mes env h).bind fun ws h1 => compK k (turnC t mi me (wipeW env (own.map (·.2)))) ws h1) := by
  refine ⟨fun pins s σ H Q I ⟨env, ρ, h, er, l, q⟩ => (pe_lc (pos := pos) hc hN hi ok hg ht he hs).run pins s σ H Q I ?_⟩
  exact lc_read hix er l q
theorem s_setLc {i : Nat} {y : Str} {py spos : Pos} {Wx : XK} {elt tg iter : Expr} {ifs : List Expr} {scope : Scope} {own : List (Str × Nat)} {k : ItK} {mes : Env → Hw → R (List W)} {t : Tg} {mi : Env → Hw → R Bool} {me : Env → Hw → R W} (hc : X.calm = true) (hN : X.N.Nodup)
    (hy : X.N[i]? = some y) (hyl : X.env.scope.names.lookup y = some .local) (hsw : swapsWith (.ListComp elt [⟨tg, iter, ifs, 0⟩] scope pos) (some (.Name y py)) spos.line X.env = pure true) (hi : PI X tg iter (tI X.K ct (wx Wx) k mes)) (ok : BlkOk X.N X.env.scope scope own) (hix : ∀ i ∈ t.ix, i ∈ own.map (·.2))
    (hg : ∀ (s : Shared) (H : Hp) (C : Addr) (cl : List (Str × Addr)) (fp : List Addr), PG (X.blk s H scope (compEnvC scope cl C X.env) fp) tg (tG X.K t)) (ht : ∀ (s : Shared) (H : Hp) (C : Addr) (cl : List (Str × Addr)) (fp : List Addr), PTs (X.blk s H scope (compEnvC scope cl C X.env) fp) ifs (tT X.K ct wF mi))
    (he : ∀ (s : Shared) (H : Hp) (C : Addr) (cl : List (Str × Addr)) (fp : List Addr), PE (X.blk s H scope (compEnvC scope cl C X.env) fp) elt (tE X.K ct wF me)) (hs : ∀ x, foldedSetIterable iter X.env x = pure x) :
    PS X (.Assign [.Name y py] (.ListComp elt [⟨tg, iter, ifs, 0⟩] scope pos) spos) (tS X.K ct Wx fun env h => ((mes env h).bind fun ws h1 => compK k (turnC t mi me (wipeW env (own.map (·.2)))) ws h1).bind fun w h1 => .ok (env.set i (some w), .nx) h1) :=
  PS.mo (ps_setLc hc hN hy hyl hsw hi ok hg ht he hs) fun D σ H ⟨env, ρ, h, er, l, q⟩ =>
    lc_read (Wx := wx Wx) (Q := fun x H1 => gName i x σ H1 D.nx) hix er l ((rd.bind q).imp fun w ρ1 h1 H1 s1 l1 q1 v qv => rd.fine q1 l1 _ ((er.mv l s1).set i qv))
end
end TL
/-! Calls and defs: what is made in a heap of its own; the promise of a def; dict displays. -/
namespace TL
open PySem PySem.Spec PyProof.Rows L2
variable [TabI] [CloI]
section
variable {K : PySem.W.Frag} {ct : Nat → Option Value} {Wx : XK} {ρ ρ' : List Addr} {h g : Hw} {H H' : Hp}
/-! ### values without references -/
mutual
theorem VR.nr : ∀ {w : W} {v : V}, w.noRef = true → VR K ρ H w v → VR K ρ' H w v
  | .non, _, _, q => by unfold VR at q ⊢; exact q
  | .bl _, _, _, q => by unfold VR at q ⊢; exact q
  | .int _, _, _, q => by unfold VR at q ⊢; exact q
  | .str _, _, _, q => by unfold VR at q ⊢; exact q
  | .tup xs, _, e, q => by
    unfold VR at q ⊢
    obtain ⟨a, vs, e1, e2, e3⟩ := q
    exact ⟨a, vs, e1, e2, VRs.nr (by simpa only [W.noRef] using e) e3⟩
  | .frl xs, _, e, q => by
    unfold VR at q ⊢
    obtain ⟨a, vs, e1, e2, e3⟩ := q
    exact ⟨a, vs, e1, e2, VRs.nr (by simpa only [W.noRef] using e) e3⟩
  | .ref n, _, e, _ => by simp [W.noRef] at e
  | .clo _, _, e, _ => by simp [W.noRef] at e
theorem VRs.nr : ∀ {ws : List W} {vs : List V}, W.noRefs ws = true → VRs K ρ H ws vs → VRs K ρ' H ws vs
  | [], _, _, q => by unfold VRs at q ⊢; exact q
  | w :: ws, _, e, q => by
    unfold VRs at q ⊢
    obtain ⟨v, r, e1, e2, e3⟩ := q
    simp only [W.noRefs, Bool.and_eq_true] at e
    exact ⟨v, r, e1, VR.nr e.1 e2, VRs.nr e.2 e3⟩
end
mutual
theorem VR.ups {k : Nat} (hk : ρ.length = k) : ∀ {w : W} {v : V}, VR K ρ' H w v → VR K (ρ ++ ρ') H (w.up k) v
  | .non, _, q => by unfold W.up; unfold VR at q ⊢; exact q
  | .bl _, _, q => by unfold W.up; unfold VR at q ⊢; exact q
  | .int _, _, q => by unfold W.up; unfold VR at q ⊢; exact q
  | .str _, _, q => by unfold W.up; unfold VR at q ⊢; exact q
  | .tup xs, _, q => by
    unfold W.up
    unfold VR at q ⊢
    obtain ⟨a, vs, e1, e2, e3⟩ := q
    exact ⟨a, vs, e1, e2, VRs.ups hk e3⟩
  | .frl xs, _, q => by
    unfold W.up
    unfold VR at q ⊢
    obtain ⟨a, vs, e1, e2, e3⟩ := q
    exact ⟨a, vs, e1, e2, VRs.ups hk e3⟩
  | .ref n, _, q => by
    unfold W.up
    unfold VR at q ⊢
    obtain ⟨a, e1, e2⟩ := q
    exact ⟨a, by rw [List.getElem?_append_right (by omega), hk, Nat.add_sub_cancel]; exact e1, e2⟩
  | .clo _, _, q => by unfold VR at q; exact q.elim
theorem VRs.ups {k : Nat} (hk : ρ.length = k) : ∀ {ws : List W} {vs : List V}, VRs K ρ' H ws vs → VRs K (ρ ++ ρ') H (W.ups k ws) vs
  | [], _, q => by unfold W.ups; unfold VRs at q ⊢; exact q
  | w :: ws, _, q => by
    unfold W.ups
    unfold VRs at q ⊢
    obtain ⟨v, r, e1, e2, e3⟩ := q
    exact ⟨v, r, e1, VR.ups hk e2, VRs.ups hk e3⟩
end
theorem KRs.ups {k : Nat} (hk : ρ.length = k) : ∀ {ws : List (L2.Key × W)} {vs : List (L2.Key × V)}, KRs K ρ' H ws vs → KRs K (ρ ++ ρ') H (ws.map fun p => (p.1, p.2.up k)) vs
  | [], _, q => by unfold KRs at q; subst q; unfold KRs; rfl
  | (j, w) :: ws, _, q => by
    unfold KRs at q
    obtain ⟨v, r, rfl, e2, e3⟩ := q
    rw [List.map_cons]
    unfold KRs
    exact ⟨v, r, rfl, VR.ups hk e2, KRs.ups hk e3⟩
theorem Rel.nil (t : LamX.Tabs TabI.T H) : Rel K [] Hw.nil H := ⟨rfl, List.nodup_nil, fun n a e => by simp at e, fun n _ => rfl, t⟩
theorem app_n (hg : ∀ m, m < g.n → ∃ o, g.get m = some o) : ∀ i, i ≤ g.n → (Hw.app h g i).n = h.n + i
  | 0, _ => rfl
  | i + 1, hi => by
    obtain ⟨o, e⟩ := hg i (by omega)
    unfold Hw.app
    rw [e]
    show (Hw.app h g i).n + 1 = _
    rw [app_n hg i (by omega)]
    omega
theorem app_get (hg : ∀ m, m < g.n → ∃ o, g.get m = some o) : ∀ i, i ≤ g.n → ∀ j, (Hw.app h g i).get j = if j < h.n then h.get j else if j < h.n + i then (g.get (j - h.n)).map (HW.up h.n) else h.get j
  | 0, _, j => by
    unfold Hw.app
    split
    · rfl
    · rw [if_neg (by omega)]
  | i + 1, hi, j => by
    obtain ⟨o, e⟩ := hg i (by omega)
    have hn := app_n (h := h) hg i (by omega)
    unfold Hw.app
    rw [e]
    show ((Hw.app h g i).new (o.up h.n)).get j = _
    by_cases ej : j = h.n + i
    · subst ej
      have := Hw.new_same (Hw.app h g i) (o.up h.n)
      rw [hn] at this
      rw [this, if_neg (by omega), if_pos (by omega), show h.n + i - h.n = i by omega, e]
      rfl
    · rw [Hw.new_ne _ _ (by rw [hn]; omega), app_get hg i (by omega) j]
      by_cases h1 : j < h.n
      · rw [if_pos h1, if_pos h1]
      · rw [if_neg h1, if_neg h1]
        by_cases h2 : j < h.n + i
        · rw [if_pos h2, if_pos (by omega)]
        · rw [if_neg h2, if_neg (by omega)]
theorem Rel.app (l : Rel K ρ h H') (l' : Rel K ρ' g H') (dj : ∀ a ∈ ρ', a ∉ ρ) : Rel K (ρ ++ ρ') (h.app g g.n) H' := by
  have hg : ∀ m, m < g.n → ∃ o, g.get m = some o := fun m hm => by
    have hm2 : m < ρ'.length := by rw [l'.len]; exact hm
    obtain ⟨o, e, _⟩ := l'.ob m _ (List.getElem?_eq_getElem hm2)
    exact ⟨o, e⟩
  refine ⟨by rw [List.length_append, l.len, l'.len, app_n hg g.n (Nat.le_refl _)], ?_, fun n a e => ?_, fun n hn => ?_, l.tab⟩
  · rw [List.nodup_append]
    exact ⟨l.nd, l'.nd, fun a m b m' z => dj b m' (z ▸ m)⟩
  · by_cases h1 : n < ρ.length
    · rw [List.getElem?_append_left h1] at e
      obtain ⟨o, e1, q⟩ := l.ob n a e
      refine ⟨o, by rw [app_get hg g.n (Nat.le_refl _), if_pos (by rw [← l.len]; exact h1)]; exact e1, ?_⟩
      cases o with
      | lst xs => obtain ⟨vs, q1, q2⟩ := q; exact ⟨vs, q1, q2.mw (List.prefix_append _ _) fun _ _ _ e => e⟩
      | dct kvs => obtain ⟨vs, q1, q2⟩ := q; exact ⟨vs, q1, q2.mw (List.prefix_append _ _) fun _ _ _ e => e⟩
    · have hl := (List.getElem?_eq_some_iff.mp e).1
      rw [List.length_append] at hl
      rw [List.getElem?_append_right (by omega)] at e
      obtain ⟨o, e1, q⟩ := l'.ob _ a e
      have l1 := l.len
      have l2 := l'.len
      refine ⟨o.up h.n, by rw [app_get hg g.n (Nat.le_refl _), if_neg (by omega), if_pos (by omega), ← l1, e1]; rfl, ?_⟩
      cases o with
      | lst xs => obtain ⟨vs, q1, q2⟩ := q; exact ⟨vs, q1, q2.ups l1⟩
      | dct kvs => obtain ⟨vs, q1, q2⟩ := q; exact ⟨vs, q1, q2.ups l1⟩
  · rw [app_n hg g.n (Nat.le_refl _)] at hn
    rw [app_get hg g.n (Nat.le_refl _), if_neg (by omega), if_neg (by omega)]
    exact l.out n (by omega)
/-- what holds behind a step of a heap of its own -/
theorem graft_rd {Q : VK} {r : R W} (l : Rel K ρ h H) (q : rd K ct Wx ρ H (graft h r) (QW K Q)) : rd K ct Wx [] H r (QW K Q) := by
  have base : ∀ {ρ' : List Addr} {h' : Hw} {H' : Hp}, Stp [] ρ' H H' → Rel K ρ' h' H' → Stp ρ ρ H H' ∧ Rel K ρ h H' := fun {ρ' h' H'} s l' => by
    have kp : LamX.ExtN H H' := fun a o e n => s.fr a o e (by simp) n
    exact ⟨Stp.ofExt kp s.tb, l.ofExt kp s.tb l'.tab⟩
  cases r with
  | err => exact absurd q rderr
  | exc c d g =>
    intro ρ' H' cls dd s l' x
    obtain ⟨s2, l2⟩ := base s l'
    unfold graft at q
    obtain ⟨_, q⟩ := rdif q
    exact q ρ H' cls dd s2 l2 x
  | ok w g =>
    intro ρ' H' s l' v qv
    obtain ⟨s2, l2⟩ := base s l'
    have q : rd K ct Wx ρ H (bif w.noRef then .ok w h else .ok (w.up h.n) (h.app g g.n)) (QW K Q) := q
    cases c : w.noRef with
    | true =>
      rw [c] at q
      exact q ρ H' s2 l2 v (qv.nr c)
    | false =>
      rw [c] at q
      have dj : ∀ a ∈ ρ', a ∉ ρ := fun a m m2 => l.trk m2 (s.nw a m (by simp))
      refine q (ρ ++ ρ') H' ⟨List.prefix_append _ _, s2.fr, fun a m n => ?_, s2.fz, ?_⟩ (l2.app l' dj) v (qv.ups l.len)
      rotate_right 1
      · exact s2.tb
      rcases List.mem_append.mp m with m | m
      · exact absurd m n
      · exact s.nw a m (by simp)
end

/-! ### the promise of a def -/
structure FnG (P : Program) (w : World) (K : PySem.W.Frag) (mg : Str → Option Value) (base : Heap) (CX : CXT) (k : Nat) (f : Addr) (fd : FuncData) (ps : List Str) (sp : Sp) : Prop where
  len : ∀ vs H Q E, sp vs H Q E → vs.length = ps.length
  run : ∀ (A : Around) (outer : List PySem.Env) (s : Shared) (H : Hp) (ars : Args) (us : List Value) (vs : List V) (Q : VK) (E : XK), Room k A → A.guards = some [] → Env0 P w K mg base A outer s H → BindsTo s fd ars (ps.zip us) → Vals vs us → sp vs H Q E →
    codeAny (model P w) A (.call (.ref f) ars) (CR CX outer P w H s Q E) s
/-- the machine's promise -/
def spW (K : PySem.W.Frag) (ct : Nat → Option Value) (tr : XK → XK) (C : CT) (f : Nat) : Sp := fun vs H Q E => ∃ ρ h ws, Rel K ρ h H ∧ VRs K ρ H ws vs ∧ rd K ct (tr E) ρ H (C f ws h) (QW K Q)
section
variable {X : Cx} {CX : CXT} {k : Nat} {f : Addr} {fd : FuncData} {ps : List Str} {sp : Sp} {x : Str} {p pos : Pos} {e : Expr} {es : List Expr}
theorem run_fnG {E : XK} {pins : List (Addr × Obj)} {σ : L2.St} {H : Hp} {s : Shared} {Q : VK} {us : List Value} {vs : List V} (F : FnG X.prog X.w X.K X.mg X.base CX k f fd ps sp) (hr : Room k X.A) (hg : X.A.guards = some []) (hb : Binds X.K fd ps []) (hx : PassesAt CX X σ E)
    (I : Inv X pins σ H s) (r : Vals vs us) (q : sp vs H Q E) : wpAny (model X.prog X.w) X.A (call (.ref f) us) (EP X pins σ Q) X.xe s := by
  have hl : us.length = ps.length := r.length.symm.trans (F.len _ _ _ _ q)
  have bd := hb s us I.kIn (by rw [List.append_nil]; exact hl)
  rw [List.append_nil] at bd
  refine wpAny_call (codeAny_mono (F.run X.A X.stack s H ⟨us, []⟩ us vs Q E hr hg I.env0 bd r q) fun res s' hres => ?_)
  match res, hres with
  | .error er, hres => exact hx pins H s er s' I hres
  | .ok (.ret u), hres => exact I.after hres
  | .ok .next, hres => exact False.elim hres
  | .ok .brk, hres => exact False.elim hres
  | .ok .cont, hres => exact False.elim hres
variable {ct : Nat → Option Value} {Wx : WX} {C : CT} {i : Nat} {tr : XK → XK}
theorem w_call {mes : Env → Hw → R (List W)} (F : FnG X.prog X.w X.K X.mg X.base CX k f fd ps (spW X.K ct tr C i)) (htr : ∀ σ, tr (fun c d H => Wx c d σ H) = fun c d H => Wx c d σ H) (hr : Room k X.A) (hgd : X.A.guards = some []) (hg : Gl X x) (hm : X.mg x = some (.ref f)) (hk : PySem.W.keepIn X.K (.ref f) = true) (hb : Binds X.K fd ps [])
    (hx : ∀ σ, PassesAt CX X σ fun c d H => Wx c d σ H) (ha : PA X (e :: es) (tA X.K ct Wx mes)) (hdb : (x == ("__debug__" : Str)) = false) (he : starEach (e :: es) X.env = (false, eval e X.env) :: starEach es X.env) (hpl : (backTo pos (starEach es X.env)).any (·.1) = false) :
    PE X (.Call (.Name x p) (e :: es) [] pos) (tE X.K ct Wx fun env h => (mes env h).bind fun ws h1 => C i ws h1) := by
  refine ⟨fun pins s σ H Q I ⟨env, ρ, h, er, l, q⟩ => ?_⟩
  refine wpAny_Call_Name_kw (ld_glob I hg hm ?_ hdb)
  have rdg : (tA X.K ct Wx mes) σ H fun vs H1 => spW X.K ct tr C i vs H1 Q (fun c d H => Wx c d σ H) := stepA (Wx := Wx) er l q fun ws ρ1 h1 H1 s1 l1 er1 q1 vs qs => ⟨ρ1, h1, ws, l1, qs, by rw [htr σ]; exact q1⟩
  exact PySem.W.callWith_K (h₀ := X.base) I.ok.mod.kin hk (thn (ha.run pos pins s σ H _ I rdg) fun us s1 ⟨vs, H1, I1, r, q⟩ => ⟨I1.kIn, run_fnG F hr hgd hb (hx σ) I1 r q⟩) he hpl
theorem w_call0 (F : FnG X.prog X.w X.K X.mg X.base CX k f fd ps (spW X.K ct tr C i)) (htr : ∀ σ, tr (fun c d H => Wx c d σ H) = fun c d H => Wx c d σ H) (hr : Room k X.A) (hgd : X.A.guards = some []) (hg : Gl X x) (hm : X.mg x = some (.ref f)) (hk : PySem.W.keepIn X.K (.ref f) = true) (hb : Binds X.K fd ps [])
    (hx : ∀ σ, PassesAt CX X σ fun c d H => Wx c d σ H) (hdb : (x == ("__debug__" : Str)) = false) : PE X (.Call (.Name x p) [] [] pos) (tE X.K ct Wx fun env h => C i [] h) := by
  refine ⟨fun pins s σ H Q I ⟨env, ρ, h, er, l, q⟩ => ?_⟩
  refine wpAny_Call_Name_kw (ld_glob I hg hm ?_ hdb)
  exact PySem.W.callWith_K0 I.kIn hk (run_fnG (us := []) (vs := []) F hr hgd hb (hx σ) I .nil ⟨ρ, h, [], l, VRs.nil_iff.mpr rfl, by rw [htr σ]; exact q⟩)
end
section
variable {CX : CXT} {P : Program} {w : World} {K : PySem.W.Frag} {mg : Str → Option Value} {base : Heap} {k : Nat} {f : Addr} {name qual : Str} {params : Arguments} {body : List Stmt} {scope : Scope} {dV kV doc pm cdv ctr oc : Value} {an od : Option Addr}
  {osl : Array (Option Value)} {N ps : List Str} {sp : Sp}
/-- a def by its body (the guards are known) -/
theorem fnG_of (lk : K.lookup f = some ⟨oc, od, .func (PySem.W.fnOf name qual params body scope dV kV doc pm an cdv ctr), osl⟩) (hcd : PySem.W.codeIn K cdv qual = true) (S : FnScope N ps scope) (len : ∀ vs H Q E, sp vs H Q E → vs.length = ps.length)
    (hbd : ∀ (A : Around) (outer : List PySem.Env) (s : Shared) (H : Hp) (vs : List V) (Q : VK) (E : XK), Room k (A.deeper (envOfC qual scope s.heap.objs.size f cdv)) → A.guards = some [] → sp vs H Q E →
      ∃ t, PSs (cxOf CX P w K mg base N qual scope f cdv A outer s H E) body t ∧ t { nx := fun _ H' => Q .non H', rt := Q } (L2.start N vs) H) :
    FnG P w K mg base CX (k + 1) f (PySem.W.fnOf name qual params body scope dV kV doc pm an cdv ctr) ps sp := by
  refine ⟨len, fun A outer s H ars us vs Q E hr hgd en bd rv q => ?_⟩
  have le := len _ _ _ _ q
  have kin : K.In s.heap := en.mod.kin.keeps fun b o z => (en.bs b o z).1
  have nolim : s.heap.NoLimit := en.mod.nolimit.keeps fun b o z => (en.bs b o z).1
  have kinds : ∀ y ∈ ps.zip us, scope.names.lookup y.1 = some .local ∨ (scope.names.lookup y.1 = some .cell ∧ ((cellsFrom (s.heap.objs.size + 1) scope.names []).lookup y.1).isSome = true) := fun ⟨n, v⟩ m => by
    rcases S.par n (List.of_mem_zip m).1 with z | z
    · exact .inl z
    · exact .inr ⟨z, PySem.W.cellsFrom_some _ _ _ (.inl z)⟩
  refine codeAny_call_function hr.depth (kin _ _ lk) rfl S.co S.gen rfl (PySem.W.codeRec_of kin hcd) (bd _ _ _ _ ?_)
  refine wpAny_newFunctionEnv_cells S.kind kinds fun env ee s1 st => ?_
  subst ee
  refine ⟨nolim.keeps st.toInCall.keep, codeAny_func ?_⟩
  obtain ⟨t, pt, qt⟩ := hbd A outer s H vs Q E (hr.deeper _) hgd q
  have J : Inv (cxOf CX P w K mg base N qual scope f cdv A outer s H E) [] (L2.start N vs) H s1 := inv_start S hr.hd en le rv st
  refine wpAny_mono (pt.run [] s1 (L2.start N vs) H _ J qt) (fun fl s' hs => ?_) fun ex s' hs => hs
  have close : ∀ {σ' : L2.St} {H' : Hp} {v : V} {u : Value}, Inv (cxOf CX P w K mg base N qual scope f cdv A outer s H E) [] σ' H' s' → RelV v u → Q v H' → CE outer P w H s Q u s' := fun {σ' H' v u} J' ru qv => ⟨v, H', J'.os, J'.bare, J'.base, J'.hok, ru, qv⟩
  match fl, hs with
  | .ret u, hs => obtain ⟨v, σ', H', J', ru, qv⟩ := hs; exact close J' ru qv
  | .next, hs => obtain ⟨σ', H', J', qv⟩ := hs; exact close (v := V.non) (u := Value.none) J' rfl qv
  | .brk, hs => obtain ⟨_, _, _, qv⟩ := hs; exact False.elim qv
  | .cont, hs => obtain ⟨_, _, _, qv⟩ := hs; exact False.elim qv
theorem er_start {ρ : List Addr} {H : Hp} {ws : List W} {vs : List V} {n : Nat} (q : VRs K ρ H ws vs) (hn : n = N.length - vs.length) : ER K ρ H (ws.map some ++ List.replicate n none) (L2.start N vs) := by
  subst hn
  have hl := q.length
  refine ⟨by unfold L2.start; simp [hl], fun j u e => ?_⟩
  unfold L2.start
  by_cases hj : j < ws.length
  · rw [List.getElem?_append_left (by simpa using hj), List.getElem?_map] at e
    rw [List.getElem?_append_left (by simpa [hl] using hj), List.getElem?_map]
    rw [List.getElem?_eq_getElem hj] at e
    obtain ⟨v, e2, qv⟩ := q.get (List.getElem?_eq_getElem hj)
    rw [e2]
    have e := Option.some.inj (Option.some.inj e)
    subst e
    exact ⟨v, rfl, VE.of qv⟩
  · rw [List.getElem?_append_right (by simpa using hj), List.getElem?_replicate] at e
    split at e <;> cases e
/-- a def whose body the machine runs -/
theorem defG {kk : Nat} {ct : Nat → Option Value} {tr : XK → XK} {tb : List Fn} {wf i : Nat} {fn : Fn} (hi : tb[i]? = some fn) (hns : fn.ns = N.length) (hnp : fn.np = ps.length)
    (lk : K.lookup f = some ⟨oc, od, .func (PySem.W.fnOf name qual params body scope dV kV doc pm an cdv ctr), osl⟩) (hcd : PySem.W.codeIn K cdv qual = true) (S : FnScope N ps scope)
    (hbd : ∀ (A : Around) (outer : List PySem.Env) (s : Shared) (H : Hp) (E : XK), fn.lam = none → fn.clo = false → Room kk (A.deeper (envOfC qual scope s.heap.objs.size f cdv)) → A.guards = some [] →
      PSs (cxOf CX P w K mg base N qual scope f cdv A outer s H E) body (tS K ct (tr E) (exL (callF tb wf k) wf fn.body))) :
    FnG P w K mg base CX (kk + 1) f (PySem.W.fnOf name qual params body scope dV kV doc pm an cdv ctr) ps (spW K ct tr (callF tb wf (k + 1)) i) := by
  have inv : ∀ {vs : List V} {H : Hp} {Q : VK} {E : XK}, spW K ct tr (callF tb wf (k + 1)) i vs H Q E → ∃ ρ h ws, Rel K ρ h H ∧ VRs K ρ H ws vs ∧ ws.length = fn.np ∧ (fn.lam = none ∧ fn.clo = false) ∧ rd K ct (tr E) ρ H (runF (callF tb wf k) wf fn ws h) (QW K Q) := fun {vs H Q E} ⟨ρ, h, ws, l, qs, q⟩ => by
    unfold callF at q
    have q : rd K ct (tr E) ρ H (match tb[i]? with
      | some fn => bif Nat.beq ws.length fn.np && (fn.lam.isNone && !fn.clo) then (bif W.noRefs ws then graft h (runF (callF tb wf k) wf fn ws Hw.nil) else runF (callF tb wf k) wf fn ws h) else .err
      | none => .err) (QW K Q) := q
    rw [hi] at q
    obtain ⟨c, q⟩ := rdif q
    obtain ⟨c, cl⟩ := Bool.and_eq_true_iff.mp c
    have c := Nat.eq_of_beq_eq_true c
    have cl : fn.lam = none ∧ fn.clo = false := by
      obtain ⟨c1, c2⟩ := Bool.and_eq_true_iff.mp cl
      exact ⟨Option.isNone_iff_eq_none.mp c1, by simpa using c2⟩
    cases c2 : W.noRefs ws with
    | true =>
      rw [c2] at q
      exact ⟨[], Hw.nil, ws, Rel.nil l.tab, qs.nr c2, c, cl, graft_rd l q⟩
    | false =>
      rw [c2] at q
      exact ⟨ρ, h, ws, l, qs, c, cl, q⟩
  refine fnG_of lk hcd S (fun vs H Q E q => ?_) fun A outer s H vs Q E hr hgd q => ?_
  · obtain ⟨ρ, h, ws, l, qs, c, _⟩ := inv q
    rw [qs.length, c, hnp]
  · obtain ⟨ρ, h, ws, l, qs, c, cl, q⟩ := inv q
    refine ⟨_, hbd A outer s H E cl.1 cl.2 hr hgd, ?_⟩
    refine ⟨_, ρ, h, er_start qs (by rw [qs.length, c]; exact congrArg (· - fn.np) hns), l, (rd.bind q).imp fun p ρ1 h1 H1 s1 l1 q1 σ' er' => ?_⟩
    obtain ⟨env1, fl⟩ := p
    cases fl with
    | nx => exact rd.fine q1 l1 _ VR.mk_non
    | rt w => exact rd.fine q1 l1
    | bk => exact absurd q1 rderr
    | ct => exact absurd q1 rderr
end

/-! ### dict displays -/
section
variable {X : Cx} {ct : Nat → Option Value} {Wx : WX} {pos : Pos}
/-- the pairs of a display -/
def PD (X : Cx) (ct : Nat → Option Value) (Wx : WX) (pos : Pos) (ks : List (Option Expr)) (vs : List Expr) (m : Env → Hw → R (List (L2.Key × W))) : Prop :=
  ∃ trs, PPs X pos ks vs trs ∧ ∀ (env : Env) (ρ : List Addr) (h : Hw) (σ : L2.St) (H : Hp) (Q : List (V × V) → Hp → Prop), ER X.K ρ H env σ → Rel X.K ρ h H →
    rd X.K ct (fun c d => Wx c d σ) ρ H (m env h) (fun kvs ρ' _ H' => ∀ us : List (L2.Key × V), KRs X.K ρ' H' kvs us → Q (us.map fun kv => (kV kv.1, kv.2)) H') → tPairs trs σ H Q
theorem d_nil : PD X ct Wx pos [] [] fun _ h => .ok [] h := ⟨[], pps_nil, fun env ρ h σ H Q er l q => rd.fine q l [] (by unfold KRs; rfl)⟩
def dK1 (mv : Hw → R W) (mr : Hw → R (List (L2.Key × W))) (x : Option L2.Key) (h1 : Hw) : R (List (L2.Key × W)) := match x with
  | some x => (mv h1).bind fun y h2 => (mr h2).bind fun r h3 => .ok ((x, y) :: r) h3
  | none => .err
theorem d_cons {k v : Expr} {ks : List (Option Expr)} {vs : List Expr} {mk mv : Env → Hw → R W} {mr : Env → Hw → R (List (L2.Key × W))} (hk : PE X k (tE X.K ct Wx mk)) (hv : PE X v (tE X.K ct Wx mv)) (hr : PD X ct Wx pos ks vs mr) :
    PD X ct Wx pos (some k :: ks) (v :: vs) fun env h => (mk env h).bind fun x h1 => dK1 (mv env) (mr env) (keyOf x) h1 := by
  obtain ⟨trs, pp, rdn⟩ := hr
  refine ⟨_, pps_cons hk hv pp, fun env ρ h σ H Q er l q => stepE er l q fun x ρ1 h1 H1 s1 l1 er1 q1 u qu => ?_⟩
  cases e : keyOf x with
  | none => rw [e] at q1; exact absurd q1 rderr
  | some kk =>
    rw [e] at q1
    have eu := keyOf_ok qu e
    refine stepE er1 l1 q1 fun y ρ2 h2 H2 s2 l2 er2 q2 t qt => rdn env ρ2 h2 σ H2 _ er2 l2 ((rd.bind q2).imp fun r ρ3 h3 H3 s3 l3 q3 us qs => ?_)
    have := rd.fine q3 l3 ((kk, t) :: us) (by unfold KRs; exact ⟨t, us, rfl, qt.mv l2 s3, qs⟩)
    rw [eu]
    exact this
def dK2 (n : Nat) (kvs : List (L2.Key × W)) (h1 : Hw) : R W := match h1.get n with
  | some (.dct []) => bif Nat.ble kvs.length 15 then .ok (.ref n) (h1.set n (.dct (kvs.foldl (fun d p => kPut d p.1 p.2) []))) else .err
  | _ => .err
theorem merge_ok {K : PySem.W.Frag} {ρ : List Addr} {H : Hp} : ∀ {kvs : List (L2.Key × W)} {us : List (L2.Key × V)} {d : List (L2.Key × W)} {e : List (L2.Key × V)}, KRs K ρ H kvs us → KRs K ρ H d e → KRs K ρ H (kvs.foldl (fun d p => kPut d p.1 p.2) d) (mergeK e us)
  | [], _, _, _, q, qd => by unfold KRs at q; subst q; exact qd
  | (j, w) :: r, _, _, _, q, qd => by
    unfold KRs at q
    obtain ⟨v, t, rfl, q1, q2⟩ := q
    have := merge_ok (kvs := r) (us := t) q2 (kPut_ok j qd q1)
    exact this
theorem w_dct {ks : List (Option Expr)} {vs : List Expr} {m : Env → Hw → R (List (L2.Key × W))} (hd : PD X ct Wx pos ks vs m) (hall : ks.all (·.isSome) = true) (hl : ks.length = vs.length) (h0 : ks ≠ []) (h15 : ks.length ≤ 15) :
    PE X (.Dict ks vs pos) (tE X.K ct Wx fun env h => (m env (h.new (.dct []))).bind fun kvs h1 => dK2 h.n kvs h1) := by
  obtain ⟨trs, pp, rdn⟩ := hd
  refine PE.mo (pe_disp pp hall hl h0 h15) fun σ H Q ⟨env, ρ, h, er, l, q⟩ p hp => ?_
  have s := Stp.new l p (HO.dK []) hp
  have l0 := l.new p (HO.dK []) (.dct []) hp ⟨[], upd_same, by unfold KRs; rfl⟩
  have en : (ρ ++ [p])[h.n]? = some p := by rw [← l.len, List.getElem?_append_right (Nat.le_refl _)]; simp
  refine rdn env (ρ ++ [p]) _ σ _ _ (er.mv l s) l0 ((rd.bind (q.mv s)).imp fun kvs ρ1 h1 H1 s1 l1 q1 us qs => ?_)
  cases e : h1.get h.n with
  | none => simp only [dK2, e] at q1; exact absurd q1 rderr
  | some o =>
    cases o with
    | lst _ => simp only [dK2, e] at q1; exact absurd q1 rderr
    | dct d =>
      cases d with
      | cons _ _ => simp only [dK2, e] at q1; exact absurd q1 rderr
      | nil =>
        simp only [dK2, e] at q1
        obtain ⟨c, q1⟩ := rdif q1
        have e1 := pre_get s1.pre en
        obtain ⟨a, d2, ea, _, ha, ra⟩ := l1.dct e (VR.mk_ref (K := X.K) (H := H1) e1)
        cases ea
        unfold KRs at ra
        subst ra
        have nz := NoZ.dct ha
        have st := Stp.wr (HO.dK (mergeK [] us)) e1 nz
        have hlen : us.length = kvs.length := by have := congrArg List.length qs.keys; simpa using this
        refine ⟨ha, us, rfl, by rw [hlen]; exact Nat.le_of_ble_eq_true c, q1 ρ1 _ st (l1.wr _ _ e1 nz ⟨_, upd_same, (merge_ok qs (by unfold KRs; rfl)).mv l1 st⟩) _ (VR.mk_ref e1)⟩
theorem w_dct0 {m : Env → Hw → R (List (L2.Key × W))} (hm : ∀ env h, m env h = .ok [] h) : PE X (.Dict [] [] pos) (tE X.K ct Wx fun env h => (m env (h.new (.dct []))).bind fun kvs h1 => dK2 h.n kvs h1) := by
  refine PE.mo pe_dnewK fun σ H Q ⟨env, ρ, h, er, l, q⟩ p hp => ?_
  have q : rd X.K ct (fun c d => Wx c d σ) ρ H ((m env (h.new (.dct []))).bind fun kvs h1 => dK2 h.n kvs h1) (QW X.K Q) := q
  rw [hm] at q
  have q : rd X.K ct (fun c d => Wx c d σ) ρ H (dK2 h.n [] (h.new (.dct []))) (QW X.K Q) := q
  have s := Stp.new l p (HO.dK []) hp
  have l0 := l.new p (HO.dK []) (.dct []) hp ⟨[], upd_same, by unfold KRs; rfl⟩
  have en : (ρ ++ [p])[h.n]? = some p := by rw [← l.len, List.getElem?_append_right (Nat.le_refl _)]; simp
  unfold dK2 at q
  rw [Hw.new_same] at q
  have q : rd X.K ct (fun c d => Wx c d σ) ρ H (.ok (.ref h.n) ((h.new (.dct [])).set h.n (.dct []))) (QW X.K Q) := q
  have nz : NoZ (upd H p (HO.dK [])) p := NoZ.dct upd_same
  have st := Stp.wr (HO.dK []) en nz
  have l2 := l0.wr (HO.dK []) (.dct []) en nz ⟨[], upd_same, by unfold KRs; rfl⟩
  rw [upd_upd] at st l2
  exact q (ρ ++ [p]) _ s l2 _ (VR.mk_ref en)
end
end TL
/-! d.update(e); sorted(set(t)); a[i], b[j] = e. -/
namespace TL
open PySem PySem.Spec PyProof.Rows L2
variable [TabI] [CloI]
/-! ### d.update(e) -/
def rUpd : V → List V → Hp → VK → Prop := fun x xs H Q => ∃ (a b : Addr) (ks ms : List (L2.Key × V)), x = .ref a ∧ xs = [.ref b] ∧ a ≠ b ∧ H a = some (.dK ks) ∧ H b = some (.dK ms) ∧ ks.length + ms.length ≤ sizeLine ∧ Q .non (upd H a (.dK (mergeK ks ms)))
section
variable {X : Cx}
theorem mt_upd : MtR X "dict.update" rUpd := by
  intro pins s σ H x xs v us Q I rx rxs hq
  obtain ⟨a, b, ks, ms, rfl, rfl, ne, ha, hb, hz, q⟩ := hq
  cases rx
  rw [Vals.ref1 rxs]
  obtain ⟨z1, n1, vs, r1, d1⟩ := dk_of I.hok ha
  obtain ⟨z2, n2, ws, r2, d2⟩ := dk_of I.hok hb
  have hz2 : vs.length + ws.length ≤ sizeLine := by rw [← r1.length, ← r2.length]; exact hz
  refine call_meetsIn PySem.F.slot_dict_update d1.typeIs PySem.F.entry_dict_update (PySem.F.args_dict_update_2 _ _) (meets_dict_update (mixKind X.prog X.w) a b ne n2) ⟨vs, ws, d1, d2, hz2, fun h' e1 e2 sb => ?_⟩
  have there : ∃ o, h'.get? a = some o := let ⟨o, _, _, eo, _⟩ := e1; ⟨o, eo⟩
  refine ⟨.non, _, d_write (t' := s.toks) I (by rw [ha]; exact True.intro) sb there (dk_new ?_ n1 (KV.merge r2 r1) e1), rfl, q⟩
  exact Nat.le_trans (length_mergeK ms ks) hz
def spU : MSp X "update" := ⟨"dict", "dict.update", rUpd, PySem.F.plainAttrs_dict, PySem.F.slot_dict_update, PySem.F.type_dict_update, mt_upd⟩
variable {ct : Nat → Option Value} {Wx : WX} {o e : Expr} {mo me : Env → Hw → R W} {apos cpos : Pos}
theorem w_upd (ho : PE X o (tE X.K ct Wx mo)) (he : PE X e (tE X.K ct Wx me)) (hbase : attributeBase o "update" X.env (eval o X.env) = eval o X.env) (hline : (apos.endLine == cpos.line) = true) (hn : starEach [e] X.env = (false, eval e X.env) :: starEach [] X.env)
    (hfew : (backTo cpos (starEach [e] X.env)).all (fun x => !x.1) = true) :
    PE X (.Call (.Attribute o "update" apos) [e] [] cpos) (tE X.K ct Wx fun env h => (mo env h).bind fun x h1 => bif isDct x h1 then (me env h1).bind fun y h2 => updOp x y h2 else .err) := by
  refine ⟨fun pins s σ H Q I ⟨env, ρ, h, er, l, q⟩ => (pe_mz (fun _ : Unit => spU) ho (pa_cons he pa_nil hn) hbase hfew (by decide) hline hn rfl).run pins s σ H Q I ?_⟩
  refine stepE er l q fun x ρ1 h1 H1 s1 l1 er1 q1 v qv => ?_
  obtain ⟨c, q1⟩ := rdif q1
  have isd : ∃ n ks, x = .ref n ∧ h1.get n = some (.dct ks) := by
    cases x with
    | ref n =>
      cases e1 : h1.get n with
      | none => simp only [isDct, e1] at c; cases c
      | some o =>
        cases o with
        | lst _ => simp only [isDct, e1] at c; cases c
        | dct ks => exact ⟨n, ks, rfl, e1⟩
    | _ => cases c
  obtain ⟨n, ks, rfl, e1⟩ := isd
  obtain ⟨a, vs, rfl, en, ha, ra⟩ := l1.dct e1 qv
  refine ⟨(), .inr (.inr ⟨rfl, vs, ha⟩), stepE er1 l1 q1 fun y ρ2 h2 H2 s2 l2 er2 q2 u qu => ?_⟩
  cases y with
  | ref m =>
    cases f1 : h2.get n with
    | none => simp only [updOp, f1] at q2; exact absurd q2 rderr
    | some o1 =>
      cases o1 with
      | lst _ => simp only [updOp, f1] at q2; exact absurd q2 rderr
      | dct xs =>
        cases f2 : h2.get m with
        | none => simp only [updOp, f1, f2] at q2; exact absurd q2 rderr
        | some o2 =>
          cases o2 with
          | lst _ => simp only [updOp, f1, f2] at q2; exact absurd q2 rderr
          | dct ys =>
            simp only [updOp, f1, f2] at q2
            obtain ⟨c1, q2⟩ := rdif q2
            obtain ⟨c1, c2⟩ := Bool.and_eq_true_iff.mp c1
            have en2 := pre_get s2.pre en
            obtain ⟨a2, us, ea, _, hb, rb⟩ := l2.dct f1 (VR.mk_ref (K := X.K) (H := H2) en2)
            cases ea
            obtain ⟨b, ts, rfl, eb, hc, rc⟩ := l2.dct f2 qu
            have hne : a ≠ b := fun z => by
              subst z
              obtain ⟨l1', x1⟩ := List.getElem?_eq_some_iff.mp en2
              obtain ⟨l2', x2⟩ := List.getElem?_eq_some_iff.mp eb
              have := (List.getElem_inj l2.nd).mp (x1.trans x2.symm)
              subst this
              rw [Nat.beq_refl] at c2
              cases c2
            have k1 : us.length = xs.length := by have := congrArg List.length rb.keys; simpa using this
            have k2 : ts.length = ys.length := by have := congrArg List.length rc.keys; simpa using this
            have nz := NoZ.dct hb
            have st := Stp.wr (HO.dK (mergeK us ts)) en2 nz
            refine ⟨a, b, us, ts, rfl, rfl, hne, hb, hc, by rw [k1, k2]; exact szOk_le c1, ?_⟩
            exact q2 ρ2 _ st (l2.wr _ _ en2 nz ⟨_, upd_same, KRs.mv l2 st (merge_ok rc rb)⟩) _ VR.mk_non
  | _ => exact absurd q2 rderr
end
/-! ### sorted(set(t)) -/
theorem insD_mem (x : Int) : ∀ (l : List Int) (k : Int), k ∈ insD x l ↔ k = x ∨ k ∈ l
  | [], k => by simp [insD]
  | y :: r, k => by
    unfold insD
    by_cases h1 : x < y
    · rw [decide_eq_true h1, cond_true]
      simp only [List.mem_cons]
    · rw [decide_eq_false h1, cond_false]
      by_cases h2 : x = y
      · rw [decide_eq_true h2, cond_true]
        subst h2
        simp only [List.mem_cons]
        constructor
        · exact .inr
        · rintro (h | h)
          · exact .inl h
          · exact h
      · rw [decide_eq_false h2, cond_false]
        simp only [List.mem_cons, insD_mem x r k]
        constructor
        · rintro (h | h | h)
          · exact .inr (.inl h)
          · exact .inl h
          · exact .inr (.inr h)
        · rintro (h | h | h)
          · exact .inr (.inl h)
          · exact .inl h
          · exact .inr (.inr h)
theorem insD_sorted (x : Int) : ∀ (l : List Int), l.Pairwise (· < ·) → (insD x l).Pairwise (· < ·)
  | [], _ => by simp [insD]
  | y :: r, h => by
    unfold insD
    obtain ⟨a1, a2⟩ := List.pairwise_cons.mp h
    by_cases h1 : x < y
    · rw [decide_eq_true h1, cond_true]
      refine List.pairwise_cons.mpr ⟨fun k hk => ?_, h⟩
      rcases List.mem_cons.mp hk with rfl | hk
      · exact h1
      · exact Int.lt_trans h1 (a1 k hk)
    · rw [decide_eq_false h1, cond_false]
      by_cases h2 : x = y
      · rw [decide_eq_true h2, cond_true]
        exact h
      · rw [decide_eq_false h2, cond_false]
        refine List.pairwise_cons.mpr ⟨fun k hk => ?_, insD_sorted x r a2⟩
        rcases (insD_mem x r k).mp hk with rfl | hk
        · omega
        · exact a1 k hk
theorem sdup_mem : ∀ (l : List Int) (k : Int), k ∈ sdup l ↔ k ∈ l
  | [], k => by simp [sdup]
  | x :: r, k => by unfold sdup; rw [insD_mem, sdup_mem r, List.mem_cons]
theorem sdup_sorted : ∀ (l : List Int), (sdup l).Pairwise (· < ·)
  | [] => by simp [sdup]
  | x :: r => by unfold sdup; exact insD_sorted x _ (sdup_sorted r)
theorem sorted_uniq : ∀ {a b : List Int}, a.Pairwise (· < ·) → b.Pairwise (· < ·) → (∀ k, k ∈ a ↔ k ∈ b) → a = b
  | [], [], _, _, _ => rfl
  | [], y :: b, _, _, h => absurd ((h y).mpr List.mem_cons_self) (by simp)
  | x :: a, [], _, _, h => absurd ((h x).mp List.mem_cons_self) (by simp)
  | x :: a, y :: b, ha, hb, h => by
    obtain ⟨a1, a2⟩ := List.pairwise_cons.mp ha
    obtain ⟨b1, b2⟩ := List.pairwise_cons.mp hb
    have e : x = y := by
      rcases List.mem_cons.mp ((h x).mp List.mem_cons_self) with e | e
      · exact e
      · rcases List.mem_cons.mp ((h y).mpr List.mem_cons_self) with e2 | e2
        · exact e2.symm
        · have := a1 y e2
          have := b1 x e
          omega
    subst e
    rw [sorted_uniq a2 b2 fun k => ?_]
    constructor
    · intro m
      rcases List.mem_cons.mp ((h k).mp (List.mem_cons_of_mem _ m)) with e | e
      · have := a1 k m; omega
      · exact e
    · intro m
      rcases List.mem_cons.mp ((h k).mpr (List.mem_cons_of_mem _ m)) with e | e
      · have := b1 k m; omega
      · exact e
theorem vrs_ints {K : PySem.W.Frag} {ρ : List Addr} {H : Hp} : ∀ ms : List Int, VRs K ρ H (ms.map W.int) (ms.map V.int)
  | [] => VRs.nil_iff.mpr rfl
  | m :: ms => VRs.cons_iff.mpr ⟨_, _, rfl, VR.mk_int, vrs_ints ms⟩
def rSetT (w : World) (K : PySem.W.Frag) : List V → Hp → VK → Prop := fun vs H Q => ∃ (a : Addr) (ns : List Int), vs = [.ref a] ∧ SqT K H a (ns.map V.int) ∧ ns.length ≤ 60 ∧ ∀ p c, H p = none → c ≤ ns.length → Q (.ref p) (upd H p (SetO w p (fun j => decide (j ∈ ns)) c))
section
variable {X : Cx}
theorem cr_setT (hc : X.calm = true) : CallR X (.type "set") (rSetT X.w X.K) := by
  intro pins s σ H vs us Q I r hq
  obtain ⟨a, ns, rfl, ta, hl, q⟩ := hq
  rw [Vals.ref1 r]
  obtain ⟨its, rv, pt, hz⟩ := I.tuple ta
  refine call_set_tupI ns (I.ok.hd hc) (show s.heap.IsTuple a its.toArray from pt) (ints_of_vals rv) (by unfold scanBound; omega) fun h' tk c R1 hcn kp => ?_
  have nf : H s.heap.objs.size = none := I.hok.fresh (Nat.le_refl _)
  exact ⟨.ref _, _, I.laid (t' := tk) kp (Nat.le_refl _) (setO_new R1), rfl, q _ c nf hcn⟩
variable {ct : Nat → Option Value} {Wx : WX} {a : Expr} {ma : Env → Hw → R W} {p p2 pos pos2 : Pos}
theorem w_sset (hc : X.calm = true) (hg : Gl X "sorted") (hm : X.mg "sorted" = none) (hg2 : Gl X "set") (hm2 : X.mg "set" = none) (ha : PE X a (tE X.K ct Wx ma)) (hn : starEach [a] X.env = (false, eval a X.env) :: starEach [] X.env) :
    PE X (.Call (.Name "sorted" p) [.Call (.Name "set" p2) [a] [] pos2] [] pos) (tE X.K ct Wx fun env h => (ma env h).bind fun x h1 => ssetOp x h1) :=
  PE.mo (pe_callB (cr_sortedSet hc) hg hm PyProof.Rows.boot_sorted (pa_cons (pe_callTy (cr_setT hc) hg2 hm2 PyProof.Rows.boot_set (pa_cons ha pa_nil hn) (by decide) (by decide) hn rfl) pa_nil) (by decide) (by decide)) fun σ H Q ⟨env, ρ, h, er, l, q⟩ =>
    stepE er l q fun x ρ1 h1 H1 s1 l1 er1 q1 v qv => by
      cases x with
      | tup xs =>
        obtain ⟨t, vs, rfl, ta, ra⟩ := qv.tup
        cases e : intsOf xs with
        | none => simp only [ssetOp, e] at q1; exact absurd q1 rderr
        | some is =>
          simp only [ssetOp, e] at q1
          obtain ⟨c, q1⟩ := rdif q1
          have ev := ints_ok ra e
          subst ev
          have hl : is.length ≤ 60 := Nat.le_of_ble_eq_true c
          refine ⟨t, is, rfl, ta.sq, hl, fun p c hp hcl => ⟨p, _, c, rfl, upd_same, by omega, fun ns p2 hs hmem _ hp2 => ?_⟩⟩
          have en : ns = sdup is := sorted_uniq hs (sdup_sorted is) fun k => by rw [hmem, decide_eq_true_eq, sdup_mem]
          subst en
          have st := Stp.laid (ρ := ρ1) p (SetO X.w p (fun j => decide (j ∈ is)) c) hp
          have l2 := l1.laid p (SetO X.w p (fun j => decide (j ∈ is)) c) hp
          exact newLW l2 (vrs_ints (sdup is)) (q1.mv st) p2 hp2
      | _ => exact absurd q1 rderr
end
/-! ### a[i], b[j] = e -/
def isSliceN : Expr → Bool
  | .Slice _ _ _ _ => true
  | _ => false
theorem slice_asg {env : PySem.Env} {o e : Expr} {p : Pos} (h : isSliceN e = false) (v : Value) : assign (.Subscript o e p) env v = (do
      let ov ← holding [v] (eval o env)
      let iv ← holding [v, ov] (eval e env)
      standAt p
      holding [v, ov, iv] (setItem ov iv v)
      release [v, ov, iv] []) := by
  cases e <;> first | rfl | cases h
def iiL (mb mj : Env → Hw → R W) (y : W) (env : Env) (o : Option Hw) : R (Env × Fl) := match o with
  | some h4 => (mb env h4).bind fun b h5 => (mj env h5).bind fun j h6 => setK env (setOp b j y h6)
  | none => .err
def iiK (ma mi mb mj : Env → Hw → R W) (env : Env) (v : W) (h1 : Hw) : R (Env × Fl) := match v with
  | .tup [x, y] => (ma env h1).bind fun a h2 => (mi env h2).bind fun i h3 => iiL mb mj y env (setOp a i x h3)
  | _ => .err
section
variable {X : Cx} {ct : Nat → Option Value} {Wx : XK} {a i b j e : Expr} {ma mi mb mj me : Env → Hw → R W} {p1 p2 p3 pos : Pos} {k : Nat}
theorem s_setII (hc : X.calm = true) (hu : X.A.units + 65 < cLine) (ha : PE X a (tE X.K ct (wx Wx) ma)) (hi : PE X i (tE X.K ct (wx Wx) mi)) (hb : PE X b (tE X.K ct (wx Wx) mb)) (hj : PE X j (tE X.K ct (wx Wx) mj)) (he : PE X e (tE X.K ct (wx Wx) me))
    (ni : isSliceN i = false) (nj : isSliceN j = false) (hs : swapsWithSole [.Tuple [.Subscript a i p1, .Subscript b j p2] k p3] e pos.line X.env = pure false) (hw : swappedStores [.Tuple [.Subscript a i p1, .Subscript b j p2] k p3] e X.env = pure none) :
    PS X (.Assign [.Tuple [.Subscript a i p1, .Subscript b j p2] k p3] e pos) (tS X.K ct Wx fun env h => (me env h).bind fun v h1 => iiK ma mi mb mj env v h1) := by
  refine PS.mo (ps_asg he (pg_tup hc (pgs_cons (pg_sub ha hi (setR hu) (slice_asg ni)) (pgs_cons (pg_sub hb hj (setR hu) (slice_asg nj)) pgs_nil))) hs hw rfl) fun D σ H ⟨env, ρ, h, er, l, q⟩ =>
    stepE (Wx := wx Wx) er l q fun w ρ1 h1 H1 s1 l1 er1 q1 v qv => ?_
  match w, qv, q1 with
  | .tup [x, y], qv, q1 =>
    obtain ⟨t, vs, rfl, ta, ra⟩ := qv.tup
    obtain ⟨u, u2, rfl, qx, qy⟩ := ra.two
    refine ⟨t, [u, u2], rfl, ta.sq, rfl, u, [u2], rfl, ?_⟩
    refine stepE (Wx := wx Wx) er1 l1 q1 fun av ρ2 h2 H2 s2 l2 er2 q2 va qa => stepE (Wx := wx Wx) er2 l2 q2 fun iv ρ3 h3 H3 s3 l3 er3 q3 vi qi => ?_
    cases e1 : setOp av iv x h3 with
    | none => rw [e1] at q3; exact absurd q3 rderr
    | some h4 =>
      rw [e1] at q3
      refine ⟨ρ3, h3, av, iv, x, h4, l3, qa.mv l2 s3, qi, (qx.mv l1 s2).mv l2 s3, e1, fun H4 s4 l4 => ⟨u2, [], rfl, ?_⟩⟩
      have er4 := er3.mv l3 s4
      refine stepE (Wx := wx Wx) er4 l4 (q3.mv s4) fun bv ρ5 h5 H5 s5 l5 er5 q5 vb qb => stepE (Wx := wx Wx) er5 l5 q5 fun jv ρ6 h6 H6 s6 l6 er6 q6 vj qj => ?_
      cases e2 : setOp bv jv y h6 with
      | none => simp only [setK, e2] at q6; exact absurd q6 rderr
      | some h7 =>
        simp only [setK, e2] at q6
        exact ⟨ρ6, h6, bv, jv, y, h7, l6, qb.mv l5 s6, qj, ((((qy.mv l1 s2).mv l2 s3).mv l3 s4).mv l4 s5).mv l5 s6, e2, fun H7 s7 l7 => ⟨rfl, q6 ρ6 H7 s7 l7 σ (er6.mv l6 s7)⟩⟩
  | .tup [], _, q1 => exact absurd q1 rderr
  | .tup [_], _, q1 => exact absurd q1 rderr
  | .tup (_ :: _ :: _ :: _), _, q1 => exact absurd q1 rderr
  | .non, _, q1 => exact absurd q1 rderr
  | .bl _, _, q1 => exact absurd q1 rderr
  | .int _, _, q1 => exact absurd q1 rderr
  | .str _, _, q1 => exact absurd q1 rderr
  | .frl _, _, q1 => exact absurd q1 rderr
  | .ref _, _, q1 => exact absurd q1 rderr
  | .clo _, _, q1 => exact absurd q1 rderr
end
end TL
/-! Closures: a lambda is made; it is called by the def that got it. -/
namespace TL
open PySem PySem.Spec PyProof.Rows L2 LamX
variable [TabI]
/-- the words of a lambda and the cells that it captured -/
abbrev lamNF (q : Str) (params : Arguments) (scope : Scope) (cl : List (Str × Addr)) (c : Addr) : NdefX.NF := ⟨"<lambda>", q, params, [], scope, cl, c⟩
abbrev lamOb (q : Str) (params : Arguments) (body : Expr) (scope : Scope) (cl : List (Str × Addr)) (pm : Value) (c : Addr) (ctv : Value) : Obj := PySem.W.kla_obj "<lambda>" q params body scope cl pm c ctv
/-- what is told of a lambda that was made -/
structure LamAt (X : Cx) (params : Arguments) (body : Expr) (scope : Scope) (f c : Addr) (H : Hp) (s : Shared) : Prop where
  ob : ∃ pm ctv, s.heap.get? f = some (lamOb (X.env.qual ++ "<lambda>") params body scope (cloFrom X.env.cells scope.names []) pm c ctv)
  un : H f = none
  nf : f ∉ frs X.stack
  co : H c = some (CodeO c (X.env.qual ++ "<lambda>"))
section
variable {X : Cx} {pins : List (Addr × Obj)} {σ : L2.St} {H : Hp} {s : Shared}
theorem fresh_nofr (I : Inv X pins σ H s) {f : Addr} (hf : s.heap.objs.size ≤ f) : f ∉ frs X.stack := by
  intro hz
  have h0 := I.lt
  cases List.mem_cons.mp (I.stkSub _ hz) with
  | inl e =>
    have h1 : f < s.heap.objs.size := by rw [e]; exact h0
    exact absurd (Nat.lt_of_lt_of_le h1 hf) (Nat.lt_irrefl _)
  | inr e => exact I.nofs hf e
theorem lam_mk {c P : Addr} {params : Arguments} {body : Expr} {scope : Scope} {pos : Pos} {E Q : Value → Shared → Prop} (I : Inv X pins σ H s) (tb : TabB X.base X.mg c P) (hcd : X.env.code = .ref c) (hin : (P, X.env.qual ++ "<lambda>") ∈ TabI.T)
    (hun : ∀ p ∈ TabI.T, p.1 = P → p.2 = X.env.qual ++ "<lambda>") (tt : Tabs TabI.T H) (hdf : defaultsOf params X.env = ([], [])) (hfr : ∀ y ∈ scope.names, y.2 = .free → ∃ c, X.env.cells.lookup y.1 = some c)
    (go : ∀ (f c' : Addr) (H1 : Hp) (s' : Shared), Inv X pins σ H1 s' → ExtN H H1 → (∀ a ps, H a = some (.tbl ps) → ∃ ps', H1 a = some (.tbl ps')) → Tabs TabI.T H1 → LamAt X params body scope f c' H1 s' → Q (.ref f) s') :
    wpAny (model X.prog X.w) X.A (eval (.Lambda params body scope pos) X.env) Q E s := by
  obtain ⟨ps, e0, t3, known⟩ := tt _ hin
  have builtP := tb.bm.keeps I.bk
  have objP := I.hok P _ e0
  refine PySem.W.kla_eval hdf ?_
  cases hq : codeAmong pos ps.toList with
  | some cv =>
    obtain ⟨d, rfl, hd⟩ := known pos cv hq
    refine PySem.W.kla_makeFunctionHit (closure_ok hfr) I.ok.glob (I.mod.glob.keeps I.bk) hcd (tb.code.keeps I.bk) objP t3 hq builtP fun ctv g tk kp sz => ?_
    have J : Inv X pins σ H { s with heap := g.push (lamOb (X.env.qual ++ "<lambda>") params body scope (cloFrom X.env.cells scope.names []) ((X.mg "__name__").getD .none) d ctv), toks := tk } := I.kept fun b o z => Heap.get?_push_of_some _ (kp b o z)
    exact go _ d H _ J (ExtN.refl H) (fun a qs z => ⟨qs, z⟩) tt ⟨⟨_, ctv, Heap.get?_push_size _ rfl⟩, I.hok.fresh sz, fresh_nofr I sz, hd⟩
  | none =>
    refine PySem.W.kla_makeFunction (closure_ok hfr) I.ok.glob (I.mod.glob.keeps I.bk) hcd (tb.code.keeps I.bk) objP t3 hq tb.gP builtP fun d ctv g tk eb dge dlt cr tab => ?_
    obtain ⟨d', oc, vs, t, ed, g1, g2, g3⟩ := cr
    cases ed
    have size_le : s.heap.objs.size ≤ g.objs.size := Nat.le_of_lt (Nat.lt_of_le_of_lt dge dlt)
    have dnone : H d = none := I.hok.fresh dge
    let more : Array Value := #[rawInt pos.line, rawInt pos.col, .ref d]
    have J := inv_table (t' := tk) (more := more) (q := X.env.qual ++ "<lambda>") (h' := g.push (lamOb (X.env.qual ++ "<lambda>") params body scope (cloFrom X.env.cells scope.names []) ((X.mg "__name__").getD .none) d ctv)) I e0
      (fun b o nb z => Heap.get?_push_of_some _ (eb b o nb z)) (Heap.get?_push_of_some _ tab) dge ⟨oc, vs, t, Heap.get?_push_of_some _ g1, g2, g3⟩
    have atd : upd (upd H P (.tbl (ps ++ more))) d (CodeO d (X.env.qual ++ "<lambda>")) d = some (CodeO d (X.env.qual ++ "<lambda>")) := upd_same
    have atP : upd (upd H P (.tbl (ps ++ more))) d (CodeO d (X.env.qual ++ "<lambda>")) P = some (.tbl (ps ++ more)) := (upd_ne (ne_of_none e0 dnone)).trans upd_same
    have ext : ExtN H (upd (upd H P (.tbl (ps ++ more))) d (CodeO d (X.env.qual ++ "<lambda>"))) := fun b o z nt => by
      have b1 : b ≠ d := ne_of_none z dnone
      have b2 : b ≠ P := fun w => nt ps (by rw [w, e0] at z; exact (Option.some.inj z).symm)
      exact ((upd_ne b1).trans (upd_ne b2)).trans z
    have grow : ∀ a qs, H a = some (.tbl qs) → ∃ qs', upd (upd H P (.tbl (ps ++ more))) d (CodeO d (X.env.qual ++ "<lambda>")) a = some (.tbl qs') := fun a qs z => by
      by_cases w : a = P
      · exact ⟨_, by rw [w]; exact atP⟩
      · exact ⟨qs, ((upd_ne (ne_of_none z dnone)).trans (upd_ne w)).trans z⟩
    have tl : (ps ++ more).toList = ps.toList ++ [rawInt pos.line, rawInt pos.col, .ref d] := by simp [more]
    refine go _ d _ _ J ext grow (fun p hp => ?_) ⟨⟨_, ctv, Heap.get?_push_size _ rfl⟩, ?_, fresh_nofr I size_le, atd⟩
    · by_cases w : p.1 = P
      · rw [hun p hp w, w]
        refine ⟨_, atP, by rw [tl]; exact PySem.TriplesOk_snoc _ _ _ _ t3, fun pos2 cv hcv => ?_⟩
        rw [tl] at hcv
        cases among_app _ t3 hcv with
        | inl z =>
          obtain ⟨c2, f1, f2⟩ := known pos2 cv z
          exact ⟨c2, f1, ext _ _ f2 codeO_ne⟩
        | inr z => exact ⟨d, z, atd⟩
      · obtain ⟨qs, f1, f2, f3⟩ := tt p hp
        refine ⟨qs, ((upd_ne (ne_of_none f1 dnone)).trans (upd_ne w)).trans f1, f2, fun pos2 cv hcv => ?_⟩
        obtain ⟨c2, g1, g2⟩ := f3 pos2 cv hcv
        exact ⟨c2, g1, ext _ _ g2 codeO_ne⟩
    · have n1 : g.objs.size ≠ d := Nat.ne_of_gt dlt
      have n2 : g.objs.size ≠ P := fun w => by
        have h1 : P < s.heap.objs.size := Heap.lt_size objP
        rw [← w] at h1
        exact Nat.lt_irrefl _ (Nat.lt_of_lt_of_le h1 size_le)
      exact ((upd_ne n1).trans (upd_ne n2)).trans (I.hok.fresh size_le)
end
/-! ### what a closure is worth -/
section
variable (P : Program) (w : World) (K : PySem.W.Frag) (mg : Str → Option Value) (base : Heap) (CX : CXT) (ct : Nat → Option Value) (tr : XK → XK)
structure CloRun (kk : Nat) (L : List W → List W → Hw → R W) (f c : Addr) (q : Str) (cvs : List V) (fs : List Addr) (s : Shared) (H : Hp) : Prop where
  fn : PySem.W.FnAt f s.heap
  un : H f = none
  nf : f ∉ fs
  run : ∀ (A : Around) (outer : List PySem.Env) (s' : Shared) (H' : Hp) (ρ : List Addr) (h : Hw) (cs ws : List W) (us : List Value) (vs : List V) (Q : VK) (E : XK), Room kk A → A.guards = some [] → Env0 P w K mg base A outer s' H' → Un fs [] H H' s.heap s'.heap →
    H' c = some (CodeO c q) → Rel K ρ h H' → VRs K ρ H' cs cvs → VRs K ρ H' ws vs → Vals vs us → rd K ct (tr E) ρ H' (L cs ws h) (QW K Q) → codeAny (model P w) A (.call (.ref f) ⟨us, []⟩) (CR CX outer P w H' s' Q E) s'
/-- a def that gets a closure behind its other arguments -/
def FnC (k kk : Nat) (C : CT) (i : Nat) (g : Addr) (fd : FuncData) (ps : List Str) : Prop :=
  ∀ (A : Around) (outer : List PySem.Env) (s : Shared) (H : Hp) (ars : Args) (us : List Value) (vs : List V) (ws : List W) (f c : Addr) (q : Str) (cvs : List V) (cs : List W) (L : List W → List W → Hw → R W) (ρ : List Addr) (h : Hw) (Q : VK) (E : XK),
    Room k A → A.guards = some [] → Env0 P w K mg base A outer s H → (us.length = ps.length → BindsTo s fd ars (ps.zip us)) → Vals (vs ++ [.ref f]) us → Rel K ρ h H → VRs K ρ H ws vs → VRs K ρ H cs cvs → H c = some (CodeO c q) → CloRun P w K mg base CX ct tr kk L f c q cvs (frs outer) s H →
    rd K ct (tr E) ρ H (C.c i ws cs L h) (QW K Q) → codeAny (model P w) A (.call (.ref g) ars) (CR CX outer P w H s Q E) s
/-- what is left behind a def that hands back a closure -/
def CRM (kk : Nat) (outer : List PySem.Env) (H : Hp) (s : Shared) (Q : Addr → Shared → Hp → Prop) (E : XK) (r : Result) (s' : Shared) : Prop := match r with
  | .ok (.ret u) => ∃ f H', u = .ref f ∧ s'.os = s.os ∧ AllBare s'.gens ∧ Un (frs outer) [] H H' s.heap s'.heap ∧ HOk P w H' s'.heap ∧ Q f s' H'
  | .ok _ => False
  | .error e => CX outer H s E e s'
/-- a def that hands back a closure -/
def FnM (k kk : Nat) (C : CT) (i : Nat) (g : Addr) (fd : FuncData) (ps : List Str) : Prop :=
  ∀ (A : Around) (outer : List PySem.Env) (s : Shared) (H : Hp) (ars : Args) (us : List Value) (vs : List V) (ws : List W) (ρ : List Addr) (h : Hw) (Q : Addr → Shared → Hp → Prop) (E : XK),
    Room k A → A.guards = some [] → Env0 P w K mg base A outer s H → (us.length = ps.length → BindsTo s fd ars (ps.zip us)) → Vals vs us → Rel K ρ h H → VRs K ρ H ws vs →
    rd K ct (tr E) ρ H (C.m i ws h) (fun p ρ' h' H' => ∀ (f c : Addr) (q : Str) (cvs : List V) (s' : Shared), VRs K ρ' H' p.1 cvs → H' c = some (CodeO c q) → CloRun P w K mg base CX ct tr kk p.2 f c q cvs (frs outer) s' H' → Q f s' H') →
    codeAny (model P w) A (.call (.ref g) ars) (CRM P w CX kk outer H s Q E) s
end
section
variable {P : Program} {w : World} {K : PySem.W.Frag} {mg : Str → Option Value} {base : Heap} {CX : CXT} {ct : Nat → Option Value} {tr : XK → XK} {kk : Nat} {f c : Addr} {q : Str} {cvs : List V} {fs : List Addr} {s : Shared} {H : Hp}
theorem cells_un {H' : Hp} {s' : Shared} {cl : List (Str × Addr)} {fr : List Str} {ws : List (Option V)} (C : NdefX.CellsAt cl fr ws s.heap H) (u : Un fs [] H H' s.heap s'.heap) : NdefX.CellsAt cl fr ws s'.heap H' := by
  have stay : ∀ y a, cl.lookup y = some a → ∀ v, s.heap.IsCell a v → s'.heap.IsCell a v := fun y a e v ⟨o, e1, e2⟩ => by
    obtain ⟨sl, z⟩ := u.any e1 (C.all y a e).1 (by simp)
    exact ⟨_, z, e2⟩
  refine ⟨C.len, fun y a e => ?_, C.inj, fun i y e => ?_⟩
  · obtain ⟨n, v, hv⟩ := C.all y a e
    obtain ⟨o, e1, e2⟩ := hv
    exact ⟨u.free a o e1 n (by simp), v, stay y a e v ⟨o, e1, e2⟩⟩
  · obtain ⟨a, e1, e2⟩ := C.has i y e
    refine ⟨a, e1, fun v ev => ?_⟩
    obtain ⟨x, r, z⟩ := e2 v ev
    exact ⟨x, r, stay y a e1 _ z⟩
def lamL (np : Nat) (m : Env → Hw → R W) (cs us : List W) (h : Hw) : R W := bif Nat.beq us.length np then m (us.map some ++ cs.map some) h else .err
variable [CloI]
theorem er_lam {ρ : List Addr} {us cs : List W} {vs cvs : List V} {N : List Str} (hN : N.length = vs.length + cvs.length) (q1 : VRs K ρ H us vs) (q2 : VRs K ρ H cs cvs) : ER K ρ H (us.map some ++ cs.map some) (NdefX.startF N vs (cvs.map some)) := by
  have l1 := q1.length
  have l2 := q2.length
  unfold NdefX.startF
  refine ⟨by simp only [List.length_append, List.length_map, List.length_replicate]; omega, fun i u e => ?_⟩
  by_cases hi : i < us.length
  · rw [List.getElem?_append_left (by simpa using hi), List.getElem?_map, List.getElem?_eq_getElem hi] at e
    rw [List.getElem?_append_left (by simpa [l1] using hi), List.getElem?_map]
    obtain ⟨v, e2, qv⟩ := q1.get (List.getElem?_eq_getElem hi)
    rw [e2]
    have e := Option.some.inj (Option.some.inj e)
    subst e
    exact ⟨v, rfl, VE.of qv⟩
  · rw [List.getElem?_append_right (by simpa using hi), List.length_map, List.getElem?_map] at e
    have lvs : (vs.map some).length = us.length := by rw [List.length_map, l1]
    rw [List.getElem?_append_right (by rw [lvs]; omega), lvs]
    have hj : i - us.length < cs.length := by
      cases z : cs[i - us.length]? with
      | none => rw [z] at e; cases e
      | some _ => exact (List.getElem?_eq_some_iff.mp z).1
    rw [List.getElem?_eq_getElem hj] at e
    rw [List.getElem?_append_left (by simpa [l2] using hj), List.getElem?_map]
    obtain ⟨v, e2, qv⟩ := q2.get (List.getElem?_eq_getElem hj)
    rw [e2]
    have e := Option.some.inj (Option.some.inj e)
    subst e
    exact ⟨v, rfl, VE.of qv⟩
/-- a closure's worth by its body -/
theorem clo_run {params : Arguments} {body : Expr} {scope : Scope} {cl : List (Str × Addr)} {pm ctv : Value} {N ps fr : List Str} {m : Env → Hw → R W} (S : NdefX.NScope N ps fr scope) (hN : N.length = ps.length + fr.length)
    (hb : ∀ (q : Str) (cl : List (Str × Addr)) (pm cv ctv : Value) (us : List Value), us.length = ps.length → bindArgs (PySem.W.kla_fn "<lambda>" q params body scope cl pm cv ctv) ⟨us, []⟩ = pure (ps.zip us))
    (ho : s.heap.get? f = some (lamOb q params body scope cl pm c ctv)) (un : H f = none) (nf : f ∉ fs) (C : NdefX.CellsAt cl fr (cvs.map some) s.heap H)
    (hbd : ∀ (A : Around) (outer : List PySem.Env) (s' : Shared) (H' : Hp) (E : XK), Room kk (A.deeper (NdefX.envF (lamNF q params scope cl c) f s'.heap.objs.size)) → A.guards = some [] →
      PE (NdefX.ncx CX P w K mg base N (lamNF q params scope cl c) f A outer s' H' E) body (tE K ct (wx (tr E)) m)) :
    CloRun P w K mg base CX ct tr (kk + 1) (lamL ps.length m) f c q cvs fs s H := by
  refine ⟨⟨_, _, _, _, ho⟩, un, nf, fun A outer s' H' ρ h cs ws us vs Q E hr hg e0 u hc l qc qw rv rdq => ?_⟩
  obtain ⟨cnp, rdq⟩ := rdif rdq
  have lw : ws.length = ps.length := Nat.eq_of_beq_eq_true cnp
  have lv : vs.length = ps.length := qw.length.trans lw
  have lu : us.length = ps.length := rv.length.symm.trans lv
  have ho' := u.keep f _ ho un nf (by simp)
  have lim : s'.heap.NoLimit := e0.mod.nolimit.keeps fun b o e => (e0.bs b o e).1
  have C' := cells_un C u
  refine PySem.W.kla_callFunE hr.depth ho' rfl S.co S.gen rfl (NdefX.codeO_at e0.hok hc) ?_
  rw [hb _ _ _ _ _ us lu]
  refine wpAny_pure (wpAny_newFunctionEnv S.nocell (fun ⟨n, _⟩ hy => S.par n (List.of_mem_zip hy).1) (fun h1 hns hsb => ⟨lim.fresh _ hsb, ?_⟩) S.kind)
  have kp : ∀ b o, s'.heap.get? b = some o → h1.get? b = some o := fun b o e => hsb.extBut b o (Nat.ne_of_lt (Heap.lt_size e)) (Heap.get?_push_of_some _ e)
  show codeAny _ _ (.expr body (NdefX.envF (lamNF q params scope cl c) f s'.heap.objs.size)) _ _
  have J : Inv (NdefX.ncx CX P w K mg base N (lamNF q params scope cl c) f A outer s' H' E) [] (NdefX.startF N vs (cvs.map some)) H' { s' with heap := h1, toks := s'.toks + (ps.zip us).length } := NdefX.inv_startN S hr.hd e0 lv rv C' hns kp
  have lc : cvs.length = fr.length := by have := C.len; rwa [List.length_map] at this
  have rr := (hbd A outer s' H' E (hr.deeper _) hg).run [] _ _ H' Q J ⟨_, ρ, h, er_lam (by rw [hN, lv, lc]) qw qc, l, rdq⟩
  refine PySem.W.kla_codeExpr (wpAny_mono rr (fun v s2 hq => ?_) fun e s2 hq => hq)
  obtain ⟨v2, H2, J2, rv2, q2⟩ := hq
  exact ⟨v2, H2, J2.os, J2.bare, J2.base, J2.hok, rv2, q2⟩
end
/-! ### the closure that was handed in is called -/
def cloK (C : CT) (i : Nat) (mes : Env → Hw → R (List W)) (env : Env) (h : Hw) : R W := match cloOf env i with
  | some cs => (mes env h).bind fun ws h1 => C.v cs ws h1
  | none => .err
theorem cloOf_get {env : Env} {i : Nat} {cs : List W} (e : cloOf env i = some cs) : env[i]? = some (some (.clo cs)) := by
  unfold cloOf at e
  split at e
  · rename_i ws h
    cases e
    exact h
  · cases e
section
variable [CloI] {X : Cx} {CX : CXT} {ct : Nat → Option Value} {tr : XK → XK} {Wx : WX} {kk i : Nat} {C : CT} {x : Str} {p pos : Pos} {e : Expr} {es : List Expr} {mes : Env → Hw → R (List W)}
theorem after_c {pins : List (Addr × Obj)} {σ : L2.St} {H : Hp} {s : Shared} {Q : VK} {E : XK} {ar : Args} {fv : Value} {us : List Value} (I : Inv X pins σ H s) (hx : PassesAt CX X σ E) (har : ar = ⟨us, []⟩) (r : codeAny (model X.prog X.w) X.A (.call fv ar) (CR CX X.stack X.prog X.w H s Q E) s) :
    wpAny (model X.prog X.w) X.A (call fv us) (EP X pins σ Q) X.xe s := by
  subst har
  refine wpAny_call (codeAny_mono r fun res s' hres => ?_)
  match res, hres with
  | .error er, hres => exact hx pins H s er s' I hres
  | .ok (.ret u), hres => exact I.after hres
  | .ok .next, hres => exact False.elim hres
  | .ok .brk, hres => exact False.elim hres
  | .ok .cont, hres => exact False.elim hres
theorem run_clo {pins : List (Addr × Obj)} {σ : L2.St} {H : Hp} {s : Shared} {Q : VK} (R : CloRun X.prog X.w X.K X.mg X.base CX ct tr kk C.v CloI.f CloI.c CloI.q CloI.vs X.fs X.s_0 X.H_0) (hex : X.ex = []) (hr : Room kk X.A) (hgd : X.A.guards = some []) (htr : ∀ σ, tr (fun c d H => Wx c d σ H) = fun c d H => Wx c d σ H) (hx : ∀ σ, PassesAt CX X σ fun c d H => Wx c d σ H)
    (I : Inv X pins σ H s) {ρ : List Addr} {h : Hw} {cs ws : List W} {us : List Value} {vs : List V} (hc : H CloI.c = some (CodeO CloI.c CloI.q)) (l : Rel X.K ρ h H) (qc : VRs X.K ρ H cs CloI.vs) (qw : VRs X.K ρ H ws vs) (rv : Vals vs us) (q : rd X.K ct (fun c d => Wx c d σ) ρ H (C.v cs ws h) (QW X.K Q)) :
    wpAny (model X.prog X.w) X.A (call (.ref CloI.f) us) (EP X pins σ Q) X.xe s := by
  have u := I.base
  rw [hex] at u
  exact after_c I (hx σ) rfl (R.run X.A X.stack s H ρ h cs ws us vs Q (fun c d H => Wx c d σ H) hr hgd I.env0 u hc l qc qw rv (by rw [htr σ]; exact q))
theorem clo_at {pins : List (Addr × Obj)} {σ : L2.St} {H : Hp} {s : Shared} (R : CloRun X.prog X.w X.K X.mg X.base CX ct tr kk C.v CloI.f CloI.c CloI.q CloI.vs X.fs X.s_0 X.H_0) (hex : X.ex = []) (I : Inv X pins σ H s) : PySem.W.FnAt CloI.f s.heap := by
  obtain ⟨oc, od, fd, sl, ho⟩ := R.fn
  exact ⟨oc, od, fd, sl, I.base.keep _ _ ho R.un R.nf (by rw [hex]; simp)⟩
theorem w_callv (R : CloRun X.prog X.w X.K X.mg X.base CX ct tr kk C.v CloI.f CloI.c CloI.q CloI.vs X.fs X.s_0 X.H_0) (hex : X.ex = []) (hr : Room kk X.A) (hgd : X.A.guards = some []) (htr : ∀ σ, tr (fun c d H => Wx c d σ H) = fun c d H => Wx c d σ H) (hx : ∀ σ, PassesAt CX X σ fun c d H => Wx c d σ H)
    (hN : X.N[i]? = some x) (hv : Vis X.env.scope x) (hd : (x == ("__debug__" : Str)) = false) (hcd : (x == ("__classdict__" : Str)) = false) (ha : PA X (e :: es) (tA X.K ct Wx mes)) (he : starEach (e :: es) X.env = (false, eval e X.env) :: starEach es X.env) (hpl : (backTo pos (starEach es X.env)).any (·.1) = false) :
    PE X (.Call (.Name x p) (e :: es) [] pos) (tE X.K ct Wx (cloK C i mes)) := by
  refine ⟨fun pins s σ H Q I ⟨env, ρ, h, er, l, q⟩ => ?_⟩
  cases ec : cloOf env i with
  | none => simp only [cloK, ec] at q; exact absurd q rderr
  | some cs =>
    simp only [cloK, ec] at q
    obtain ⟨v, ev, hvf, hvs, hvc⟩ := er.get i _ (cloOf_get ec)
    subst hvf
    refine wpAny_Call_Name_kw (thn ((pe_var (pos := p) hN hv hd hcd).run pins s σ H (fun v H1 => v = .ref CloI.f ∧ H1 = H) I ⟨_, ev, rfl, rfl⟩) fun u s1 ⟨v, H1, I1, r1, q1⟩ => ?_)
    obtain ⟨rfl, rfl⟩ := q1
    cases r1
    have rdg : (tA X.K ct Wx mes) σ H1 fun vs H2 => ∃ ρ2 h2 ws, H2 CloI.c = some (CodeO CloI.c CloI.q) ∧ Rel X.K ρ2 h2 H2 ∧ VRs X.K ρ2 H2 cs CloI.vs ∧ VRs X.K ρ2 H2 ws vs ∧ rd X.K ct (fun c d => Wx c d σ) ρ2 H2 (C.v cs ws h2) (QW X.K Q) :=
      stepA er l q fun ws ρ2 h2 H2 s2 l2 er2 q2 vs qs => ⟨ρ2, h2, ws, s2.fr _ _ hvc (l.noExt hvc) codeO_ne, l2, hvs.mv l s2, qs, q2⟩
    exact PySem.W.callWith_F (first := []) (clo_at R hex I1) (thn (ha.run pos pins s1 σ H1 _ I1 rdg) fun us s2 ⟨vs, H2, I2, r, ρ2, h2, ws, g1, g2, g3, g4, g5⟩ => ⟨clo_at R hex I2, run_clo R hex hr hgd htr hx I2 g1 g2 g3 g4 r g5⟩) he hpl
theorem w_callv0 (R : CloRun X.prog X.w X.K X.mg X.base CX ct tr kk C.v CloI.f CloI.c CloI.q CloI.vs X.fs X.s_0 X.H_0) (hex : X.ex = []) (hr : Room kk X.A) (hgd : X.A.guards = some []) (htr : ∀ σ, tr (fun c d H => Wx c d σ H) = fun c d H => Wx c d σ H) (hx : ∀ σ, PassesAt CX X σ fun c d H => Wx c d σ H)
    (hN : X.N[i]? = some x) (hv : Vis X.env.scope x) (hd : (x == ("__debug__" : Str)) = false) (hcd : (x == ("__classdict__" : Str)) = false) :
    PE X (.Call (.Name x p) [] [] pos) (tE X.K ct Wx (cloK C i fun _ h => .ok [] h)) := by
  refine ⟨fun pins s σ H Q I ⟨env, ρ, h, er, l, q⟩ => ?_⟩
  cases ec : cloOf env i with
  | none => simp only [cloK, ec] at q; exact absurd q rderr
  | some cs =>
    simp only [cloK, ec] at q
    obtain ⟨v, ev, hvf, hvs, hvc⟩ := er.get i _ (cloOf_get ec)
    subst hvf
    refine wpAny_Call_Name_kw (thn ((pe_var (pos := p) hN hv hd hcd).run pins s σ H (fun v H1 => v = .ref CloI.f ∧ H1 = H) I ⟨_, ev, rfl, rfl⟩) fun u s1 ⟨v, H1, I1, r1, q1⟩ => ?_)
    obtain ⟨rfl, rfl⟩ := q1
    cases r1
    exact PySem.W.callWith_F0 (first := []) (clo_at R hex I1) (run_clo (us := []) (vs := []) (ws := []) R hex hr hgd htr hx I1 hvc l hvs (VRs.nil_iff.mpr rfl) .nil q)
end
/-! ### a def is called, a closure its last argument -/
section
variable [CloI] (X : Cx) (CX : CXT) (ct : Nat → Option Value) (tr : XK → XK) (Wx : WX) (kk : Nat)
/-- what makes a closure -/
def PL (last : Expr) (ml : Env → Hw → R (List W × (List W → List W → Hw → R W))) : Prop :=
  ∀ (pins : List (Addr × Obj)) (s : Shared) (σ : L2.St) (H : Hp) (env : Env) (ρ : List Addr) (h : Hw) (Q : Value → Shared → Prop), Inv X pins σ H s → ER X.K ρ H env σ → Rel X.K ρ h H →
    rd X.K ct (fun c d => Wx c d σ) ρ H (ml env h) (fun p ρ1 h1 H1 => ∀ (f c : Addr) (q : Str) (cvs : List V) (s1 : Shared), Inv X pins σ H1 s1 → VRs X.K ρ1 H1 p.1 cvs → H1 c = some (CodeO c q) → CloRun X.prog X.w X.K X.mg X.base CX ct tr kk p.2 f c q cvs (frs X.stack) s1 H1 → Q (.ref f) s1) →
    wpAny (model X.prog X.w) X.A (eval last X.env) Q X.xe s
/-- arguments, a closure behind them -/
def PAL (es : List Expr) (last : Expr) (m : Env → Hw → R (List W × List W × (List W → List W → Hw → R W))) : Prop :=
  ∀ (pos : Pos) (pins : List (Addr × Obj)) (s : Shared) (σ : L2.St) (H : Hp) (env : Env) (ρ : List Addr) (h : Hw) (Q : List Value → Shared → Prop), Inv X pins σ H s → ER X.K ρ H env σ → Rel X.K ρ h H →
    rd X.K ct (fun c d => Wx c d σ) ρ H (m env h) (fun p ρ1 h1 H1 => ∀ (us : List Value) (vs : List V) (f c : Addr) (q : Str) (cvs : List V) (s1 : Shared), Inv X pins σ H1 s1 → Rel X.K ρ1 h1 H1 → VRs X.K ρ1 H1 p.1 vs → Vals vs us → VRs X.K ρ1 H1 p.2.1 cvs → H1 c = some (CodeO c q) →
      CloRun X.prog X.w X.K X.mg X.base CX ct tr kk p.2.2 f c q cvs (frs X.stack) s1 H1 → Q (us ++ [.ref f]) s1) →
    wpAny (model X.prog X.w) X.A (spliced (backTo pos (starEach (es ++ [last]) X.env))) Q X.xe s
end
section
variable [CloI] {X : Cx} {CX : CXT} {ct : Nat → Option Value} {tr : XK → XK} {Wx : WX} {kk : Nat} {last e : Expr} {es : List Expr} {ml : Env → Hw → R (List W × (List W → List W → Hw → R W))} {me : Env → Hw → R W} {m : Env → Hw → R (List W × List W × (List W → List W → Hw → R W))}
theorem pal_nil (hl : PL X CX ct tr Wx kk last ml) (hs : starEach [last] X.env = [(false, eval last X.env)]) : PAL X CX ct tr Wx kk [] last fun env h => (ml env h).bind fun p h1 => .ok ([], p.1, p.2) h1 := by
  intro pos pins s σ H env ρ h Q I er l q
  show wpAny _ _ (spliced (backTo pos (starEach [last] X.env))) _ _ _
  rw [hs]
  show wpAny _ _ (spliced ((false, eval last X.env) :: [])) _ _ _
  refine Calls.spliced_cons (hl pins s σ H env ρ h _ I er l ((rd.bind q).imp fun p ρ1 h1 H1 s1 l1 q1 f c qn cvs s1' I1 qc hc R => ?_))
  exact Calls.spliced_nil (rd.fine q1 l1 [] [] f c qn cvs s1' I1 l1 (VRs.nil_iff.mpr rfl) .nil qc hc R)
theorem pal_cons (he : PE X e (tE X.K ct Wx me)) (hr : PAL X CX ct tr Wx kk es last m) (hs : starEach (e :: (es ++ [last])) X.env = (false, eval e X.env) :: starEach (es ++ [last]) X.env) :
    PAL X CX ct tr Wx kk (e :: es) last fun env h => (me env h).bind fun x h1 => (m env h1).bind fun p h2 => .ok (x :: p.1, p.2.1, p.2.2) h2 := by
  intro pos pins s σ H env ρ h Q I er l q
  show wpAny _ _ (spliced (backTo pos (starEach (e :: (es ++ [last])) X.env))) _ _ _
  rw [hs]
  show wpAny _ _ (spliced ((false, eval e X.env) :: backTo pos (starEach (es ++ [last]) X.env))) _ _ _
  have rdg : (tE X.K ct Wx me) σ H fun v H1 => ∃ ρ1 h1 x, Rel X.K ρ1 h1 H1 ∧ ER X.K ρ1 H1 env σ ∧ VR X.K ρ1 H1 x v ∧ rd X.K ct (fun c d => Wx c d σ) ρ1 H1 ((m env h1).bind fun p h2 => .ok (x :: p.1, p.2.1, p.2.2) h2) _ :=
    stepE er l q fun x ρ1 h1 H1 s1 l1 er1 q1 v qv => ⟨ρ1, h1, x, l1, er1, qv, q1⟩
  refine Calls.spliced_cons (thn (he.run pins s σ H _ I rdg) fun u s1 ⟨v, H1, I1, r1, ρ1, h1, x, l1, er1, qv, q1⟩ => ?_)
  refine hr pos pins s1 σ H1 env ρ1 h1 _ I1 er1 l1 ((rd.bind q1).imp fun p ρ2 h2 H2 s2 l2 q2 us vs f c qn cvs s2' I2 _ qw rv qc hc R => ?_)
  exact rd.fine q2 l2 (u :: us) (v :: vs) f c qn cvs s2' I2 l2 (VRs.cons_iff.mpr ⟨v, vs, rfl, qv.mv l1 s2, qw⟩) (.cons r1 rv) qc hc R
variable {k i : Nat} {g : Addr} {fd : FuncData} {ps : List Str} {x : Str} {p pos : Pos} {C : CT}
theorem w_callC (F : FnC X.prog X.w X.K X.mg X.base CX ct tr k kk C i g fd ps) (htr : ∀ σ, tr (fun c d H => Wx c d σ H) = fun c d H => Wx c d σ H) (hr : Room k X.A) (hgd : X.A.guards = some []) (hg : Gl X x) (hm : X.mg x = some (.ref g)) (hk : PySem.W.keepIn X.K (.ref g) = true) (hb : Binds X.K fd ps [])
    (hx : ∀ σ, PassesAt CX X σ fun c d H => Wx c d σ H) (ha : PAL X CX ct tr Wx kk es last m) (hdb : (x == ("__debug__" : Str)) = false) (hn : ∀ e ∈ es ++ [last], ∀ r, starEach (e :: r) X.env = (false, eval e X.env) :: starEach r X.env) (hpl : ∀ e r, es ++ [last] = e :: r → (backTo pos (starEach r X.env)).any (·.1) = false) :
    PE X (.Call (.Name x p) (es ++ [last]) [] pos) (tE X.K ct Wx fun env h => (m env h).bind fun p h1 => C.c i p.1 p.2.1 p.2.2 h1) := by
  refine ⟨fun pins s σ H Q I ⟨env, ρ, h, er, l, q⟩ => ?_⟩
  refine wpAny_Call_Name_kw (ld_glob I hg hm ?_ hdb)
  have body := ha pos pins s σ H env ρ h (fun us s1 => X.K.In s1.heap ∧ wpAny (model X.prog X.w) X.A (call (.ref g) us) (EP X pins σ Q) X.xe s1) I er l ((rd.bind q).imp fun p ρ1 h1 H1 s1 l1 q1 us vs f c qn cvs s1' I1 _ qw rv qc hc R => by
    refine ⟨I1.kIn, after_c I1 (hx σ) rfl (F X.A X.stack s1' H1 ⟨us ++ [.ref f], []⟩ (us ++ [.ref f]) vs p.1 f c qn cvs p.2.1 p.2.2 ρ1 h1 Q (fun c d H => Wx c d σ H) hr hgd I1.env0 (fun ll => ?_) (rv.append (.cons (show RelV (V.ref f) (Value.ref f) from rfl) .nil)) l1 qw qc hc R (by rw [htr σ]; exact q1))⟩
    have bd := hb s1' (us ++ [.ref f]) I1.kIn (by rw [List.append_nil]; exact ll)
    rw [List.append_nil] at bd
    exact bd)
  cases hes : es ++ [last] with
  | nil => exact absurd hes (by simp)
  | cons e0 r0 =>
    rw [hes] at body
    exact PySem.W.callWith_K (h₀ := X.base) I.ok.mod.kin hk body (hn e0 (by rw [hes]; exact List.mem_cons_self) r0) (hpl e0 r0 hes)
end
/-! ### a lambda as the last argument -/
section
variable [CloI] {X : Cx} {CX : CXT} {ct : Nat → Option Value} {tr : XK → XK} {Wx : WX} {kk : Nat}
theorem caps_ok {K : PySem.W.Frag} {ρ : List Addr} {H : Hp} {env : Env} {σ : L2.St} (er : ER K ρ H env σ) : ∀ {caps : List Nat} {cs : List W}, capsOf env caps = some cs → ∃ cvs, caps.map (NdefX.slotAt σ) = cvs.map some ∧ VRs K ρ H cs cvs
  | [], cs, e => by
    cases e
    exact ⟨[], rfl, VRs.nil_iff.mpr rfl⟩
  | i :: r, cs, e => by
    unfold capsOf at e
    rw [List.map_cons] at e
    cases e1 : slotV env i with
    | none => rw [e1] at e; cases e
    | some w =>
      rw [e1] at e
      cases e2 : optAll (r.map (slotV env)) with
      | none => simp only [optAll, e2] at e; cases e
      | some ws =>
        simp only [optAll, e2] at e
        cases e
        obtain ⟨v, ev, qv⟩ := er.slot e1
        obtain ⟨cvs, h1, h2⟩ := caps_ok er (caps := r) (cs := ws) e2
        exact ⟨v :: cvs, by rw [List.map_cons, List.map_cons, h1, NdefX.slotAt_of ev], VRs.cons_iff.mpr ⟨v, cvs, rfl, qv, h2⟩⟩
def lamM (np : Nat) (caps : List Nat) (m : Env → Hw → R W) (env : Env) (h : Hw) : R (List W × (List W → List W → Hw → R W)) := match capsOf env caps with
  | some cs => .ok (cs, lamL np m) h
  | none => .err
/-- what is asked of the place of a lambda -/
structure LamOk (X : Cx) (N ps fr : List Str) (caps : List Nat) (params : Arguments) (body : Expr) (scope : Scope) : Prop where
  tab : ∃ c P, TabB X.base X.mg c P ∧ X.env.code = .ref c ∧ (P, X.env.qual ++ "<lambda>") ∈ TabI.T ∧ ∀ p ∈ TabI.T, p.1 = P → p.2 = X.env.qual ++ "<lambda>"
  df : defaultsOf params X.env = ([], [])
  sc : NdefX.NScope N ps fr scope
  len : N.length = ps.length + fr.length
  nd : NdefX.ndefB X.env.scope scope fr = true
  at_ : caps.map (fun j => X.N[j]?) = fr.map some
  bd : ∀ (q : Str) (cl : List (Str × Addr)) (pm cv ctv : Value) (us : List Value), us.length = ps.length → bindArgs (PySem.W.kla_fn "<lambda>" q params body scope cl pm cv ctv) ⟨us, []⟩ = pure (ps.zip us)
theorem lam_free {N ps fr : List Str} {caps : List Nat} {params : Arguments} {body : Expr} {scope : Scope} (L : LamOk X N ps fr caps params body scope) (ok : X.Ok) : ∀ y ∈ scope.names, y.2 = .free → ∃ c, X.env.cells.lookup y.1 = some c := fun y hy e =>
  (NdefX.ndef_free L.nd y hy e).elim (fun z => ok.has _ (.inl z)) fun z => ok.has _ (.inr z)
/-- the lambda just made, as a closure -/
theorem lam_run {pins : List (Addr × Obj)} {σ : L2.St} {N ps fr : List Str} {caps : List Nat} {params : Arguments} {body : Expr} {scope : Scope} {m : Env → Hw → R W} (L : LamOk X N ps fr caps params body scope)
    (hbd : ∀ (A : Around) (outer : List PySem.Env) (s' : Shared) (H' : Hp) (E : XK) (f c : Addr), Room kk (A.deeper (NdefX.envF (lamNF (X.env.qual ++ "<lambda>") params scope (cloFrom X.env.cells scope.names []) c) f s'.heap.objs.size)) → A.guards = some [] →
      PE (NdefX.ncx CX X.prog X.w X.K X.mg X.base N (lamNF (X.env.qual ++ "<lambda>") params scope (cloFrom X.env.cells scope.names []) c) f A outer s' H' E) body (tE X.K ct (wx (tr E)) m))
    {f c : Addr} {H1 : Hp} {s1 : Shared} (I1 : Inv X pins σ H1 s1) (la : LamAt X params body scope f c H1 s1) {ρ : List Addr} {env : Env} (er : ER X.K ρ H1 env σ) {cs : List W} (hc : capsOf env caps = some cs) :
    ∃ cvs, VRs X.K ρ H1 cs cvs ∧ CloRun X.prog X.w X.K X.mg X.base CX ct tr (kk + 1) (lamL ps.length m) f c (X.env.qual ++ "<lambda>") cvs (frs X.stack) s1 H1 := by
  obtain ⟨cvs, e1, e2⟩ := caps_ok er hc
  obtain ⟨pm, ctv, ho⟩ := la.ob
  have C := NdefX.cells_of I1 (NdefX.Caps.made (fr := fr) (js := caps) I1.ok (NdefX.ndef_free L.nd) (NdefX.ndef_fr L.nd) L.at_)
  rw [e1] at C
  exact ⟨cvs, e2, clo_run L.sc L.len L.bd ho la.un la.nf C fun A outer s' H' E hr hg => hbd A outer s' H' E f c hr hg⟩
theorem w_lam {N ps fr : List Str} {caps : List Nat} {params : Arguments} {body : Expr} {scope : Scope} {pos : Pos} {m : Env → Hw → R W} (L : LamOk X N ps fr caps params body scope)
    (hbd : ∀ (A : Around) (outer : List PySem.Env) (s' : Shared) (H' : Hp) (E : XK) (f c : Addr), Room kk (A.deeper (NdefX.envF (lamNF (X.env.qual ++ "<lambda>") params scope (cloFrom X.env.cells scope.names []) c) f s'.heap.objs.size)) → A.guards = some [] →
      PE (NdefX.ncx CX X.prog X.w X.K X.mg X.base N (lamNF (X.env.qual ++ "<lambda>") params scope (cloFrom X.env.cells scope.names []) c) f A outer s' H' E) body (tE X.K ct (wx (tr E)) m)) :
    PL X CX ct tr Wx (kk + 1) (.Lambda params body scope pos) (lamM ps.length caps m) := by
  intro pins s σ H env ρ h Q I er l q
  cases hc : capsOf env caps with
  | none => simp only [lamM, hc] at q; exact absurd q rderr
  | some cs =>
    simp only [lamM, hc] at q
    obtain ⟨c0, P0, tb, h1, h2, h3⟩ := L.tab
    refine lam_mk I tb h1 h2 h3 l.tab L.df (lam_free L I.ok) fun f c H1 s1 I1 ex tg tt la => ?_
    have st : Stp ρ ρ H H1 := Stp.ofExt ex tg
    have l1 := l.ofExt ex tg tt
    obtain ⟨cvs, qc, R⟩ := lam_run L hbd I1 la (er.mv l st) hc
    exact q ρ H1 st l1 f c _ cvs s1 I1 qc la.co R
/-- g(..), which hands back a closure -/
theorem w_mk {k i : Nat} {g : Addr} {fd : FuncData} {ps : List Str} {x : Str} {p pos : Pos} {C : CT} {e : Expr} {es : List Expr} {mes : Env → Hw → R (List W)} (F : FnM X.prog X.w X.K X.mg X.base CX ct tr k kk C i g fd ps) (htr : ∀ σ, tr (fun c d H => Wx c d σ H) = fun c d H => Wx c d σ H) (hr : Room k X.A) (hgd : X.A.guards = some []) (hg : Gl X x) (hm : X.mg x = some (.ref g)) (hk : PySem.W.keepIn X.K (.ref g) = true) (hb : Binds X.K fd ps [])
    (hx : ∀ σ, PassesAt CX X σ fun c d H => Wx c d σ H) (ha : PA X (e :: es) (tA X.K ct Wx mes)) (hdb : (x == ("__debug__" : Str)) = false) (he : starEach (e :: es) X.env = (false, eval e X.env) :: starEach es X.env) (hpl : (backTo pos (starEach es X.env)).any (·.1) = false) :
    PL X CX ct tr Wx kk (.Call (.Name x p) (e :: es) [] pos) fun env h => (mes env h).bind fun us h2 => C.m i us h2 := by
  intro pins s σ H env ρ h Q I er l q
  refine wpAny_Call_Name_kw (ld_glob I hg hm ?_ hdb)
  have rdg : (tA X.K ct Wx mes) σ H fun vs H1 => ∃ ρ1 h1 ws, Rel X.K ρ1 h1 H1 ∧ VRs X.K ρ1 H1 ws vs ∧ rd X.K ct (fun c d => Wx c d σ) ρ1 H1 (C.m i ws h1) _ := stepA er l q fun ws ρ1 h1 H1 s1 l1 er1 q1 vs qs => ⟨ρ1, h1, ws, l1, qs, q1⟩
  refine PySem.W.callWith_K (h₀ := X.base) I.ok.mod.kin hk (thn (ha.run pos pins s σ H _ I rdg) fun us s1 ⟨vs, H1, I1, r, ρ1, h1, ws, l1, qs, q1⟩ => ⟨I1.kIn, ?_⟩) he hpl
  show wpAny _ _ (call (.ref g) us) _ _ _
  refine wpAny_call (codeAny_mono (F X.A X.stack s1 H1 ⟨us, []⟩ us vs ws ρ1 h1 (fun f s' H' => Inv X pins σ H' s' → Q (.ref f) s') (fun c d H => Wx c d σ H) hr hgd I1.env0 (fun ll => ?_) r l1 qs ?_) fun res s' hres => ?_)
  · have bd := hb s1 us I1.kIn (by rw [List.append_nil]; exact ll)
    rw [List.append_nil] at bd
    exact bd
  · rw [htr σ]
    exact q1.imp fun p ρ2 h2 H2 s2 l2 q2 f c qn cvs s' qc hc R J => q2 f c qn cvs s' J qc hc R
  · match res, hres with
    | .error er, hres => exact hx σ pins H1 s1 er s' I1 hres
    | .ok (.ret u), hres =>
      obtain ⟨f, H', rfl, os, bare, un, hok, z⟩ := hres
      refine z ?_
      obtain ⟨hh, g, d, t, os'⟩ := s'
      obtain rfl : os' = s1.os := os
      exact I1.call (h' := hh) (g' := g) (d' := d) (t' := t) (ch := []) un hok bare fun b z => absurd z (by simp)
    | .ok .next, hres => exact False.elim hres
    | .ok .brk, hres => exact False.elim hres
    | .ok .cont, hres => exact False.elim hres
end
/-! ### the defs -/
theorem er_startC [CloI] {K : PySem.W.Frag} {N : List Str} {ρ : List Addr} {H : Hp} {ws cs : List W} {vs : List V} {n : Nat} (q : VRs K ρ H ws vs) (hn : n = N.length - (vs ++ [V.ref CloI.f]).length) (qc : VRs K ρ H cs CloI.vs) (hc : H CloI.c = some (CodeO CloI.c CloI.q)) :
    ER K ρ H ((ws ++ [W.clo cs]).map some ++ List.replicate n none) (L2.start N (vs ++ [V.ref CloI.f])) := by
  subst hn
  have hl := q.length
  unfold L2.start
  rw [List.map_append, List.map_append, List.append_assoc, List.append_assoc]
  refine ⟨by simp only [List.length_append, List.length_map, List.length_replicate, hl]; simp, fun j u e => ?_⟩
  by_cases hj : j < ws.length
  · rw [List.getElem?_append_left (by simpa using hj), List.getElem?_map, List.getElem?_eq_getElem hj] at e
    rw [List.getElem?_append_left (by simpa [hl] using hj), List.getElem?_map]
    obtain ⟨v, e2, qv⟩ := q.get (List.getElem?_eq_getElem hj)
    rw [e2]
    have e := Option.some.inj (Option.some.inj e)
    subst e
    exact ⟨v, rfl, VE.of qv⟩
  · have lvs : (vs.map some).length = ws.length := by rw [List.length_map, hl]
    rw [List.getElem?_append_right (by simpa using hj), List.length_map] at e
    rw [List.getElem?_append_right (by rw [lvs]; omega), lvs]
    cases hz : j - ws.length with
    | zero =>
      rw [hz] at e
      have e : some (some (W.clo cs)) = some (some u) := e
      cases e
      exact ⟨_, rfl, rfl, qc, hc⟩
    | succ m =>
      rw [hz] at e
      have e : (List.replicate (N.length - (vs ++ [V.ref CloI.f]).length) (none : Option W))[m]? = some (some u) := e
      rw [List.getElem?_replicate] at e
      split at e <;> cases e
section
variable {CX : CXT} {P : Program} {w : World} {K : PySem.W.Frag} {mg : Str → Option Value} {base : Heap} {k kk kc : Nat} {g : Addr} {name qual : Str} {params : Arguments} {body : List Stmt} {scope : Scope} {dV kV doc pm cdv ctr oc : Value} {an od : Option Addr}
  {osl : Array (Option Value)} {N ps : List Str} {ct : Nat → Option Value} {tr : XK → XK} {tb : List Fn} {wf i : Nat} {fn : Fn}
/-- a def that gets a closure, by its body -/
theorem defC (hi : tb[i]? = some fn) (hns : fn.ns = N.length) (hnp : fn.np = ps.length)
    (lk : K.lookup g = some ⟨oc, od, .func (PySem.W.fnOf name qual params body scope dV kV doc pm an cdv ctr), osl⟩) (hcd : PySem.W.codeIn K cdv qual = true) (S : FnScope N ps scope)
    (hbd : ∀ [CloI] (A : Around) (outer : List PySem.Env) (s : Shared) (H : Hp) (E : XK) (L : List W → List W → Hw → R W), fn.lam = none → fn.clo = true → Room kk (A.deeper (envOfC qual scope s.heap.objs.size g cdv)) → A.guards = some [] →
      CloRun P w K mg base CX ct tr kc L CloI.f CloI.c CloI.q CloI.vs (frs outer) s H →
      PSs (cxOf CX P w K mg base N qual scope g cdv A outer s H E) body (tS K ct (tr E) (exL ((callF tb wf k).with L) wf fn.body))) :
    FnC P w K mg base CX ct tr (kk + 1) kc (callF tb wf (k + 1)) i g (PySem.W.fnOf name qual params body scope dV kV doc pm an cdv ctr) ps := by
  intro A outer s H ars us vs ws f c q cvs cs L ρ h Q E hr hgd en bd rv l qw qc hc R q0
  letI : CloI := ⟨f, c, q, cvs⟩
  unfold callF at q0
  have q0 : rd K ct (tr E) ρ H (match tb[i]? with
      | some fn => bif Nat.beq (ws.length + 1) fn.np && (fn.lam.isNone && fn.clo) then runC (callF tb wf k) wf fn ws cs L h else .err
      | none => .err) (QW K Q) := q0
  rw [hi] at q0
  obtain ⟨cc, q0⟩ := rdif q0
  obtain ⟨cc, cl⟩ := Bool.and_eq_true_iff.mp cc
  have cc := Nat.eq_of_beq_eq_true cc
  obtain ⟨cl, cl2⟩ := Bool.and_eq_true_iff.mp cl
  have cl := Option.isNone_iff_eq_none.mp cl
  have lv : (vs ++ [V.ref f]).length = ps.length := by rw [List.length_append, qw.length, ← hnp, ← cc]; rfl
  have lu : us.length = ps.length := rv.length.symm.trans lv
  have kin : K.In s.heap := en.mod.kin.keeps fun b o z => (en.bs b o z).1
  have nolim : s.heap.NoLimit := en.mod.nolimit.keeps fun b o z => (en.bs b o z).1
  have kinds : ∀ y ∈ ps.zip us, scope.names.lookup y.1 = some .local ∨ (scope.names.lookup y.1 = some .cell ∧ ((cellsFrom (s.heap.objs.size + 1) scope.names []).lookup y.1).isSome = true) := fun ⟨n, v⟩ m => by
    rcases S.par n (List.of_mem_zip m).1 with z | z
    · exact .inl z
    · exact .inr ⟨z, PySem.W.cellsFrom_some _ _ _ (.inl z)⟩
  refine codeAny_call_function hr.depth (kin _ _ lk) rfl S.co S.gen rfl (PySem.W.codeRec_of kin hcd) (bd lu _ _ _ _ ?_)
  refine wpAny_newFunctionEnv_cells S.kind kinds fun env ee s1 st => ?_
  subst ee
  refine ⟨nolim.keeps st.toInCall.keep, codeAny_func ?_⟩
  have pt := hbd A outer s H E L cl cl2 (hr.deeper _) hgd R
  have J : Inv (cxOf CX P w K mg base N qual scope g cdv A outer s H E) [] (L2.start N (vs ++ [.ref f])) H s1 := inv_start S hr.hd en lv rv st
  have er : ER K ρ H ((ws ++ [W.clo cs]).map some ++ List.replicate (fn.ns - fn.np) none) (L2.start N (vs ++ [.ref f])) := by
    refine er_startC (cs := cs) qw ?_ qc hc
    show fn.ns - fn.np = N.length - (vs ++ [V.ref f]).length
    rw [lv, hns, hnp]
  refine wpAny_mono (pt.run [] s1 (L2.start N (vs ++ [.ref f])) H { nx := fun _ H' => Q .non H', rt := Q } J ⟨_, ρ, h, er, l, (rd.bind q0).imp fun p ρ1 h1 H1 s2 l1 q1 σ' er' => ?_⟩) (fun fl s' hs => ?_) fun ex s' hs => hs
  · obtain ⟨env1, fl⟩ := p
    cases fl with
    | nx => exact rd.fine q1 l1 _ VR.mk_non
    | rt w => exact rd.fine q1 l1
    | bk => exact absurd q1 rderr
    | ct => exact absurd q1 rderr
  have close : ∀ {σ' : L2.St} {H' : Hp} {v : V} {u : Value}, Inv (cxOf CX P w K mg base N qual scope g cdv A outer s H E) [] σ' H' s' → RelV v u → Q v H' → CE outer P w H s Q u s' := fun {σ' H' v u} J' ru qv => ⟨v, H', J'.os, J'.bare, J'.base, J'.hok, ru, qv⟩
  match fl, hs with
  | .ret u, hs => obtain ⟨v, σ', H', J', ru, qv⟩ := hs; exact close J' ru qv
  | .next, hs => obtain ⟨σ', H', J', qv⟩ := hs; exact close (v := V.non) (u := Value.none) J' rfl qv
  | .brk, hs => obtain ⟨_, _, _, qv⟩ := hs; exact False.elim qv
  | .cont, hs => obtain ⟨_, _, _, qv⟩ := hs; exact False.elim qv
end
theorem CloRun.less {P : Program} {w : World} {K : PySem.W.Frag} {mg : Str → Option Value} {base : Heap} {CX : CXT} {ct : Nat → Option Value} {tr : XK → XK} {kk : Nat} {L : List W → List W → Hw → R W} {f c : Addr} {q : Str} {cvs : List V} {fs fs' : List Addr} {s : Shared} {H : Hp}
    (R : CloRun P w K mg base CX ct tr kk L f c q cvs fs s H) (h : ∀ b ∈ fs', b ∈ fs) : CloRun P w K mg base CX ct tr kk L f c q cvs fs' s H :=
  ⟨R.fn, R.un, fun m => R.nf (h _ m), fun A outer s' H' ρ g cs ws us vs Q E hr hg e0 u => R.run A outer s' H' ρ g cs ws us vs Q E hr hg e0 (u.mono h fun b z => z)⟩
def PRP [CloI] (X : Cx) (rest : List Stmt) (pins : List (Addr × Obj)) (Q : Flow → Shared → Prop) : Env × Fl → List Addr → Hw → Hp → Prop := fun p ρ' h' H' => match p.2 with
  | .nx => ∀ σ' s', Inv X pins σ' H' s' → Rel X.K ρ' h' H' → ER X.K ρ' H' p.1 σ' → wpAny (model X.prog X.w) X.A (execs rest X.env) Q X.xe s'
  | _ => False
/-- a block, and what stands behind it -/
def PSR [CloI] (X : Cx) (ct : Nat → Option Value) (Wx : XK) (ss : List Stmt) (m : Env → Hw → R (Env × Fl)) (rest : List Stmt) : Prop :=
  ∀ (pins : List (Addr × Obj)) (s : Shared) (σ : L2.St) (H : Hp) (env : Env) (ρ : List Addr) (h : Hw) (Q : Flow → Shared → Prop), Inv X pins σ H s → ER X.K ρ H env σ → Rel X.K ρ h H →
    rd X.K ct Wx ρ H (m env h) (PRP X rest pins Q) → wpAny (model X.prog X.w) X.A (execs (ss ++ rest) X.env) Q X.xe s
section
variable [CloI] {X : Cx} {ct : Nat → Option Value} {Wx : XK} {st : Stmt} {ss rest : List Stmt} {m1 m2 : Env → Hw → R (Env × Fl)}
theorem psr_nil : PSR X ct Wx [] (fun env h => .ok (env, .nx) h) rest := fun pins s σ H env ρ h Q I er l q => rd.fine q l σ s I l er
theorem psr_cons (h1 : PS X st (tS X.K ct Wx m1)) (h2 : PSR X ct Wx ss m2 rest) : PSR X ct Wx (st :: ss) (fun env h => (m1 env h).bind fun p h1 => flK m2 p h1) rest := by
  intro pins s σ H env ρ h Q I er l q
  refine wpAny_execs_cons (thn (h1.run pins s σ H { nx := fun σ' H' => ∃ env ρ h, ER X.K ρ H' env σ' ∧ Rel X.K ρ h H' ∧ rd X.K ct Wx ρ H' (m2 env h) (PRP X rest pins Q), rt := fun _ _ => False } I ⟨env, ρ, h, er, l, (rd.bind q).imp fun p ρ1 h1 H1 s1 l1 q1 σ1 er1 => ?_⟩) fun f s1 q => ?_)
  · obtain ⟨env1, fl⟩ := p
    cases fl with
    | nx => exact ⟨env1, ρ1, h1, er1, l1, q1⟩
    | rt v => exact (rd.fine q1 l1 : False).elim
    | bk => exact (rd.fine q1 l1 : False).elim
    | ct => exact (rd.fine q1 l1 : False).elim
  · match f, q with
    | .next, q =>
      obtain ⟨σ', H', I', env2, ρ2, h2', er2, l2, q2⟩ := q
      exact h2 pins s1 σ' H' env2 ρ2 h2' Q I' er2 l2 q2
    | .ret v, q => obtain ⟨_, _, _, _, _, z⟩ := q; exact z.elim
    | .brk, q => obtain ⟨_, _, _, z⟩ := q; exact z.elim
    | .cont, q => obtain ⟨_, _, _, z⟩ := q; exact z.elim
end
section
variable {CX : CXT} {P : Program} {w : World} {K : PySem.W.Frag} {mg : Str → Option Value} {base : Heap} {k kk kc : Nat} {g : Addr} {name qual : Str} {params : Arguments} {ss : List Stmt} {scope : Scope} {dV kV doc pm cdv ctr oc : Value} {an od : Option Addr}
  {osl : Array (Option Value)} {N ps : List Str} {ct : Nat → Option Value} {tr : XK → XK} {tb : List Fn} {wf i : Nat} {fn : Fn} {N2 ps2 fr : List Str} {caps : List Nat} {lp : Arguments} {lb : Expr} {lsc : Scope} {lpos rpos : Pos} {be : Ex}
/-- a def that hands back a lambda -/
theorem defM [CloI] (hi : tb[i]? = some fn) (hns : fn.ns = N.length) (hnp : fn.np = ps.length) (hlam : fn.lam = some (ps2.length, caps, be))
    (lk : K.lookup g = some ⟨oc, od, .func (PySem.W.fnOf name qual params (ss ++ [.Return (some (.Lambda lp lb lsc lpos)) rpos]) scope dV kV doc pm an cdv ctr), osl⟩) (hcd : PySem.W.codeIn K cdv qual = true) (S : FnScope N ps scope)
    (hbd : ∀ (A : Around) (outer : List PySem.Env) (s : Shared) (H : Hp) (E : XK), Room kk (A.deeper (envOfC qual scope s.heap.objs.size g cdv)) → A.guards = some [] →
      PSR (cxOf CX P w K mg base N qual scope g cdv A outer s H E) ct (tr E) ss (exL (callF tb wf k) wf fn.body) [.Return (some (.Lambda lp lb lsc lpos)) rpos] ∧
      LamOk (cxOf CX P w K mg base N qual scope g cdv A outer s H E) N2 ps2 fr caps lp lb lsc ∧
      ∀ (A2 : Around) (outer2 : List PySem.Env) (s2 : Shared) (H2 : Hp) (E2 : XK) (f c : Addr), Room kc (A2.deeper (NdefX.envF (lamNF ((envOfC qual scope s.heap.objs.size g cdv).qual ++ "<lambda>") lp lsc (cloFrom (envOfC qual scope s.heap.objs.size g cdv).cells lsc.names []) c) f s2.heap.objs.size)) → A2.guards = some [] →
        PE (NdefX.ncx CX P w K mg base N2 (lamNF ((envOfC qual scope s.heap.objs.size g cdv).qual ++ "<lambda>") lp lsc (cloFrom (envOfC qual scope s.heap.objs.size g cdv).cells lsc.names []) c) f A2 outer2 s2 H2 E2) lb (tE K ct (wx (tr E2)) (evE (callF tb wf k) be))) :
    FnM P w K mg base CX ct tr (kk + 1) (kc + 1) (callF tb wf (k + 1)) i g (PySem.W.fnOf name qual params (ss ++ [.Return (some (.Lambda lp lb lsc lpos)) rpos]) scope dV kV doc pm an cdv ctr) ps := by
  intro A outer s H ars us vs ws ρ h Q E hr hgd en bd rv l qw q0
  unfold callF at q0
  have q0 : rd K ct (tr E) ρ H (match tb[i]? with
      | some fn => bif Nat.beq ws.length fn.np then runM (callF tb wf k) wf fn ws h else .err
      | none => .err) _ := q0
  rw [hi] at q0
  obtain ⟨cc, q0⟩ := rdif q0
  have cc := Nat.eq_of_beq_eq_true cc
  unfold runM at q0
  rw [hlam] at q0
  have lv : vs.length = ps.length := by rw [qw.length, cc, hnp]
  have lu : us.length = ps.length := rv.length.symm.trans lv
  have kin : K.In s.heap := en.mod.kin.keeps fun b o z => (en.bs b o z).1
  have nolim : s.heap.NoLimit := en.mod.nolimit.keeps fun b o z => (en.bs b o z).1
  have kinds : ∀ y ∈ ps.zip us, scope.names.lookup y.1 = some .local ∨ (scope.names.lookup y.1 = some .cell ∧ ((cellsFrom (s.heap.objs.size + 1) scope.names []).lookup y.1).isSome = true) := fun ⟨n, v⟩ m => by
    rcases S.par n (List.of_mem_zip m).1 with z | z
    · exact .inl z
    · exact .inr ⟨z, PySem.W.cellsFrom_some _ _ _ (.inl z)⟩
  refine codeAny_call_function hr.depth (kin _ _ lk) rfl S.co S.gen rfl (PySem.W.codeRec_of kin hcd) (bd lu _ _ _ _ ?_)
  refine wpAny_newFunctionEnv_cells S.kind kinds fun env ee s1 st => ?_
  subst ee
  refine ⟨nolim.keeps st.toInCall.keep, codeAny_func ?_⟩
  obtain ⟨pr, LO, lbd⟩ := hbd A outer s H E (hr.deeper _) hgd
  have J : Inv (cxOf CX P w K mg base N qual scope g cdv A outer s H E) [] (L2.start N vs) H s1 := inv_start S hr.hd en lv rv st
  have er : ER K ρ H (ws.map some ++ List.replicate (fn.ns - fn.np) none) (L2.start N vs) := er_start qw (by rw [qw.length, cc]; exact congrArg (· - fn.np) hns)
  refine pr [] s1 _ H _ ρ h _ J er l ((rd.bind q0).imp fun p ρ1 h1 H1 s2 l1 q1 => ?_)
  obtain ⟨env1, fl⟩ := p
  cases fl with
  | rt v => exact absurd q1 rderr
  | bk => exact absurd q1 rderr
  | ct => exact absurd q1 rderr
  | nx =>
    intro σ' s' J' l' er'
    cases hcap : capsOf env1 caps with
    | none => simp only [outM, hcap] at q1; exact absurd q1 rderr
    | some cs =>
      simp only [outM, hcap] at q1
      obtain ⟨c0, P0, tbb, k1, k2, k3⟩ := LO.tab
      refine wpAny_execs_cons (wpAny_Return_some ?_)
      refine lam_mk J' tbb k1 k2 k3 l1.tab LO.df (lam_free LO J'.ok) fun f c H2 s3 I3 ex tg tt la => ?_
      have stp : Stp ρ1 ρ1 H1 H2 := Stp.ofExt ex tg
      have l3 := l1.ofExt ex tg tt
      obtain ⟨cvs, qc, R⟩ := lam_run (m := evE (callF tb wf k) be) LO lbd I3 la (er'.mv l1 stp) hcap
      have fin := q1 ρ1 H2 stp l3 f c _ cvs s3 qc la.co (R.less fun b hb => by
        obtain ⟨e, he, qe⟩ := List.mem_filterMap.mp hb
        exact List.mem_filterMap.mpr ⟨e, List.mem_cons_of_mem _ he, qe⟩)
      exact ⟨f, H2, rfl, I3.os, I3.bare, I3.base, I3.hok, fin⟩
end
end TL
/-! The machine's code beside the text: what is looked at. -/
namespace TL
open PySem PySem.Spec PyProof.Rows L2
variable [TabI] [CloI]
/-! ### shapes of the text -/
def isStar : Expr → Bool
  | .Starred _ _ => true
  | _ => false
def plainL (es : List Expr) : Bool := es.all fun e => !isStar e
def isSet : Expr → Bool
  | .Set _ _ _ => true
  | _ => false
def isSlice : Expr → Bool
  | .Slice _ _ _ _ => true
  | _ => false
def isComp : Expr → Bool
  | .ListComp _ _ _ _ => true
  | .SetComp _ _ _ _ => true
  | .DictComp _ _ _ _ _ => true
  | _ => false
def baseOk : Expr → Bool
  | .Call _ [] [] _ => false
  | _ => true
section
variable {env : PySem.Env}
theorem star1 {e : Expr} {es : List Expr} (h : isStar e = false) : starEach (e :: es) env = (false, eval e env) :: starEach es env := by
  cases e <;> first | rfl | cases h
theorem star_any {pos : Pos} : ∀ {es : List Expr}, plainL es = true → (backTo pos (starEach es env)).any (·.1) = false
  | [], _ => rfl
  | e :: es, h => by
    unfold plainL at h
    rw [List.all_cons, Bool.and_eq_true] at h
    rw [star1 (by simpa using h.1)]
    show (false || (backTo pos (starEach es env)).any (·.1)) = false
    rw [Bool.false_or]
    exact star_any h.2
theorem star_all {pos : Pos} : ∀ {es : List Expr}, plainL es = true → (backTo pos (starEach es env)).all (fun x => !x.1) = true
  | [], _ => rfl
  | e :: es, h => by
    unfold plainL at h
    rw [List.all_cons, Bool.and_eq_true] at h
    rw [star1 (by simpa using h.1)]
    show (!false && (backTo pos (starEach es env)).all (fun x => !x.1)) = true
    rw [star_all h.2]
    rfl
theorem asg1 {e : Expr} {es : List Expr} (h : isStar e = false) : assignEach (e :: es) env = (false, assign e env) :: assignEach es env := by
  cases e <;> first | rfl | cases h
theorem asg_len : ∀ {es : List Expr}, plainL es = true → (assignEach es env).length = es.length
  | [], _ => rfl
  | e :: es, h => by
    unfold plainL at h
    rw [List.all_cons, Bool.and_eq_true] at h
    rw [asg1 (by simpa using h.1), List.length_cons, List.length_cons, asg_len h.2]
theorem asg_find : ∀ {es : List Expr}, plainL es = true → (assignEach es env).findIdx? (·.1) = none
  | [], _ => rfl
  | e :: es, h => by
    unfold plainL at h
    rw [List.all_cons, Bool.and_eq_true] at h
    rw [asg1 (by simpa using h.1), List.findIdx?_cons]
    simp [asg_find h.2]
theorem noset_marks {op : CmpOp} {e : Expr} (h : isSet e = false) : behindInMarks op e = false := by
  cases e <;> first | rfl | cases h
theorem noset_fold {e : Expr} (h : isSet e = false) (x : Value) : foldedSetIterable e env x = pure x := by
  cases e <;> first | rfl | cases h
theorem noslice_ix {e : Expr} (h : isSlice e = false) : PlainIx e := by
  intro o i
  cases e <;> first | rfl | cases h
theorem noslice_aug {e : Expr} (h : isSlice e = false) (ov iv new : Value) : augStore e ov iv new = (do holding [new, ov, iv] (setItem ov iv new); release [new, ov, iv] []; pure .next) := by
  cases e <;> first | rfl | cases h
theorem noslice_asg {o e : Expr} {p : Pos} (h : isSlice e = false) (v : Value) : assign (.Subscript o e p) env v = (do
      let ov ← holding [v] (eval o env)
      let iv ← holding [v, ov] (eval e env)
      standAt p
      holding [v, ov, iv] (setItem ov iv v)
      release [v, ov, iv] []) := by
  cases e <;> first | rfl | cases h
theorem nocomp_swap {e : Expr} {t : Option Expr} {l : Nat} (h : isComp e = false) : swapsWith e t l env = pure false := by
  cases e <;> first | rfl | cases h
theorem nocomp_sole {e : Expr} {t : Expr} {l : Nat} (h : isComp e = false) : swapsWithSole [t] e l env = pure false := nocomp_swap h
theorem base_ok {o : Expr} {n : Str} (h : baseOk o = true) : attributeBase o n env (eval o env) = eval o env := by
  unfold attributeBase
  split
  · cases h
  · rfl
end
/-- two names at once -/
def swS (bk : ScopeKind) (kof : Str → Option NameKind) (ts vs : List Expr) : Option (Option (List Str)) :=
  if (!(ts.length == 2 || ts.length == 3) || vs.length != ts.length || bk != .function) = true then some none
  else if (vs.any fun | .Starred .. => true | _ => false) = true then some none
  else if ((ts.filterMap fun
      | .Name id pos => if (kof id == some .local && pos.line == (ts.head?.map (·.pos.line)).getD 0) = true then some id else none
      | _ => none).length != ts.length || (ts.filterMap fun
      | .Name id pos => if (kof id == some .local && pos.line == (ts.head?.map (·.pos.line)).getD 0) = true then some id else none
      | _ => none).eraseDups.length != (ts.filterMap fun
      | .Name id pos => if (kof id == some .local && pos.line == (ts.head?.map (·.pos.line)).getD 0) = true then some id else none
      | _ => none).length) = true then some none
  else if vs.all (foldedForSure 8) = true then some none
  else if vs.all (constantsAlone 8) = true then none
  else some (some (ts.filterMap fun
      | .Name id pos => if (kof id == some .local && pos.line == (ts.head?.map (·.pos.line)).getD 0) = true then some id else none
      | _ => none))
theorem swS_ok {env : PySem.Env} {ts vs : List Expr} {k k2 : Nat} {p p2 : Pos} {r : Option (List Str)} (h : swS env.blockKind env.kindOf ts vs = some r) : swappedStores [.Tuple ts k p] (.Tuple vs k2 p2) env = pure r := by
  unfold swS at h
  unfold swappedStores
  by_cases c : (!(ts.length == 2 || ts.length == 3) || vs.length != ts.length || env.blockKind != .function) = true
  · rw [if_pos c] at h
    cases h
    refine (if_pos ?_).trans ?_
    · exact c
    · rfl
  · rw [if_neg c] at h
    refine (if_neg ?_).trans ?_
    · exact c
    · by_cases c2 : (vs.any fun | .Starred .. => true | _ => false) = true
      · rw [if_pos c2] at h
        cases h
        refine (if_pos ?_).trans ?_
        · exact c2
        · rfl
      · rw [if_neg c2] at h
        refine (if_neg ?_).trans ?_
        · exact c2
        · generalize hn : (ts.filterMap fun
            | .Name id pos => if (env.kindOf id == some .local && pos.line == (ts.head?.map (·.pos.line)).getD 0) = true then some id else none
            | _ => none) = names at h
          by_cases c3 : (names.length != ts.length || names.eraseDups.length != names.length) = true
          · rw [if_pos c3] at h
            cases h
            refine (if_pos ?_).trans ?_
            · rw [← hn] at c3; exact c3
            · rfl
          · rw [if_neg c3] at h
            refine (if_neg ?_).trans ?_
            · rw [← hn] at c3; exact c3
            · by_cases c4 : vs.all (foldedForSure 8) = true
              · rw [if_pos c4] at h
                cases h
                refine (if_pos ?_).trans ?_
                · exact c4
                · rfl
              · rw [if_neg c4] at h
                refine (if_neg ?_).trans ?_
                · exact c4
                · by_cases c5 : vs.all (constantsAlone 8) = true
                  · rw [if_pos c5] at h; cases h
                  · rw [if_neg c5] at h
                    cases h
                    refine (if_neg ?_).trans ?_
                    · exact c5
                    · rw [← hn]; rfl
end TL
/-! The machine's code beside the text: expressions. -/
namespace TL
open PySem PySem.Spec PyProof.Rows L2
variable [TabI] [CloI]
/-! ### what is compared -/
def bnames : List Str := ["len", "list", "tuple", "sum", "sorted", "min", "max", "int", "abs", "isinstance", "repr", "range", "enumerate", "zip", "bool", "str", "dict", "set"]
def vis (sc : Scope) (x : Str) : Bool := match sc.names.lookup x with
  | some .local => true
  | some .cell => true
  | some .free => true
  | _ => false
def loc (sc : Scope) (x : Str) : Bool := match sc.names.lookup x with
  | some .local => true
  | some .cell => true
  | _ => false
def gl (sc : Scope) (x : Str) : Bool := decide (sc.names.lookup x = some .globalImplicit) && !(x == ("__debug__" : Str))
def isOp : Bop → Operator → Bool
  | .add, .Add => true
  | .sub, .Sub => true
  | .mul, .Mult => true
  | .fdiv, .FloorDiv => true
  | .mod, .Mod => true
  | .pow, .Pow => true
  | _, _ => false
def isCop : Cop → CmpOp → Bool
  | .eq, .Eq => true
  | .ne, .NotEq => true
  | .lt, .Lt => true
  | .le, .LtE => true
  | .gt, .Gt => true
  | .ge, .GtE => true
  | .isin, .In => true
  | .notin, .NotIn => true
  | .iss, .Is => true
  | .isnt, .IsNot => true
  | _, _ => false
theorem isOp_ok {o : Bop} {p : Operator} (h : isOp o p = true) : p = bopOf o := by cases o <;> cases p <;> first | rfl | cases h
theorem isCop_ok {o : Cop} {p : CmpOp} (h : isCop o p = true) : p = copOf o := by cases o <;> cases p <;> first | rfl | cases h
mutual
/-- may stand as a test -/
def tok : Ex → Bool
  | .ife _ _ _ => false
  | .not a => tok a
  | .and es => toks es
  | .or es => toks es
  | _ => true
def toks : List Ex → Bool
  | [] => true
  | e :: es => tok e && toks es
end
mutual
def mG (N : List Str) (st : Str → Bool) : Tg → Expr → Bool
  | .nm i, e => match e with
    | .Name x _ => decide (N[i]? = some x) && st x
    | _ => false
  | .tp ts, e => match e with
    | .Tuple es _ _ => mGs N st ts es && plainL es
    | _ => false
def mGs (N : List Str) (st : Str → Bool) : List Tg → List Expr → Bool
  | [], es => es.isEmpty
  | t :: ts, es => match es with
    | e :: es => mG N st t e && mGs N st ts es
    | [] => false
end
/-- the written arguments of what is walked -/
def iterArgs (sc : Scope) : ItK → Expr → Expr → Option (List Expr)
  | .seq, _, it => if isSet it || isStar it then none else some [it]
  | .rng1, _, it => match it with
    | .Call (.Name x _) [a] [] _ => if decide (x = "range") && gl sc x && plainL [a] then some [a] else none
    | _ => none
  | .rng2, _, it => match it with
    | .Call (.Name x _) [a, b] [] _ => if decide (x = "range") && gl sc x && plainL [a, b] then some [a, b] else none
    | _ => none
  | .enm, t, it => match t with
    | .Tuple _ _ _ => (match it with
      | .Call (.Name x _) [a] [] _ => if decide (x = "enumerate") && gl sc x && plainL [a] then some [a] else none
      | _ => none)
    | _ => none
  | .zip, t, it => match t with
    | .Tuple _ _ _ => (match it with
      | .Call (.Name x _) [a, b] [] _ => if decide (x = "zip") && gl sc x && plainL [a, b] then some [a, b] else none
      | _ => none)
    | _ => none
def ownP (N : List Str) (own : List Nat) : List (Str × Nat) := own.filterMap fun i => (N[i]?).map fun x => (x, i)
def stB (scope : Scope) (x : Str) : Bool := match scope.names.lookup x with
  | some .local => true
  | some .cell => true
  | _ => false
/-- plain parameters, at most three -/
def simpleP (ps : Arguments) : Option (List Str) := match ps with
  | ⟨[], [], none, [], [], none, []⟩ => some []
  | ⟨[], [a], none, [], [], none, []⟩ => some [a.arg]
  | ⟨[], [a, b], none, [], [], none, []⟩ => bif b.arg == a.arg then none else some [a.arg, b.arg]
  | ⟨[], [a, b, c], none, [], [], none, []⟩ => bif (b.arg == a.arg) || (c.arg == a.arg) || (c.arg == b.arg) then none else some [a.arg, b.arg, c.arg]
  | _ => none
/-- a lambda's names: its parameters, what it captures -/
def lamN (N : List Str) (caps : List Nat) (np : Nat) (sc : Scope) (ps : Arguments) (lsc : Scope) : Option (List Str) := match simpleP ps, optAll (caps.map fun i => N[i]?) with
  | some qs, some fr => if Nat.beq qs.length np && NdefX.nscB (qs ++ fr) qs fr lsc && NdefX.ndefB sc lsc fr then some (qs ++ fr) else none
  | _, _ => none
mutual
def mE (N T : List Str) (B D : Bool) : Ex → Scope → Expr → Bool
  | .var i, sc, e => match e with
    | .Name x _ => decide (N[i]? = some x) && vis sc x && !(x == ("__debug__" : Str)) && !(x == ("__classdict__" : Str))
    | _ => false
  | .non, _, e => match e with
    | .Constant .none _ _ => true
    | _ => false
  | .bl b, _, e => match e with
    | .Constant (.bool c) _ _ => b == c
    | _ => false
  | .int i, _, e => match e with
    | .Constant (.int j) _ _ => decide (i = j)
    | _ => false
  | .str s, _, e => match e with
    | .Constant (.str t) _ _ => decide (s = t)
    | _ => false
  | .bin o a b, sc, e => match e with
    | .BinOp l p r _ => isOp o p && mE N T B D a sc l && mE N T B D b sc r
    | _ => false
  | .neg a, sc, e => match e with
    | .UnaryOp .USub x _ => mE N T B D a sc x
    | _ => false
  | .cmp o a b, sc, e => match e with
    | .Compare l [p] [r] _ => isCop o p && mE N T B D a sc l && mE N T B D b sc r && !isSet r
    | _ => false
  | .chn o q a b c, sc, e => match e with
    | .Compare l [p, p2] [r, t] _ => isCop o p && isCop q p2 && mE N T B D a sc l && mE N T B D b sc r && mE N T B D c sc t && !isSet t
    | _ => false
  | .and es, sc, e => match e with
    | .BoolOp .And vs _ => mLs N T B D es sc vs && plainL vs && !vs.isEmpty
    | _ => false
  | .or es, sc, e => match e with
    | .BoolOp .Or vs _ => mLs N T B D es sc vs && plainL vs && !vs.isEmpty
    | _ => false
  | .not a, sc, e => match e with
    | .UnaryOp .Not x _ => mE N T B D a sc x
    | _ => false
  | .ife c a b, sc, e => match e with
    | .IfExp t x y _ => tok c && mE N T B D c sc t && mE N T B D a sc x && mE N T B D b sc y
    | _ => false
  | .tup es, sc, e => match e with
    | .Tuple vs _ _ => mLs N T B D es sc vs
    | _ => false
  | .star _, _, _ => false
  | .lst es, sc, e => match e with
    | .List vs _ => mLs N T B D es sc vs
    | _ => false
  | .dct es, sc, e => match e with
    | .Dict ks vs _ => mD N T B D es sc ks vs && ks.all (·.isSome) && Nat.beq ks.length vs.length && Nat.ble ks.length 15
    | _ => false
  | .idx a i, sc, e => match e with
    | .Subscript x y _ => mE N T B D a sc x && mE N T B D i sc y && !isSlice y
    | _ => false
  | .slc a lo hi, sc, e => match e with
    | .Subscript x (.Slice l h none _) _ => mE N T B D a sc x && mO N T B D lo sc l && mO N T B D hi sc h
    | _ => false
  | .call f es, sc, e => match e with
    | .Call (.Name x _) vs [] _ => decide (T[f]? = some x) && gl sc x && mLs N T B D es sc vs && plainL vs
    | _ => false
  | .bi b es, sc, e => match b with
    | .isinst t => (match e with
      | .Call (.Name x _) [a, .Name y _] [] _ => decide (x = "isinstance") && gl sc x && decide (t < 6) && decide (y = Str.ofString (tyName t)) && gl sc y && decide (y ∈ bnames) && decide (y ≠ "__name__") && !isStar a && mLs N T B D es sc [a]
      | _ => false)
    | .rev => (match e with
      | .Subscript a (.Slice none none (some (.UnaryOp .USub (.Constant (.int j) _ _) _)) _) _ => decide (j = 1) && !isStar a && mLs N T B D es sc [a]
      | _ => false)
    | .lrng1 => (match e with
      | .Call (.Name x _) [.Call (.Name y _) [a] [] _] [] _ => decide (x = "list") && gl sc x && decide (y = "range") && gl sc y && !isStar a && mLs N T B D es sc [a]
      | _ => false)
    | .lrng2 => (match e with
      | .Call (.Name x _) [.Call (.Name y _) [a, a2] [] _] [] _ => decide (x = "list") && gl sc x && decide (y = "range") && gl sc y && !isStar a && !isStar a2 && mLs N T B D es sc [a, a2]
      | _ => false)
    | b => (match e with
      | .Call (.Name x _) vs [] _ => plainBi b && decide (x = biName b) && gl sc x && mLs N T B D es sc vs && plainL vs && !vs.isEmpty
      | _ => false)
  | .me m o es, sc, e => match e with
    | .Call (.Attribute x nm apos) vs [] cpos => decide (nm = meName m) && mE N T B D o sc x && baseOk x && mLs N T B D es sc vs && plainL vs && Nat.ble vs.length 27 && (apos.endLine == cpos.line)
    | _ => false
  | .comp elt tg k its ifs own, sc, e => match e with
    | .ListComp x [⟨t, it, fs, 0⟩] scope _ => (match iterArgs sc k t it with
      | some args => mLs N T B D its sc args
      | none => false) && !isSet it && blkC N sc scope (ownP N own) && decide ((ownP N own).map (·.2) = own) && (tg.ix.all fun i => decide (i ∈ own)) && mG N (stB scope) tg t && mE N T false false elt (relS scope sc) x && toks ifs && plainL fs && Nat.ble fs.length 1 && mLs N T false false ifs (relS scope sc) fs
    | _ => false
  | .upd d e, sc, x => match x with
    | .Call (.Attribute o nm apos) [v] [] cpos => decide (nm = "update") && mE N T B D d sc o && baseOk o && mE N T B D e sc v && (apos.endLine == cpos.line)
    | _ => false
  | .sset a, sc, e => match e with
    | .Call (.Name x _) [.Call (.Name y _) [v] [] _] [] _ => decide (x = "sorted") && gl sc x && decide (y = "set") && gl sc y && mE N T B D a sc v
    | _ => false
  | .callv i es, sc, e => match e with
    | .Call (.Name x _) vs [] _ => B && decide (N[i]? = some x) && vis sc x && !(x == ("__debug__" : Str)) && !(x == ("__classdict__" : Str)) && mLs N T B D es sc vs && plainL vs
    | _ => false
  | .callC f es np caps body, sc, e => match e with
    | .Call (.Name x _) vs [] _ => D && decide (T[f]? = some x) && gl sc x && mLs N T B D es sc vs.dropLast && plainL vs && (match vs.getLast? with
      | some (.Lambda ps lb lsc _) => (match lamN N caps np sc ps lsc with
        | some N2 => mE N2 T false false body lsc lb
        | none => false)
      | _ => false)
    | _ => false
  | .callM f es g es2, sc, e => match e with
    | .Call (.Name x _) vs [] _ => D && decide (T[f]? = some x) && gl sc x && mLs N T B D es sc vs.dropLast && plainL vs && (match vs.getLast? with
      | some (.Call (.Name y _) us [] _) => decide (T[g]? = some y) && gl sc y && mLs N T B D es2 sc us && plainL us && !us.isEmpty
      | _ => false)
    | _ => false
def mLs (N T : List Str) (B D : Bool) : List Ex → Scope → List Expr → Bool
  | [], _, vs => vs.isEmpty
  | e :: es, sc, vs => match vs with
    | v :: vs => (match e with
      | .star a => (match v with
        | .Starred x _ => mE N T B D a sc x
        | _ => false)
      | e => mE N T B D e sc v) && mLs N T B D es sc vs
    | [] => false
def mD (N T : List Str) (B D : Bool) : List Ex → Scope → List (Option Expr) → List Expr → Bool
  | [], _, ks, vs => ks.isEmpty && vs.isEmpty
  | [_], _, _, _ => false
  | k :: v :: r, sc, ks, vs => match ks, vs with
    | some x :: ks, y :: vs => mE N T B D k sc x && mE N T B D v sc y && mD N T B D r sc ks vs
    | _, _ => false
def mO (N T : List Str) (B D : Bool) : Option Ex → Scope → Option Expr → Bool
  | none, _, o => o.isNone
  | some e, sc, o => match o with
    | some x => mE N T B D e sc x
    | none => false
end
/-! ### the context -/
/-- a context entered by a call -/
structure CtxOk (P : Program) (w : World) (K : PySem.W.Frag) (mg : Str → Option Value) (base : Heap) (CX : CXT) (Z : Cx) (E : XK) : Prop where
  eP : Z.prog = P
  ew : Z.w = w
  eK : Z.K = K
  em : Z.mg = mg
  eb : Z.base = base
  st : Z.stack = Z.env :: Z.outer
  fr : Z.env.frame = some Z.env.locals
  ex : Z.ex = []
  xe : Z.xe = fun e s' => wpAny (model Z.prog Z.w) Z.A (leaving Z.env e) (fun _ s'' => CX Z.outer Z.H_0 Z.s_0 E e s'') (fun e' s'' => CX Z.outer Z.H_0 Z.s_0 E e' s'') s'
/-- where lambdas are written: the code object and its table -/
def LamTab (X : Cx) : Prop := ∃ c P, LamX.TabB X.base X.mg c P ∧ X.env.code = .ref c ∧ (P, X.env.qual ++ "<lambda>") ∈ TabI.T ∧ ∀ p ∈ TabI.T, p.1 = P → p.2 = X.env.qual ++ "<lambda>"
structure Good (X : Cx) (CX : CXT) (ct : Nat → Option Value) (tr : XK → XK) (Wx : WX) (C : CT) (T : List Str) (B D : Bool) (n : Nat) : Prop where
  nd : X.N.Nodup
  hc : X.calm = true
  hg : X.A.guards = some []
  rm : Room n X.A
  bi : ∀ x ∈ bnames, X.mg x = none
  pa : ∀ σ, PassesAt CX X σ fun c d H => Wx c d σ H
  fns : ∀ i nm, T[i]? = some nm → ∃ f fd ps, FnG X.prog X.w X.K X.mg X.base CX n f fd ps (spW X.K ct tr C i) ∧ X.mg nm = some (.ref f) ∧ PySem.W.keepIn X.K (.ref f) = true ∧ Binds X.K fd ps []
  cl : B = true → ∃ kk, CloRun X.prog X.w X.K X.mg X.base CX ct tr kk C.v CloI.f CloI.c CloI.q CloI.vs X.fs X.s_0 X.H_0 ∧ X.ex = [] ∧ Room kk X.A
  lm : D = true → LamTab X ∧ Room (n + 2) X.A ∧ ∀ i nm, T[i]? = some nm → ∃ f fd ps, FnC X.prog X.w X.K X.mg X.base CX ct tr (n + 2) (n + 1) C i f fd ps ∧ FnM X.prog X.w X.K X.mg X.base CX ct tr (n + 2) (n + 1) C i f fd ps ∧ X.mg nm = some (.ref f) ∧ PySem.W.keepIn X.K (.ref f) = true ∧ Binds X.K fd ps []
  hp : ∀ (Z : Cx) (E : XK), CtxOk X.prog X.w X.K X.mg X.base CX Z E → ∀ σ, PassesAt CX Z σ (tr E)
  ht : ∀ σ, tr (fun c d H => Wx c d σ H) = fun c d H => Wx c d σ H
  tt : ∀ E, tr (tr E) = tr E
  t0 : tr (fun _ _ _ => False) = fun _ _ _ => False
  nx : ∀ outer H s e s', CX outer H s (fun _ _ _ => False) e s' → False
section
variable {X : Cx} {CX : CXT} {ct : Nat → Option Value} {tr : XK → XK} {Wx : WX} {C : CT} {T : List Str} {B D : Bool} {n : Nat}
theorem Good.hu (G : Good X CX ct tr Wx C T B D n) : X.A.units + 65 < cLine := by
  have := G.rm.un
  omega
theorem Good.blk (G : Good X CX ct tr Wx C T B D n) (s : Shared) (H : Hp) (scope : Scope) (cenv : PySem.Env) (fp : List Addr) : Good (X.blk s H scope cenv fp) CX ct tr (fun _ _ _ _ => False) C T false false n :=
  ⟨G.nd, G.hc, G.hg, G.rm, G.bi, fun σ pins H s e s' I c => G.nx _ _ _ _ _ c, G.fns, (fun z => Bool.noConfusion z), (fun z => Bool.noConfusion z), G.hp, fun _ => G.t0, G.tt, G.t0, G.nx⟩
/-- in a lambda's body -/
theorem Good.lam (G : Good X CX ct tr Wx C T B D n) {N ps fr : List Str} {F : NdefX.NF} {f : Addr} {A : Around} {outer : List PySem.Env} {s : Shared} {H : Hp} {E : XK} (S : NdefX.NScope N ps fr F.scope) (hr : Room n (A.deeper (NdefX.envF F f s.heap.objs.size))) (hg : A.guards = some []) :
    Good (NdefX.ncx CX X.prog X.w X.K X.mg X.base N F f A outer s H E) CX ct tr (wx (tr E)) C T false false n :=
  ⟨S.nd, rfl, hg, hr, G.bi, fun σ => G.hp (NdefX.ncx CX X.prog X.w X.K X.mg X.base N F f A outer s H E) E ⟨rfl, rfl, rfl, rfl, rfl, rfl, rfl, rfl, rfl⟩ σ, G.fns, (fun z => Bool.noConfusion z), (fun z => Bool.noConfusion z), G.hp, fun _ => G.tt E, G.tt, G.t0, G.nx⟩
theorem vis_ok {sc : Scope} {x : Str} (h : vis sc x = true) : Vis sc x := by
  unfold vis at h
  split at h
  · exact .inl ‹_›
  · exact .inr (.inl ‹_›)
  · exact .inr (.inr ‹_›)
  · cases h
theorem loc_ok {sc : Scope} {x : Str} (h : loc sc x = true) : Loc sc x := by
  unfold loc at h
  split at h
  · exact .inl ‹_›
  · exact .inr ‹_›
  · cases h
theorem gl_ok {x : Str} (h : gl X.env.scope x = true) : Gl X x ∧ (x == ("__debug__" : Str)) = false := by
  unfold gl at h
  rw [Bool.and_eq_true] at h
  exact ⟨(show X.env.scope.names.lookup x = some .globalImplicit from of_decide_eq_true h.1), by simpa using h.2⟩
end
end TL
/-! What is compared keeps its promise: expressions. -/
namespace TL
open PySem PySem.Spec PyProof.Rows L2
variable [TabI] [CloI]
section
variable {X : Cx} {CX : CXT} {ct : Nat → Option Value} {tr : XK → XK} {Wx : WX} {C : CT} {T : List Str} {B D : Bool} {n : Nat}
abbrev PX (X : Cx) (ct : Nat → Option Value) (Wx : WX) (C : CT) (e : Ex) (a : Expr) : Prop := PE X a (tE X.K ct Wx (evE C e)) ∧ (tok e = true → PT X a (tT X.K ct Wx (evT C e)))
theorem both {e : Ex} {a : Expr} (p : PE X a (tE X.K ct Wx (evE C e))) (he : ∀ whole, isTrue a X.env whole = (do let v ← whole; standAt a.pos; holding [v] (truthy v))) : PX X ct Wx C e a := ⟨p, fun _ => w_truth p he⟩
/-! the machine's tests -/
theorem evT_not (a : Ex) (env : Env) (h : Hw) : evT C (.not a) env h = (evT C a env h).bind fun b h1 => .ok (!b) h1 := by
  unfold evT
  simp only [evE]
  cases evE C a env h with
  | err => rfl
  | exc _ _ _ => rfl
  | ok x h1 =>
    simp only [R.bind]
    cases tru h1 x <;> rfl
theorem evT_cmp (o : Cop) (a b : Ex) (env : Env) (h : Hw) : evT C (.cmp o a b) env h = (evE C a env h).bind fun x h1 => (evE C b env h1).bind fun y h2 => okT (cmpOp o x y h2) h2 := by
  unfold evT
  simp only [evE]
  cases evE C a env h with
  | err => rfl
  | exc _ _ _ => rfl
  | ok x h1 =>
    simp only [R.bind]
    cases evE C b env h1 with
    | err => rfl
    | exc _ _ _ => rfl
    | ok y h2 =>
      simp only []
      cases cmpOp o x y h2 <;> rfl
theorem evT_chn (o p : Cop) (a b c : Ex) (env : Env) (h : Hw) : evT C (.chn o p a b c) env h = (evE C a env h).bind fun x h1 => (evE C b env h1).bind fun y h2 => chnT p y (evE C c env) (cmpOp o x y h2) h2 := by
  unfold evT
  simp only [evE]
  cases evE C a env h with
  | err => rfl
  | exc _ _ _ => rfl
  | ok x h1 =>
    simp only [R.bind]
    cases evE C b env h1 with
    | err => rfl
    | exc _ _ _ => rfl
    | ok y h2 =>
      simp only []
      cases cmpOp o x y h2 with
      | none => rfl
      | some k =>
        cases k with
        | false => rfl
        | true =>
          simp only [chnT]
          cases evE C c env h2 with
          | err => rfl
          | exc _ _ _ => rfl
          | ok z h3 =>
            simp only [R.bind]
            cases cmpOp p y z h3 <;> rfl
theorem evT_and1 (e : Ex) (env : Env) (h : Hw) : evT C (.and [e]) env h = evT C e env h := by unfold evT; simp only [evE, evAnd]
theorem evT_or1 (e : Ex) (env : Env) (h : Hw) : evT C (.or [e]) env h = evT C e env h := by unfold evT; simp only [evE, evOr]
theorem evT_and (e e2 : Ex) (es : List Ex) (env : Env) (h : Hw) : evT C (.and (e :: e2 :: es)) env h = (evT C e env h).bind fun k h1 => bif k then evT C (.and (e2 :: es)) env h1 else .ok false h1 := by
  unfold evT
  simp only [evE, evAnd]
  cases evE C e env h with
  | err => rfl
  | exc _ _ _ => rfl
  | ok x h1 =>
    simp only [R.bind]
    cases ex : tru h1 x with
    | none => rfl
    | some k =>
      cases k with
      | true => rfl
      | false => simp only [ex]; rfl
theorem evT_or (e e2 : Ex) (es : List Ex) (env : Env) (h : Hw) : evT C (.or (e :: e2 :: es)) env h = (evT C e env h).bind fun k h1 => bif k then .ok true h1 else evT C (.or (e2 :: es)) env h1 := by
  unfold evT
  simp only [evE, evOr]
  cases evE C e env h with
  | err => rfl
  | exc _ _ _ => rfl
  | ok x h1 =>
    simp only [R.bind]
    cases ex : tru h1 x with
    | none => rfl
    | some k =>
      cases k with
      | false => rfl
      | true => simp only [ex]; rfl
theorem PE.cg {a : Expr} {K : PySem.W.Frag} {m m' : Env → Hw → R W} (p : PE X a (tE K ct Wx m)) (e : ∀ env h, m' env h = m env h) : PE X a (tE K ct Wx m') := by
  have : m' = m := by funext env h; exact e env h
  rw [this]; exact p
theorem PT.cg {a : Expr} {K : PySem.W.Frag} {m m' : Env → Hw → R Bool} (p : PT X a (tT K ct Wx m)) (e : ∀ env h, m' env h = m env h) : PT X a (tT K ct Wx m') := by
  have : m' = m := by funext env h; exact e env h
  rw [this]; exact p
theorem PW.cg {a : Expr} {K : PySem.W.Frag} {m m' : Env → Hw → R Bool} (p : PW X a (tT K ct Wx m)) (e : ∀ env h, m' env h = m env h) : PW X a (tT K ct Wx m') := by
  have : m' = m := by funext env h; exact e env h
  rw [this]; exact p
theorem PA.cg {a : List Expr} {K : PySem.W.Frag} {m m' : Env → Hw → R (List W)} (p : PA X a (tA K ct Wx m)) (e : ∀ env h, m' env h = m env h) : PA X a (tA K ct Wx m') := by
  have : m' = m := by funext env h; exact e env h
  rw [this]; exact p
theorem PO.cg {a : Option Expr} {K : PySem.W.Frag} {m m' : Env → Hw → R (Option Int)} (p : PO X a (tOW K ct Wx m)) (e : ∀ env h, m' env h = m env h) : PO X a (tOW K ct Wx m') := by
  have : m' = m := by funext env h; exact e env h
  rw [this]; exact p
theorem tI.cg {tg it : Expr} {k : ItK} {K : PySem.W.Frag} {m m' : Env → Hw → R (List W)} (p : PI X tg it (tI K ct Wx k m)) (e : ∀ env h, m' env h = m env h) : PI X tg it (tI K ct Wx k m') := by
  have : m' = m := by funext env h; exact e env h
  rw [this]; exact p
theorem mE_star {N T : List Str} {B D : Bool} {e : Ex} {sc : Scope} {a : Expr} (h : mE N T B D e sc a = true) : isStar a = false := by
  cases a with
  | Starred _ _ =>
    exfalso
    cases e with
    | bi b es => cases b <;> exact absurd h (by simp [mE])
    | _ => exact absurd h (by simp [mE])
  | _ => rfl
theorem mE_nostar {N T : List Str} {B D : Bool} {e : Ex} {sc : Scope} {a : Expr} (h : mE N T B D e sc a = true) : ∀ b, e ≠ .star b := by
  rintro b rfl
  exact absurd h (by simp [mE])
def headM (N T : List Str) (B D : Bool) (e : Ex) (sc : Scope) (v : Expr) : Bool := match e with
  | .star a => (match v with
    | .Starred x _ => mE N T B D a sc x
    | _ => false)
  | e => mE N T B D e sc v
theorem mLs_cons {N T : List Str} {B D : Bool} {e : Ex} {es : List Ex} {sc : Scope} {v : Expr} {vs : List Expr} : mLs N T B D (e :: es) sc (v :: vs) = (headM N T B D e sc v && mLs N T B D es sc vs) := by cases e <;> rfl
theorem mLs_cnil {N T : List Str} {B D : Bool} {e : Ex} {es : List Ex} {sc : Scope} : mLs N T B D (e :: es) sc [] = false := by cases e <;> rfl
theorem mLs_nil {N T : List Str} {B D : Bool} {sc : Scope} {vs : List Expr} : mLs N T B D [] sc vs = vs.isEmpty := rfl
theorem headM_ok {N T : List Str} {B D : Bool} {e : Ex} {sc : Scope} {v : Expr} (h : headM N T B D e sc v = true) : (∃ a x p, e = .star a ∧ v = .Starred x p ∧ mE N T B D a sc x = true) ∨ (mE N T B D e sc v = true ∧ ∀ b, e ≠ .star b) := by
  cases e with
  | star a =>
    cases v with
    | Starred x p => exact .inl ⟨a, x, p, rfl, rfl, h⟩
    | _ => exact absurd h (by simp [headM])
  | _ => exact .inr ⟨h, mE_nostar (N := N) (T := T) (B := B) (D := D) (sc := sc) (a := v) h⟩
theorem headM_plain {N T : List Str} {B D : Bool} {e : Ex} {sc : Scope} {v : Expr} (hv : isStar v = false) (h : headM N T B D e sc v = true) : mE N T B D e sc v = true := by
  rcases headM_ok h with ⟨a, x, p, rfl, rfl, _⟩ | ⟨h, _⟩
  · cases hv
  · exact h
theorem evL_cons {e : Ex} (hn : ∀ b, e ≠ .star b) (es : List Ex) (env : Env) (h : Hw) : evL C (e :: es) env h = (evE C e env h).bind fun x h1 => (evL C es env h1).bind fun xs h2 => .ok (x :: xs) h2 := by
  cases e <;> first | exact absurd rfl (hn _) | rfl
/-- a target -/
theorem g_ok {st : Str → Bool} (nd : X.N.Nodup) (hc : X.calm = true) (hst : ∀ x, st x = true → Loc X.env.scope x ∧ (X.fn x = true ∨ X.env.scope.names.lookup x = some .local)) : ∀ (t : Tg) (a : Expr), mG X.N st t a = true → PG X a (tG X.K t) := by
  intro t
  refine Tg.rec (motive_1 := fun t => ∀ a, mG X.N st t a = true → PG X a (tG X.K t)) (motive_2 := fun ts => ∀ es, mGs X.N st ts es = true → plainL es = true → PGs X es (tGs X.K ts) ∧ ts.length = es.length) ?_ ?_ ?_ ?_ t
  · intro i a h
    simp only [mG] at h
    split at h
    · rw [Bool.and_eq_true] at h
      obtain ⟨h1, h2⟩ := hst _ h.2
      exact g_nm nd (of_decide_eq_true h.1) h1 h2
    · cases h
  · intro ts ih a h
    simp only [mG] at h
    split at h
    · rw [Bool.and_eq_true] at h
      obtain ⟨p1, p2⟩ := ih _ h.1 h.2
      exact g_tp hc p1 (asg_len h.2) p2 (asg_find h.2)
    · cases h
  · intro es h _
    simp only [mGs] at h
    cases es with
    | nil => exact ⟨g_nil, rfl⟩
    | cons _ _ => cases h
  · intro t ts ih1 ih2 es h hp
    cases es with
    | nil => simp only [mGs] at h; cases h
    | cons a es =>
      simp only [mGs, Bool.and_eq_true] at h
      unfold plainL at hp
      rw [List.all_cons, Bool.and_eq_true] at hp
      obtain ⟨p1, p2⟩ := ih2 es h.2 hp.2
      refine ⟨g_cons (ih1 a h.1) p1 (by rw [asg1 (by simpa using hp.1)]; rfl), by rw [List.length_cons, List.length_cons, p2]⟩
theorem rangeN : ("range" : Str) ∈ bnames := by decide +kernel
theorem enumN : ("enumerate" : Str) ∈ bnames := by decide +kernel
theorem zipN : ("zip" : Str) ∈ bnames := by decide +kernel
theorem listN : ("list" : Str) ∈ bnames := by decide +kernel
theorem isiN : ("isinstance" : Str) ∈ bnames := by decide +kernel
theorem biN (b : Bi) (h : plainBi b = true) : biName b ∈ bnames := by cases b <;> first | decide +kernel | cases h
/-- what is walked -/
theorem it_ok (G : Good X CX ct tr Wx C T B D n) {k : ItK} {tg it : Expr} {args : List Expr} {its : List Ex} (h : iterArgs X.env.scope k tg it = some args) (hm : mLs X.N T B D its X.env.scope args = true)
    (ha : PA X args (tA X.K ct Wx (evL C its))) (h1 : ∀ e a, its = [e] → args = [a] → mE X.N T B D e X.env.scope a = true → PE X a (tE X.K ct Wx (evE C e))) : PI X tg it (tI X.K ct Wx k (evL C its)) := by
  have pl2 : ∀ {a b : Expr}, plainL [a, b] = true → starEach [a, b] X.env = (false, eval a X.env) :: starEach [b] X.env ∧ starEach [b] X.env = [(false, eval b X.env)] := fun {a b} h => by
    unfold plainL at h
    simp only [List.all_cons, List.all_nil, Bool.and_true, Bool.and_eq_true] at h
    exact ⟨star1 (by simpa using h.1), star1 (by simpa using h.2)⟩
  have pl1 : ∀ {a : Expr}, plainL [a] = true → starEach [a] X.env = [(false, eval a X.env)] := fun {a} h => by
    unfold plainL at h
    simp only [List.all_cons, List.all_nil, Bool.and_true] at h
    exact star1 (by simpa using h)
  cases k with
  | seq =>
    simp only [iterArgs] at h
    split at h
    · cases h
    · rename_i c
      cases h
      have c : isStar it = false := by
        cases e : isStar it with
        | false => rfl
        | true => rw [e, Bool.or_true] at c; exact absurd rfl c
      match its, hm, ha, h1 with
      | [], hm, _, _ => rw [mLs_nil] at hm; cases hm
      | [e], hm, ha, h1 =>
        rw [mLs_cons, Bool.and_eq_true] at hm
        have hm1 := headM_plain c hm.1
        exact tI.cg (pi_seqW (h1 e it rfl rfl hm1)) fun env h => by
          rw [evL_cons (mE_nostar hm1)]
          rfl
      | _ :: _ :: _, hm, _, _ => rw [mLs_cons, mLs_cnil, Bool.and_false] at hm; cases hm
  | rng1 =>
    simp only [iterArgs] at h
    split at h
    · split at h
      · rename_i c
        cases h
        simp only [Bool.and_eq_true] at c
        obtain ⟨⟨c1, c2⟩, c3⟩ := c
        obtain ⟨g1, g2⟩ := gl_ok c2
        have c1 := of_decide_eq_true c1
        subst c1
        exact pi_rngW1 g1 (G.bi _ rangeN) ha (pl1 c3)
      · cases h
    · cases h
  | rng2 =>
    simp only [iterArgs] at h
    split at h
    · split at h
      · rename_i c
        cases h
        simp only [Bool.and_eq_true] at c
        obtain ⟨⟨c1, c2⟩, c3⟩ := c
        obtain ⟨g1, g2⟩ := gl_ok c2
        have c1 := of_decide_eq_true c1
        subst c1
        obtain ⟨q1, q2⟩ := pl2 c3
        exact pi_rngW2 g1 (G.bi _ rangeN) ha (by rw [q1, q2]) q2
      · cases h
    · cases h
  | enm =>
    simp only [iterArgs] at h
    split at h
    · split at h
      · split at h
        · rename_i c
          cases h
          simp only [Bool.and_eq_true] at c
          obtain ⟨⟨c1, c2⟩, c3⟩ := c
          obtain ⟨g1, g2⟩ := gl_ok c2
          have c1 := of_decide_eq_true c1
          subst c1
          exact pi_enmW g1 (G.bi _ enumN) ha (pl1 c3)
        · cases h
      · cases h
    · cases h
  | zip =>
    simp only [iterArgs] at h
    split at h
    · split at h
      · split at h
        · rename_i c
          cases h
          simp only [Bool.and_eq_true] at c
          obtain ⟨⟨c1, c2⟩, c3⟩ := c
          obtain ⟨g1, g2⟩ := gl_ok c2
          have c1 := of_decide_eq_true c1
          subst c1
          obtain ⟨q1, q2⟩ := pl2 c3
          exact pi_zipW g1 (G.bi _ zipN) ha q1 (by rw [q2]; rfl)
        · cases h
      · cases h
    · cases h
end
end TL
set_option maxHeartbeats 4000000
/-! What is compared keeps its promise: expressions, by their making. -/
namespace TL
open PySem PySem.Spec PyProof.Rows L2
variable [TabI] [CloI]
theorem pl_cons {v : Expr} {vs : List Expr} (h : plainL (v :: vs) = true) : isStar v = false ∧ plainL vs = true := by
  unfold plainL at h
  rw [List.all_cons, Bool.and_eq_true] at h
  exact ⟨by simpa using h.1, h.2⟩
def biM (N T : List Str) (B D : Bool) (b : Bi) (es : List Ex) (sc : Scope) (x : Expr) : Bool := match x with
  | .Call (.Name x _) vs [] _ => plainBi b && decide (x = biName b) && gl sc x && mLs N T B D es sc vs && plainL vs && !vs.isEmpty
  | _ => false
theorem biM_eq {N T : List Str} {B D : Bool} {b : Bi} {es : List Ex} {sc : Scope} {x : Expr} (hb : plainBi b = true) : mE N T B D (.bi b es) sc x = biM N T B D b es sc x := by cases b <;> first | rfl | cases hb
def isiM (N T : List Str) (B D : Bool) (t : Nat) (es : List Ex) (sc : Scope) (e : Expr) : Bool := match e with
  | .Call (.Name x _) [a, .Name y _] [] _ => decide (x = "isinstance") && gl sc x && decide (t < 6) && decide (y = Str.ofString (tyName t)) && gl sc y && decide (y ∈ bnames) && decide (y ≠ "__name__") && !isStar a && mLs N T B D es sc [a]
  | _ => false
def revM (N T : List Str) (B D : Bool) (es : List Ex) (sc : Scope) (e : Expr) : Bool := match e with
  | .Subscript a (.Slice none none (some (.UnaryOp .USub (.Constant (.int j) _ _) _)) _) _ => decide (j = 1) && !isStar a && mLs N T B D es sc [a]
  | _ => false
def lr1M (N T : List Str) (B D : Bool) (es : List Ex) (sc : Scope) (e : Expr) : Bool := match e with
  | .Call (.Name x _) [.Call (.Name y _) [a] [] _] [] _ => decide (x = "list") && gl sc x && decide (y = "range") && gl sc y && !isStar a && mLs N T B D es sc [a]
  | _ => false
def lr2M (N T : List Str) (B D : Bool) (es : List Ex) (sc : Scope) (e : Expr) : Bool := match e with
  | .Call (.Name x _) [.Call (.Name y _) [a, a2] [] _] [] _ => decide (x = "list") && gl sc x && decide (y = "range") && gl sc y && !isStar a && !isStar a2 && mLs N T B D es sc [a, a2]
  | _ => false
theorem isiM_eq {N T : List Str} {B D : Bool} {t : Nat} {es : List Ex} {sc : Scope} {x : Expr} : mE N T B D (.bi (.isinst t) es) sc x = isiM N T B D t es sc x := rfl
theorem revM_eq {N T : List Str} {B D : Bool} {es : List Ex} {sc : Scope} {x : Expr} : mE N T B D (.bi .rev es) sc x = revM N T B D es sc x := rfl
theorem lr1M_eq {N T : List Str} {B D : Bool} {es : List Ex} {sc : Scope} {x : Expr} : mE N T B D (.bi .lrng1 es) sc x = lr1M N T B D es sc x := rfl
theorem lr2M_eq {N T : List Str} {B D : Bool} {es : List Ex} {sc : Scope} {x : Expr} : mE N T B D (.bi .lrng2 es) sc x = lr2M N T B D es sc x := rfl
theorem one_of {N T : List Str} {B D : Bool} {es : List Ex} {sc : Scope} {a : Expr} (h : mLs N T B D es sc [a] = true) (ha : isStar a = false) : ∃ e, es = [e] ∧ mE N T B D e sc a = true := by
  cases es with
  | nil => rw [mLs_nil] at h; cases h
  | cons e r =>
    rw [mLs_cons, Bool.and_eq_true] at h
    cases r with
    | nil => exact ⟨e, rfl, headM_plain ha h.1⟩
    | cons _ _ => rw [mLs_cnil] at h; exact absurd h.2 (by simp)
theorem two_of {N T : List Str} {B D : Bool} {es : List Ex} {sc : Scope} {a b : Expr} (h : mLs N T B D es sc [a, b] = true) (ha : isStar a = false) (hb : isStar b = false) : ∃ e f, es = [e, f] ∧ mE N T B D e sc a = true ∧ mE N T B D f sc b = true := by
  cases es with
  | nil => rw [mLs_nil] at h; cases h
  | cons e r =>
    rw [mLs_cons, Bool.and_eq_true] at h
    obtain ⟨f, rfl, hf⟩ := one_of h.2 hb
    exact ⟨e, f, rfl, headM_plain ha h.1, hf⟩
theorem PTs.mo {X : Cx} {ifs : List Expr} {t t' : TT} (p : PTs X ifs t) (f : ∀ σ H Q, t' σ H Q → t σ H Q) : PTs X ifs t' := ⟨fun pins s σ H Q I q => p.run pins s σ H Q I (f σ H Q q)⟩
theorem evIfs1 {C : CT} (e : Ex) (env : Env) (h : Hw) : evIfs C [e] env h = evT C e env h := by
  simp only [evIfs, evT]
  cases evE C e env h with
  | err => rfl
  | exc _ _ _ => rfl
  | ok x h1 =>
    simp only [R.bind]
    cases tru h1 x with
    | none => rfl
    | some k => cases k <;> rfl
theorem own_ok {N : List Str} {own : List Nat} (h : (ownP N own).map (·.2) = own) {t : Tg} (hix : (t.ix.all fun i => decide (i ∈ own)) = true) : ∀ i ∈ t.ix, i ∈ (ownP N own).map (·.2) := fun i m => by
  rw [h]
  exact of_decide_eq_true (List.all_eq_true.mp hix i m)
theorem stB_ok {X : Cx} {s : Shared} {H : Hp} {scope : Scope} {cl : List (Str × Addr)} {C : Addr} {fp : List Addr} (x : Str) (h : stB scope x = true) :
    Loc (X.blk s H scope (compEnvC scope cl C X.env) fp).env.scope x ∧ ((X.blk s H scope (compEnvC scope cl C X.env) fp).fn x = true ∨ (X.blk s H scope (compEnvC scope cl C X.env) fp).env.scope.names.lookup x = some .local) := by
  unfold stB at h
  have kp : ∀ k, k ≠ .free → scope.names.lookup x = some k → (relS scope X.env.scope).names.lookup x = some k := fun k hk e => lookup_relS_keep hk e
  split at h
  · rename_i e
    have := kp _ (by decide) e
    exact ⟨.inl this, .inr this⟩
  · rename_i e
    have := kp _ (by decide) e
    exact ⟨.inr this, .inl (by show (scope.names.lookup x == some .cell) = true; rw [e]; rfl)⟩
  · cases h
theorem bd1 {q : Str} {a : Arg} {body : Expr} {scope : Scope} {cl : List (Str × Addr)} {pm cv ctv : Value} (u : Value) :
    bindArgs (PySem.W.kla_fn "<lambda>" q ⟨[], [a], none, [], [], none, []⟩ body scope cl pm cv ctv) ⟨[u], []⟩ = pure [(a.arg, u)] := by
  unfold bindArgs
  simp [seqItems?, PySem.W.kla_fn, List.lookup]
  rfl
theorem bd2 {q : Str} {a b : Arg} {body : Expr} {scope : Scope} {cl : List (Str × Addr)} {pm cv ctv : Value} (h : (b.arg == a.arg) = false) (u v : Value) :
    bindArgs (PySem.W.kla_fn "<lambda>" q ⟨[], [a, b], none, [], [], none, []⟩ body scope cl pm cv ctv) ⟨[u, v], []⟩ = pure [(a.arg, u), (b.arg, v)] := by
  unfold bindArgs
  simp [seqItems?, PySem.W.kla_fn, List.lookup, h]
  rfl
theorem bd3 {q : Str} {a b c : Arg} {body : Expr} {scope : Scope} {cl : List (Str × Addr)} {pm cv ctv : Value} (h : (b.arg == a.arg) = false) (h2 : (c.arg == a.arg) = false) (h3 : (c.arg == b.arg) = false) (u v w : Value) :
    bindArgs (PySem.W.kla_fn "<lambda>" q ⟨[], [a, b, c], none, [], [], none, []⟩ body scope cl pm cv ctv) ⟨[u, v, w], []⟩ = pure [(a.arg, u), (b.arg, v), (c.arg, w)] := by
  unfold bindArgs
  simp [seqItems?, PySem.W.kla_fn, List.lookup, h, h2, h3]
  rfl
theorem simple_bd {ps : Arguments} {qs : List Str} (h : simpleP ps = some qs) {body : Expr} {scope : Scope} (q : Str) (cl : List (Str × Addr)) (pm cv ctv : Value) : ∀ us : List Value, us.length = qs.length → bindArgs (PySem.W.kla_fn "<lambda>" q ps body scope cl pm cv ctv) ⟨us, []⟩ = pure (qs.zip us) := by
  unfold simpleP at h
  split at h
  · cases h
    intro us hl
    match us, hl with
    | [], _ => rfl
  · cases h
    intro us hl
    match us, hl with
    | [u], _ => exact bd1 u
  · rename_i a b
    cases e : b.arg == a.arg with
    | true => rw [e] at h; cases h
    | false =>
      rw [e] at h
      cases h
      intro us hl
      match us, hl with
      | [u, v], _ => exact bd2 e u v
  · rename_i a b c
    cases e : ((b.arg == a.arg) || (c.arg == a.arg) || (c.arg == b.arg)) with
    | true => rw [e] at h; cases h
    | false =>
      rw [e] at h
      cases h
      rw [Bool.or_eq_false_iff, Bool.or_eq_false_iff] at e
      intro us hl
      match us, hl with
      | [u, v, w], _ => exact bd3 e.1.1 e.1.2 e.2 u v w
  · cases h
theorem simple_df {ps : Arguments} {qs : List Str} (h : simpleP ps = some qs) (env : PySem.Env) : defaultsOf ps env = ([], []) := by
  unfold simpleP at h
  split at h
  · rfl
  · rfl
  · rfl
  · rfl
  · cases h
theorem optAll_map {α β : Type} {f : α → Option β} : ∀ {l : List α} {r : List β}, optAll (l.map f) = some r → l.map f = r.map some
  | [], r, h => by cases h; rfl
  | a :: l, r, h => by
    rw [List.map_cons] at h
    cases e : f a with
    | none => rw [e] at h; cases h
    | some b =>
      rw [e] at h
      cases e2 : optAll (l.map f) with
      | none => simp only [optAll, e2] at h; cases h
      | some r2 =>
        simp only [optAll, e2] at h
        cases h
        rw [List.map_cons, List.map_cons, e, optAll_map e2]
theorem lamN_ok {N : List Str} {sc : Scope} {caps : List Nat} {np : Nat} {ps : Arguments} {lsc : Scope} {N2 : List Str} (lb : Expr) (h : lamN N caps np sc ps lsc = some N2) :
    ∃ qs fr, N2 = qs ++ fr ∧ np = qs.length ∧ ∀ X : Cx, X.N = N → X.env.scope = sc → LamTab X → LamOk X (qs ++ fr) qs fr caps ps lb lsc := by
  unfold lamN at h
  split at h
  · rename_i qs fr h1 h2
    split at h
    · rename_i c
      cases h
      simp only [Bool.and_eq_true] at c
      obtain ⟨⟨c1, c2⟩, c3⟩ := c
      refine ⟨qs, fr, rfl, (Nat.eq_of_beq_eq_true c1).symm, fun X eN es LT => ?_⟩
      subst eN es
      obtain ⟨c0, P0, t1, t2, t3, t4⟩ := LT
      exact ⟨⟨c0, P0, t1, t2, t3, t4⟩, simple_df h1 _, NdefX.nscope_by c2, by rw [List.length_append], c3, optAll_map h2, simple_bd h1⟩
    · cases h
  · cases h
theorem dropLast_last : ∀ {vs : List Expr} {l : Expr}, vs.getLast? = some l → vs = vs.dropLast ++ [l]
  | [], _, h => by cases h
  | [a], l, h => by cases h; rfl
  | a :: b :: r, l, h => by
    have h : (b :: r).getLast? = some l := by rw [List.getLast?_cons_cons] at h; exact h
    show _ = a :: ((b :: r).dropLast ++ [l])
    rw [← dropLast_last h]
theorem plain_drop {vs : List Expr} (h : plainL vs = true) : plainL vs.dropLast = true := by
  unfold plainL at h ⊢
  rw [List.all_eq_true] at h ⊢
  exact fun e he => h e (List.dropLast_subset vs he)
theorem plain_mem {vs : List Expr} (h : plainL vs = true) (e : Expr) (he : e ∈ vs) : isStar e = false := by
  unfold plainL at h
  rw [List.all_eq_true] at h
  simpa using h e he
theorem plain_tail {vs : List Expr} (h : plainL vs = true) {e : Expr} {r : List Expr} (he : vs = e :: r) : plainL r = true := by
  subst he
  exact (pl_cons h).2
theorem sortedN : ("sorted" : Str) ∈ bnames := by decide +kernel
theorem setN : ("set" : Str) ∈ bnames := by decide +kernel
section
variable {CX : CXT} {ct : Nat → Option Value} {tr : XK → XK} {C : CT} {T : List Str} {n : Nat}
theorem PD.cg {X : Cx} {Wx : WX} {pos : Pos} {ks : List (Option Expr)} {vs : List Expr} {m m' : Env → Hw → R (List (L2.Key × W))} (p : PD X ct Wx pos ks vs m) (e : ∀ env h, m' env h = m env h) : PD X ct Wx pos ks vs m' := by
  have : m' = m := by funext env h; exact e env h
  rw [this]; exact p
theorem PAL.cg {X : Cx} {Wx : WX} {kk : Nat} {es : List Expr} {last : Expr} {m m' : Env → Hw → R (List W × List W × (List W → List W → Hw → R W))} (p : PAL X CX ct tr Wx kk es last m) (e : ∀ env h, m' env h = m env h) : PAL X CX ct tr Wx kk es last m' := by
  have : m' = m := by funext env h; exact e env h
  rw [this]; exact p
mutual
theorem sE : ∀ (e : Ex) {X : Cx} {Wx : WX} {B D : Bool} (G : Good X CX ct tr Wx C T B D n) (a : Expr), mE X.N T B D e X.env.scope a = true → PX X ct Wx C e a
  | .var i, X, Wx, B, D, G, a, h => by
    simp only [mE] at h
    split at h
    · simp only [Bool.and_eq_true, Bool.not_eq_true'] at h
      exact both (w_var C (of_decide_eq_true h.1.1.1) (vis_ok h.1.1.2) h.1.2 h.2) fun _ => rfl
    · cases h
  | .non, X, Wx, B, D, G, a, h => by
    simp only [mE] at h
    split at h
    · exact both (w_c pe_non (fun _ _ => rfl) fun _ _ => VR.mk_non) fun _ => rfl
    · cases h
  | .bl b, X, Wx, B, D, G, a, h => by
    simp only [mE] at h
    split at h
    · have h := eq_of_beq h
      subst h
      exact both (w_c pe_bl (fun _ _ => rfl) fun _ _ => VR.mk_bl) fun _ => rfl
    · cases h
  | .int i, X, Wx, B, D, G, a, h => by
    simp only [mE] at h
    split at h
    · have h := of_decide_eq_true h
      subst h
      exact both (w_c pe_int (fun _ _ => rfl) fun _ _ => VR.mk_int) fun _ => rfl
    · cases h
  | .str i, X, Wx, B, D, G, a, h => by
    simp only [mE] at h
    split at h
    · have h := of_decide_eq_true h
      subst h
      exact both (w_c pe_str (fun _ _ => rfl) fun _ _ => VR.mk_str) fun _ => rfl
    · cases h
  | .bin o a b, X, Wx, B, D, G, x, h => by
    simp only [mE] at h
    split at h
    · simp only [Bool.and_eq_true] at h
      have e := isOp_ok h.1.1
      subst e
      exact both (w_bin o (sE a G _ h.1.2).1 (sE b G _ h.2).1) fun _ => rfl
    · cases h
  | .neg a, X, Wx, B, D, G, x, h => by
    simp only [mE] at h
    split at h
    · exact both (w_neg (sE a G _ h).1) fun _ => rfl
    · cases h
  | .cmp o a b, X, Wx, B, D, G, x, h => by
    simp only [mE] at h
    split at h
    · simp only [Bool.and_eq_true, Bool.not_eq_true'] at h
      have e := isCop_ok h.1.1.1
      subst e
      have ea := (sE a G _ h.1.1.2).1
      have eb := (sE b G _ h.1.2).1
      exact ⟨w_cmp G.hu o ea eb (noset_marks h.2), fun _ => PT.cg (w_cmpT G.hu o ea eb (noset_marks h.2)) fun env h => evT_cmp o a b env h⟩
    · cases h
  | .chn o q a b c, X, Wx, B, D, G, x, h => by
    simp only [mE] at h
    split at h
    · simp only [Bool.and_eq_true, Bool.not_eq_true'] at h
      have e1 := isCop_ok h.1.1.1.1.1
      have e2 := isCop_ok h.1.1.1.1.2
      subst e1 e2
      have ea := (sE a G _ h.1.1.1.2).1
      have eb := (sE b G _ h.1.1.2).1
      have ec := (sE c G _ h.1.2).1
      have mk := noset_marks (op := copOf q) h.2
      exact ⟨w_chn G.hu o q ea eb ec mk, fun _ => PT.cg (w_chnT G.hu o q ea eb ec mk) fun env h => evT_chn o q a b c env h⟩
    · cases h
  | .and es, X, Wx, B, D, G, x, h => by
    simp only [mE] at h
    split at h
    · simp only [Bool.and_eq_true, Bool.not_eq_true'] at h
      obtain ⟨p1, p2⟩ := sB es G _ _ h.1.1 h.1.2 h.2
      exact ⟨p1.1, fun t => (p2 (by simpa only [tok] using t)).1.pt⟩
    · cases h
  | .or es, X, Wx, B, D, G, x, h => by
    simp only [mE] at h
    split at h
    · simp only [Bool.and_eq_true, Bool.not_eq_true'] at h
      obtain ⟨p1, p2⟩ := sB es G _ _ h.1.1 h.1.2 h.2
      exact ⟨p1.2, fun t => (p2 (by simpa only [tok] using t)).2.pt⟩
    · cases h
  | .not a, X, Wx, B, D, G, x, h => by
    simp only [mE] at h
    split at h
    · obtain ⟨p1, p2⟩ := sE a G _ h
      exact ⟨w_not p1, fun t => PT.cg (w_notT (p2 (by simpa only [tok] using t))) fun env h => evT_not a env h⟩
    · cases h
  | .ife c a b, X, Wx, B, D, G, x, h => by
    simp only [mE] at h
    split at h
    · simp only [Bool.and_eq_true] at h
      refine ⟨PE.cg (w_ife ((sE c G _ h.1.1.2).2 h.1.1.1) (sE a G _ h.1.2).1 (sE b G _ h.2).1) fun env hw => ?_, fun t => by simp only [tok] at t; cases t⟩
      simp only [evE, evT]
      cases evE C c env hw with
      | err => rfl
      | exc _ _ _ => rfl
      | ok y h1 =>
        simp only [R.bind]
        cases tru h1 y with
        | none => rfl
        | some k => cases k <;> rfl
    · cases h
  | .tup es, X, Wx, B, D, G, x, h => by
    simp only [mE] at h
    split at h
    · exact both (w_tup (sL es G _ h)) fun _ => rfl
    · cases h
  | .star _, X, Wx, B, D, G, x, h => by
    simp only [mE] at h
    cases h
  | .lst es, X, Wx, B, D, G, x, h => by
    simp only [mE] at h
    split at h
    · exact both (w_lst (sL es G _ h)) fun _ => rfl
    · cases h
  | .dct es, X, Wx, B, D, G, x, h => by
    simp only [mE] at h
    split at h
    · simp only [Bool.and_eq_true, Bool.not_eq_true'] at h
      obtain ⟨⟨⟨h1, h2⟩, h3⟩, h5⟩ := h
      rename_i ks vs pos
      cases ks with
      | cons k0 ks => exact both (w_dct (sD es G _ _ _ h1) h2 (Nat.eq_of_beq_eq_true h3) (fun z => by cases z) (Nat.le_of_ble_eq_true h5)) fun _ => rfl
      | nil =>
        cases es with
        | nil =>
          cases vs with
          | nil => exact both (w_dct0 (m := evD C []) fun _ _ => rfl) fun _ => rfl
          | cons _ _ => exact absurd h3 (by simp)
        | cons e r => cases r <;> (simp only [mD] at h1; first | cases h1 | (split at h1 <;> cases h1))
    · cases h
  | .idx a i, X, Wx, B, D, G, x, h => by
    simp only [mE] at h
    split at h
    · simp only [Bool.and_eq_true, Bool.not_eq_true'] at h
      exact both (w_idx G.hu (sE a G _ h.1.1).1 (sE i G _ h.1.2).1 (noslice_ix h.2)) fun _ => rfl
    · cases h
  | .slc a lo hi, X, Wx, B, D, G, x, h => by
    simp only [mE] at h
    split at h
    · simp only [Bool.and_eq_true] at h
      exact both (w_slc (sE a G _ h.1.1).1 (sO lo G _ h.1.2) (sO hi G _ h.2)) fun _ => rfl
    · cases h
  | .call f es, X, Wx, B, D, G, x, h => by
    simp only [mE] at h
    split at h
    · rename_i nm p vs pos
      simp only [Bool.and_eq_true] at h
      obtain ⟨⟨⟨h1, h2⟩, h3⟩, h4⟩ := h
      obtain ⟨fa, fd, ps, F, hm, hk, hb⟩ := G.fns f _ (of_decide_eq_true h1)
      have hr := G.rm
      obtain ⟨g1, g2⟩ := gl_ok h2
      have ha := sL es G vs h3
      cases vs with
      | nil =>
        cases es with
        | nil => exact both (PE.cg (w_call0 F G.ht hr G.hg g1 hm hk hb G.pa g2) fun env h => by simp only [evE, evL]; rfl) fun _ => rfl
        | cons _ _ => rw [mLs_cnil] at h3; cases h3
      | cons v vs =>
        obtain ⟨c1, c2⟩ := pl_cons h4
        exact both (w_call F G.ht hr G.hg g1 hm hk hb G.pa ha g2 (star1 c1) (star_any c2)) fun _ => rfl
    · cases h
  | .bi b es, X, Wx, B, D, G, x, h => by
    cases hb : plainBi b with
    | true =>
      rw [biM_eq hb] at h
      unfold biM at h
      split at h
      · rename_i nm p vs pos
        simp only [Bool.and_eq_true, Bool.not_eq_true'] at h
        obtain ⟨⟨⟨⟨⟨_, h1⟩, h2⟩, h3⟩, h4⟩, h5⟩ := h
        have h1 := of_decide_eq_true h1
        subst h1
        obtain ⟨g1, g2⟩ := gl_ok h2
        have ha := sL es G vs h3
        cases vs with
        | nil => cases h5
        | cons v vs =>
          obtain ⟨c1, c2⟩ := pl_cons h4
          exact both (w_bi G.hc G.hu G.hg b hb rfl g1 (G.bi _ (biN b hb)) ha (star1 c1) (star_any c2)) fun _ => rfl
      · cases h
    | false =>
      cases b with
      | isinst t =>
        rw [isiM_eq] at h
        unfold isiM at h
        split at h
        · simp only [Bool.and_eq_true] at h
          obtain ⟨⟨⟨⟨⟨⟨⟨⟨h1, h2⟩, h3⟩, h4⟩, h5⟩, h6⟩, h7⟩, h9⟩, h8⟩ := h
          have h9 := (by simpa using h9 : isStar _ = false)
          obtain ⟨e1, ee, h8⟩ := one_of h8 h9
          · have h1 := of_decide_eq_true h1
            subst h1
            obtain ⟨g1, g2⟩ := gl_ok h2
            obtain ⟨g3, g4⟩ := gl_ok h5
            have p1 := (sE1 es G e1 _ ee h8).1
            refine both (PE.cg (w_isi (of_decide_eq_true h3) g1 (G.bi _ isiN) (of_decide_eq_true h4) g3 (G.bi _ (of_decide_eq_true h6)) (of_decide_eq_true h7) g4 p1 (star1 h9) rfl rfl) fun env hw => ?_) fun _ => rfl
            simp only [evE]
            rw [ee, evL_cons (mE_nostar h8)]
            cases evE C e1 env hw <;> rfl
        · cases h
      | rev =>
        rw [revM_eq] at h
        unfold revM at h
        split at h
        · simp only [Bool.and_eq_true, Bool.not_eq_true'] at h
          obtain ⟨⟨h1, h3⟩, h2⟩ := h
          have h1 := of_decide_eq_true h1
          subst h1
          obtain ⟨e1, ee, h2⟩ := one_of h2 h3
          · have p1 := (sE1 es G e1 _ ee h2).1
            refine both (PE.cg (w_rev p1) fun env hw => ?_) fun _ => rfl
            simp only [evE]
            rw [ee, evL_cons (mE_nostar h2)]
            cases evE C e1 env hw <;> rfl
        · cases h
      | lrng1 =>
        rw [lr1M_eq] at h
        unfold lr1M at h
        split at h
        · simp only [Bool.and_eq_true, Bool.not_eq_true'] at h
          obtain ⟨⟨⟨⟨⟨h1, h2⟩, h3⟩, h4⟩, h5⟩, h6⟩ := h
          have h1 := of_decide_eq_true h1
          have h3 := of_decide_eq_true h3
          subst h1 h3
          obtain ⟨g1, g2⟩ := gl_ok h2
          obtain ⟨g3, g4⟩ := gl_ok h4
          obtain ⟨e1, ee, h6⟩ := one_of h6 h5
          · have p1 := (sE1 es G e1 _ ee h6).1
            refine both (PE.cg (w_lrng1 G.hc g1 (G.bi _ listN) g3 (G.bi _ rangeN) p1 (star1 h5) rfl) fun env hw => ?_) fun _ => rfl
            simp only [evE]
            rw [ee, evL_cons (mE_nostar h6)]
            cases evE C e1 env hw <;> rfl
        · cases h
      | lrng2 =>
        rw [lr2M_eq] at h
        unfold lr2M at h
        split at h
        · simp only [Bool.and_eq_true, Bool.not_eq_true'] at h
          obtain ⟨⟨⟨⟨⟨⟨h1, h2⟩, h3⟩, h4⟩, h5⟩, h5b⟩, h6⟩ := h
          have h1 := of_decide_eq_true h1
          have h3 := of_decide_eq_true h3
          subst h1 h3
          obtain ⟨g1, g2⟩ := gl_ok h2
          obtain ⟨g3, g4⟩ := gl_ok h4
          obtain ⟨e1, e2, ee, h6⟩ := two_of h6 h5 h5b
          · obtain ⟨p1, p2⟩ := sE2 es G e1 e2 _ _ ee h6.1 h6.2
            have p1 := p1.1
            have p2 := p2.1
            refine both (PE.cg (w_lrng2 G.hc g1 (G.bi _ listN) g3 (G.bi _ rangeN) p1 p2 (star1 h5) (star1 h5b) (by rw [star1 h5b]; rfl) rfl) fun env hw => ?_) fun _ => rfl
            simp only [evE]
            rw [ee, evL_cons (mE_nostar h6.1)]
            cases evE C e1 env hw with
            | err => rfl
            | exc _ _ _ => rfl
            | ok y h1 =>
              simp only [R.bind]
              rw [evL_cons (mE_nostar h6.2)]
              cases evE C e2 env h1 <;> rfl
        · cases h
      | _ => cases hb
  | .me m o es, X, Wx, B, D, G, x, h => by
    simp only [mE] at h
    split at h
    · rename_i o' nm apos vs cpos
      simp only [Bool.and_eq_true] at h
      obtain ⟨⟨⟨⟨⟨⟨h1, h2⟩, h3⟩, h4⟩, h5⟩, h6⟩, h7⟩ := h
      have h1 := of_decide_eq_true h1
      subst h1
      have po := (sE o G _ h2).1
      have ha := sL es G vs h4
      cases vs with
      | nil =>
        cases es with
        | nil =>
          refine both (PE.cg (w_me0 G.hu m po (base_ok h3) h7) fun env hw => ?_) fun _ => rfl
          simp only [evE, evL]
          rfl
        | cons _ _ => rw [mLs_cnil] at h4; cases h4
      | cons v vs =>
        obtain ⟨c1, c2⟩ := pl_cons h5
        have h6 := Nat.le_of_ble_eq_true h6
        exact both (w_me G.hu m po ha (base_ok h3) (star_all h5) (by simp only [List.length_cons] at h6; omega) h7 (star1 c1) (star_any c2)) fun _ => rfl
    · cases h
  | .comp elt tg k its ifs own, X, Wx, B, D, G, x, h => by
    simp only [mE] at h
    split at h
    · rename_i x1 t1 it1 fs1 scope1 pos1
      simp only [Bool.and_eq_true, Bool.not_eq_true'] at h
      obtain ⟨⟨⟨⟨⟨⟨⟨⟨⟨⟨h1, h2⟩, h3⟩, h4⟩, h5⟩, h6⟩, h7⟩, h8⟩, h9⟩, h10⟩, h11⟩ := h
      split at h1
      · rename_i args ei
        have ha := sL its G args h1
        have hi := it_ok G ei h1 ha fun e a e1 e2 he => (sE1 its G e a e1 he).1
        have h4 := of_decide_eq_true h4
        have go := w_lc (Wx := Wx) (pos := pos1) (own := ownP X.N own) G.hc G.nd hi (blkOk_by h3) (own_ok h4 h5) (fun s H Ca cl fp => g_ok (X := X.blk s H scope1 (compEnvC scope1 cl Ca X.env) fp) G.nd G.hc stB_ok tg t1 h6)
          (fun s H Ca cl fp => sI ifs (G.blk s H scope1 (compEnvC scope1 cl Ca X.env) fp) fs1 h8 h9 (Nat.le_of_ble_eq_true h10) h11)
          (fun s H Ca cl fp => (sE elt (G.blk s H scope1 (compEnvC scope1 cl Ca X.env) fp) x1 h7).1) (noset_fold h2)
        refine both (PE.cg go fun env hw => ?_) fun _ => rfl
        simp only [evE]
        rw [h4]
        congr 1
        funext ws hw1
        unfold compK
        cases iterOf k ws hw1 with
        | none => rfl
        | some p => rfl
      · cases h1
    · cases h
  | .upd d e, X, Wx, B, D, G, x, h => by
    simp only [mE] at h
    split at h
    · simp only [Bool.and_eq_true] at h
      obtain ⟨⟨⟨⟨h1, h2⟩, h3⟩, h4⟩, h5⟩ := h
      have h1 := of_decide_eq_true h1
      subst h1
      have ns := star1 (env := X.env) (es := []) (mE_star h4)
      refine both (PE.cg (w_upd (sE d G _ h2).1 (sE e G _ h4).1 (base_ok h3) h5 ns (by rw [ns]; rfl)) fun env hw => ?_) fun _ => rfl
      simp only [evE]
    · cases h
  | .sset a, X, Wx, B, D, G, x, h => by
    simp only [mE] at h
    split at h
    · simp only [Bool.and_eq_true] at h
      obtain ⟨⟨⟨⟨h1, h2⟩, h3⟩, h4⟩, h5⟩ := h
      have h1 := of_decide_eq_true h1
      have h3 := of_decide_eq_true h3
      subst h1 h3
      obtain ⟨g1, g2⟩ := gl_ok h2
      obtain ⟨g3, g4⟩ := gl_ok h4
      exact both (PE.cg (w_sset G.hc g1 (G.bi _ sortedN) g3 (G.bi _ setN) (sE a G _ h5).1 (star1 (mE_star h5))) fun env hw => by simp only [evE]) fun _ => rfl
    · cases h
  | .callv i es, X, Wx, B, D, G, x, h => by
    simp only [mE] at h
    split at h
    · rename_i nm p vs pos
      simp only [Bool.and_eq_true, Bool.not_eq_true'] at h
      obtain ⟨⟨⟨⟨⟨⟨h1, h2⟩, h3⟩, h4⟩, h5⟩, h6⟩, h7⟩ := h
      obtain ⟨kk, R, hex, hr⟩ := G.cl h1
      have ha := sL es G vs h6
      cases vs with
      | nil =>
        cases es with
        | nil =>
          refine both (PE.cg (w_callv0 R hex hr G.hg G.ht G.pa (of_decide_eq_true h2) (vis_ok h3) h4 h5) fun env hw => ?_) fun _ => rfl
          simp only [evE, evL, cloK] <;> rfl
        | cons _ _ => rw [mLs_cnil] at h6; cases h6
      | cons v vs =>
        obtain ⟨c1, c2⟩ := pl_cons h7
        refine both (PE.cg (w_callv R hex hr G.hg G.ht G.pa (of_decide_eq_true h2) (vis_ok h3) h4 h5 ha (star1 c1) (star_any c2)) fun env hw => ?_) fun _ => rfl
        simp only [evE, cloK] <;> rfl
    · cases h
  | .callC f es np caps body, X, Wx, B, D, G, x, h => by
    simp only [mE] at h
    split at h
    · rename_i nm p vs pos
      simp only [Bool.and_eq_true] at h
      obtain ⟨⟨⟨⟨⟨h1, h2⟩, h3⟩, h4⟩, h5⟩, h6⟩ := h
      obtain ⟨LT, hr, fc⟩ := G.lm h1
      obtain ⟨fa, fd, ps, F, _, hm, hk, hb⟩ := fc f _ (of_decide_eq_true h2)
      obtain ⟨g1, g2⟩ := gl_ok h3
      split at h6
      · rename_i lps lb lsc lp hlast
        split at h6
        · rename_i N2 hN2
          obtain ⟨qs, fr, eN, hnp, LO⟩ := lamN_ok lb hN2
          have LO := LO X rfl rfl LT
          subst eN hnp
          have hbd := fun (A : Around) (outer : List PySem.Env) (s' : Shared) (H' : Hp) (E : XK) (fl c : Addr) (hr2 : Room n (A.deeper (NdefX.envF (lamNF (X.env.qual ++ "<lambda>") lps lsc (cloFrom X.env.cells lsc.names []) c) fl s'.heap.objs.size))) (hg2 : A.guards = some []) =>
            (sE body (G.lam (N := qs ++ fr) (ps := qs) (fr := fr) (F := lamNF (X.env.qual ++ "<lambda>") lps lsc (cloFrom X.env.cells lsc.names []) c) (f := fl) (outer := outer) (H := H') (E := E) LO.sc hr2 hg2) lb h6).1
          have vsE : vs = vs.dropLast ++ [.Lambda lps lb lsc lp] := (dropLast_last hlast)
          have pal := sP es G vs.dropLast h4 (plain_drop h5) (w_lam (Wx := Wx) (pos := lp) LO hbd) rfl
          have go := w_callC (Wx := Wx) (p := p) (pos := pos) F G.ht hr G.hg g1 hm hk hb G.pa pal g2 (fun e he r => star1 (plain_mem (by rw [← vsE]; exact h5) e he)) (fun e r he => star_any (plain_tail (by rw [← vsE]; exact h5) he))
          rw [← vsE] at go
          refine both (PE.cg go fun env hw => ?_) fun _ => rfl
          simp only [evE]
          cases evL C es env hw with
          | err => rfl
          | exc _ _ _ => rfl
          | ok ws h1 =>
            simp only [R.bind]
            unfold lamM
            cases capsOf env caps with
            | none => rfl
            | some cs => rfl
        · cases h6
      · cases h6
    · cases h
  | .callM f es g es2, X, Wx, B, D, G, x, h => by
    simp only [mE] at h
    split at h
    · rename_i nm p vs pos
      simp only [Bool.and_eq_true] at h
      obtain ⟨⟨⟨⟨⟨h1, h2⟩, h3⟩, h4⟩, h5⟩, h6⟩ := h
      obtain ⟨LT, hr, fc⟩ := G.lm h1
      obtain ⟨fa, fd, ps, F, _, hm, hk, hb⟩ := fc f _ (of_decide_eq_true h2)
      obtain ⟨g1, g2⟩ := gl_ok h3
      split at h6
      · rename_i y yp us upos hlast
        simp only [Bool.and_eq_true, Bool.not_eq_true'] at h6
        obtain ⟨⟨⟨⟨k1, k2⟩, k3⟩, k4⟩, k5⟩ := h6
        obtain ⟨ga, gd, gps, _, FM, hm2, hk2, hb2⟩ := fc g _ (of_decide_eq_true k1)
        obtain ⟨g3, g4⟩ := gl_ok k2
        cases us with
        | nil => cases k5
        | cons u us =>
          obtain ⟨c1, c2⟩ := pl_cons k4
          have pl := w_mk (Wx := Wx) (p := yp) (pos := upos) FM G.ht hr G.hg g3 hm2 hk2 hb2 G.pa (sL es2 G (u :: us) k3) g4 (star1 c1) (star_any c2)
          have vsE : vs = vs.dropLast ++ [.Call (.Name y yp) (u :: us) [] upos] := (dropLast_last hlast)
          have pal := sP es G vs.dropLast h4 (plain_drop h5) pl rfl
          have go := w_callC (Wx := Wx) (p := p) (pos := pos) F G.ht hr G.hg g1 hm hk hb G.pa pal g2 (fun e he r => star1 (plain_mem (by rw [← vsE]; exact h5) e he)) (fun e r he => star_any (plain_tail (by rw [← vsE]; exact h5) he))
          rw [← vsE] at go
          refine both (PE.cg go fun env hw => ?_) fun _ => rfl
          simp only [evE]
          cases evL C es env hw with
          | err => rfl
          | exc _ _ _ => rfl
          | ok ws h1 =>
            simp only [R.bind]
            cases evL C es2 env h1 with
            | err => rfl
            | exc _ _ _ => rfl
            | ok us h2 =>
              simp only []
              cases C.m g us h2 <;> rfl
      · cases h6
    · cases h
termination_by e => sizeOf e
theorem sP : ∀ (es : List Ex) {X : Cx} {Wx : WX} {B D : Bool} (G : Good X CX ct tr Wx C T B D n) (vs : List Expr), mLs X.N T B D es X.env.scope vs = true → plainL vs = true → ∀ {kk : Nat} {last : Expr} {ml : Env → Hw → R (List W × (List W → List W → Hw → R W))}, PL X CX ct tr Wx kk last ml → isStar last = false →
    PAL X CX ct tr Wx kk vs last fun env h => (evL C es env h).bind fun ws h1 => (ml env h1).bind fun p h2 => .ok (ws, p.1, p.2) h2
  | [], X, Wx, B, D, G, vs, h, hp, kk, last, ml, hl, ns => by
    rw [mLs_nil] at h
    cases vs with
    | nil =>
      refine PAL.cg (pal_nil hl (star1 ns)) fun env hw => ?_
      simp only [evL]
      rfl
    | cons _ _ => cases h
  | e :: es, X, Wx, B, D, G, vs, h, hp, kk, last, ml, hl, ns => by
    cases vs with
    | nil => rw [mLs_cnil] at h; cases h
    | cons v vs =>
      rw [mLs_cons, Bool.and_eq_true] at h
      obtain ⟨c1, c2⟩ := pl_cons hp
      have hm := headM_plain c1 h.1
      refine PAL.cg (pal_cons (sE e G v hm).1 (sP es G vs h.2 c2 hl ns) (star1 c1)) fun env hw => ?_
      rw [evL_cons (mE_nostar hm)]
      cases evE C e env hw with
      | err => rfl
      | exc _ _ _ => rfl
      | ok x h1 =>
        simp only [R.bind]
        cases evL C es env h1 with
        | err => rfl
        | exc _ _ _ => rfl
        | ok ws h2 =>
          simp only []
          cases ml env h2 <;> rfl
termination_by es => sizeOf es
theorem sE1 : ∀ (its : List Ex) {X : Cx} {Wx : WX} {B D : Bool} (G : Good X CX ct tr Wx C T B D n) (e : Ex) (a : Expr), its = [e] → mE X.N T B D e X.env.scope a = true → PX X ct Wx C e a
  | [], _, _, _, _, _, e, _, q, _ => by cases q
  | e0 :: r, X, Wx, B, D, G, e, a, q, h => by
    have q1 : e0 = e := (List.cons.inj q).1
    rw [← q1] at h ⊢
    exact sE e0 G a h
termination_by its => sizeOf its
theorem sE2 : ∀ (its : List Ex) {X : Cx} {Wx : WX} {B D : Bool} (G : Good X CX ct tr Wx C T B D n) (e f : Ex) (a b : Expr), its = [e, f] → mE X.N T B D e X.env.scope a = true → mE X.N T B D f X.env.scope b = true → PX X ct Wx C e a ∧ PX X ct Wx C f b
  | [], _, _, _, _, _, e, f, _, _, q, _, _ => by cases q
  | e0 :: r, X, Wx, B, D, G, e, f, a, b, q, h, h2 => by
    have q1 : e0 = e := (List.cons.inj q).1
    have q2 : r = [f] := (List.cons.inj q).2
    rw [← q1] at h ⊢
    exact ⟨sE e0 G a h, sE1 r G f b q2 h2⟩
termination_by its => sizeOf its
theorem sL : ∀ (es : List Ex) {X : Cx} {Wx : WX} {B D : Bool} (G : Good X CX ct tr Wx C T B D n) (vs : List Expr), mLs X.N T B D es X.env.scope vs = true → PA X vs (tA X.K ct Wx (evL C es))
  | [], X, Wx, B, D, G, vs, h => by
    rw [mLs_nil] at h
    cases vs with
    | nil => exact w_nil
    | cons _ _ => cases h
  | e :: es, X, Wx, B, D, G, vs, h => by
    cases vs with
    | nil => rw [mLs_cnil] at h; cases h
    | cons v vs =>
      rw [mLs_cons, Bool.and_eq_true] at h
      have hr := sL es G vs h.2
      rcases headM_ok h.1 with ⟨a, x, p, e1, e2, hm⟩ | ⟨hm, hn⟩
      · subst e1 e2
        have p1 := (sE a G x hm).1
        exact w_star p1 hr
      · exact PA.cg (w_cons (sE e G v hm).1 hr (star1 (mE_star hm))) fun env hw => evL_cons hn es env hw
termination_by es => sizeOf es
theorem sB : ∀ (es : List Ex) {X : Cx} {Wx : WX} {B D : Bool} (G : Good X CX ct tr Wx C T B D n) (vs : List Expr) (pos : Pos), mLs X.N T B D es X.env.scope vs = true → plainL vs = true → vs.isEmpty = false →
    (PE X (.BoolOp .And vs pos) (tE X.K ct Wx (evE C (.and es))) ∧ PE X (.BoolOp .Or vs pos) (tE X.K ct Wx (evE C (.or es)))) ∧
      (toks es = true → PW X (.BoolOp .And vs pos) (tT X.K ct Wx (evT C (.and es))) ∧ PW X (.BoolOp .Or vs pos) (tT X.K ct Wx (evT C (.or es))))
  | [], X, Wx, B, D, G, vs, pos, h, _, hne => by
    rw [mLs_nil] at h
    rw [hne] at h
    cases h
  | e :: es, X, Wx, B, D, G, vs, pos, h, hp, hne => by
    cases vs with
    | nil => cases hne
    | cons v vs =>
      rw [mLs_cons, Bool.and_eq_true] at h
      obtain ⟨c1, c2⟩ := pl_cons hp
      have he := headM_plain c1 h.1
      obtain ⟨p1, p2⟩ := sE e G v he
      cases vs with
      | nil =>
        cases es with
        | cons _ _ => rw [mLs_cnil] at h; exact absurd h.2 (by simp)
        | nil =>
          refine ⟨⟨PE.cg (pe_one p1) fun env hw => ?_, PE.cg (pe_one p1) fun env hw => ?_⟩, fun t => ⟨PW.cg (pw_and1 (p2 ?_)) fun env hw => evT_and1 e env hw, PW.cg (pw_or1 (p2 ?_)) fun env hw => evT_or1 e env hw⟩⟩
          · simp only [evE, evAnd]
          · simp only [evE, evOr]
          · simp only [toks, Bool.and_true] at t; exact t
          · simp only [toks, Bool.and_true] at t; exact t
      | cons v2 vs =>
        cases es with
        | nil => rw [mLs_nil] at h; exact absurd h.2 (by simp)
        | cons e2 es =>
          obtain ⟨⟨q1, q2⟩, q3⟩ := sB (e2 :: es) G (v2 :: vs) pos h.2 c2 rfl
          refine ⟨⟨PE.cg (w_and p1 q1) fun env hw => ?_, PE.cg (w_or p1 q2) fun env hw => ?_⟩, fun t => ?_⟩
          · simp only [evE, evAnd]; rfl
          · simp only [evE, evOr]; rfl
          · have t2 : tok e = true ∧ toks (e2 :: es) = true := by
              simp only [toks, Bool.and_eq_true] at t ⊢
              exact t
            obtain ⟨r1, r2⟩ := q3 t2.2
            exact ⟨PW.cg (w_andT (p2 t2.1) r1) fun env hw => evT_and e e2 es env hw, PW.cg (w_orT (p2 t2.1) r2) fun env hw => evT_or e e2 es env hw⟩
termination_by es => sizeOf es
theorem sI : ∀ (ifs : List Ex) {X : Cx} {Wx : WX} {B D : Bool} (G : Good X CX ct tr Wx C T B D n) (fs : List Expr), toks ifs = true → plainL fs = true → fs.length ≤ 1 → mLs X.N T B D ifs X.env.scope fs = true → PTs X fs (tT X.K ct Wx (evIfs C ifs))
  | [], X, Wx, B, D, G, fs, _, _, _, h => by
    rw [mLs_nil] at h
    cases fs with
    | nil => exact PTs.mo pts_nil fun σ H Q ⟨env, ρ, h, er, l, q⟩ => rd.fine q l
    | cons _ _ => cases h
  | e :: es, X, Wx, B, D, G, fs, t, hp, hl, h => by
    cases fs with
    | nil => rw [mLs_cnil] at h; cases h
    | cons v vs =>
      cases vs with
      | cons _ _ => simp only [List.length_cons] at hl; omega
      | nil =>
        rw [mLs_cons, Bool.and_eq_true] at h
        obtain ⟨c1, c2⟩ := pl_cons hp
        cases es with
        | cons _ _ => rw [mLs_cnil] at h; exact absurd h.2 (by simp)
        | nil =>
          have p := (sE e G v (headM_plain c1 h.1)).2 (by simp only [toks, Bool.and_true] at t; exact t)
          exact pts_one (PT.cg p fun env hw => evIfs1 e env hw)
termination_by ifs => sizeOf ifs
theorem sD : ∀ (es : List Ex) {X : Cx} {Wx : WX} {B D : Bool} (G : Good X CX ct tr Wx C T B D n) (ks : List (Option Expr)) (vs : List Expr) (pos : Pos), mD X.N T B D es X.env.scope ks vs = true → PD X ct Wx pos ks vs (evD C es)
  | [], X, Wx, B, D, G, ks, vs, pos, h => by
    simp only [mD, Bool.and_eq_true] at h
    cases ks with
    | nil =>
      cases vs with
      | nil => exact d_nil
      | cons _ _ => exact absurd h.2 (by simp)
    | cons _ _ => exact absurd h.1 (by simp)
  | [_], X, Wx, B, D, G, ks, vs, pos, h => by
    simp only [mD] at h
    cases h
  | k :: v :: r, X, Wx, B, D, G, ks, vs, pos, h => by
    simp only [mD] at h
    split at h
    · simp only [Bool.and_eq_true] at h
      have h1 := (sE k G _ h.1.1).1
      have h2 := (sE v G _ h.1.2).1
      have h3 := sD r G _ _ pos h.2
      refine PD.cg (d_cons h1 h2 h3) fun env hw => ?_
      simp only [evD]
      rfl
    · cases h
termination_by es => sizeOf es
theorem sO : ∀ (o : Option Ex) {X : Cx} {Wx : WX} {B D : Bool} (G : Good X CX ct tr Wx C T B D n) (a : Option Expr), mO X.N T B D o X.env.scope a = true → PO X a (tOW X.K ct Wx (evO C o))
  | none, X, Wx, B, D, G, a, h => by
    simp only [mO] at h
    cases a with
    | none => exact w_none
    | some _ => cases h
  | some e, X, Wx, B, D, G, a, h => by
    simp only [mO] at h
    cases a with
    | none => cases h
    | some x => exact w_some (sE e G x h).1
termination_by o => sizeOf o
end
end
end TL
set_option maxHeartbeats 4000000
/-! What is compared keeps its promise: statements. -/
namespace TL
open PySem PySem.Spec PyProof.Rows L2
variable [TabI] [CloI]
def isTup : Expr → Bool
  | .Tuple _ _ _ => true
  | _ => false
theorem notup_sw {env : PySem.Env} {ts : List Expr} {k : Nat} {p : Pos} {v : Expr} (h : isTup v = false) : swappedStores [.Tuple ts k p] v env = pure none := by
  cases v <;> first | rfl | cases h
def bkS (sc : Scope) : ScopeKind := if sc.kind.isAnnotationScope then .function else sc.kind
def parM (N : List Str) (sc : Scope) (tgs : List Tg) (ts vs : List Expr) : Bool := match tgs, ts with
  | [.nm i, .nm j], [.Name x _, .Name y _] => decide (N[i]? = some x) && decide (N[j]? = some y) && !(Nat.beq i j) && decide (sc.names.lookup x = some .local) && decide (sc.names.lookup y = some .local) && Nat.beq vs.length 2 && plainL vs && decide (swS (bkS sc) (fun x => sc.names.lookup x) ts vs = some (some [x, y]))
  | [.nm i, .nm j, .nm k], [.Name x _, .Name y _, .Name z _] => decide (N[i]? = some x) && decide (N[j]? = some y) && decide (N[k]? = some z) && !(Nat.beq i j) && !(Nat.beq i k) && !(Nat.beq j k) && decide (sc.names.lookup x = some .local) && decide (sc.names.lookup y = some .local) && decide (sc.names.lookup z = some .local) && Nat.beq vs.length 3 && decide (swS (bkS sc) (fun x => sc.names.lookup x) ts vs = some (some [x, y, z]))
  | _, _ => false
/-- the class of a raise is a global name -/
def rsG (sc : Scope) (s : Stmt) : Bool := match s with
  | .Raise (some (.Call (.Name x _) [] [] _)) none _ => gl sc x
  | _ => true
/-- a constant -/
def constW (r : W) (e : Expr) : Bool := match r, e with
  | .non, .Constant .none _ _ => true
  | .bl b, .Constant (.bool c) _ _ => b == c
  | .int i, .Constant (.int j) _ _ => decide (i = j)
  | .str i, .Constant (.str j) _ _ => decide (i = j)
  | _, _ => false
theorem constW_ok {r : W} {e : Expr} (h : constW r e = true) : ∃ v, (∀ X : Cx, PE X e (tC v)) ∧ ∀ K ρ H, VR K ρ H r v := by
  unfold constW at h
  split at h
  · exact ⟨.non, fun X => pe_non, fun _ _ _ => VR.mk_non⟩
  · have h := eq_of_beq h
    subst h
    exact ⟨.bl _, fun X => pe_bl, fun _ _ _ => VR.mk_bl⟩
  · have h := of_decide_eq_true h
    subst h
    exact ⟨.int _, fun X => pe_int, fun _ _ _ => VR.mk_int⟩
  · have h := of_decide_eq_true h
    subst h
    exact ⟨.str _, fun X => pe_str, fun _ _ _ => VR.mk_str⟩
  · cases h
mutual
def mS (N T : List Str) (B D : Bool) (rsM : Nat → Stmt → Bool) (tyM : List Nat → Str → Bool) : St → Scope → Stmt → Bool
  | .set i e, sc, s => match s with
    | .Assign [.Name x px] v _ => decide (N[i]? = some x) && loc sc x && mE N T B D e sc v && (match v with
      | .ListComp _ _ scope cp => (match e with
        | .comp _ _ _ _ _ _ => (decide (sc.kind = .function) && decide (sc.names.lookup x = some .local) && (px.line == cp.line) && !(scope.names.any fun (n, k) => n == x && (k == .local || k == .cell))) || decide (sc.names.lookup x = some .cell)
        | _ => false)
      | v => !isComp v)
    | _ => false
  | .setT tg e, sc, s => match s with
    | .Assign [.Tuple ts k p] v _ => (match v with
      | .Tuple vs _ _ => (match e with
        | .tup es => mLs N T B D es sc vs && ((decide (swS (bkS sc) (fun x => sc.names.lookup x) ts vs = some none) && mG N (loc sc) tg (.Tuple ts k p)) || (match tg with
          | .tp tgs => parM N sc tgs ts vs
          | _ => false))
        | _ => false)
      | v => mE N T B D e sc v && mG N (loc sc) tg (.Tuple ts k p))
    | _ => false
  | .setI a i e, sc, s => match s with
    | .Assign [.Subscript x y _] v _ => mE N T B D a sc x && mE N T B D i sc y && mE N T B D e sc v && !isSlice y && !isComp v
    | _ => false
  | .aug o i e, sc, s => match s with
    | .AugAssign (.Name x _) p v _ => decide (N[i]? = some x) && loc sc x && isOp o p && mE N T B D e sc v
    | _ => false
  | .augI o a i e, sc, s => match s with
    | .AugAssign (.Subscript x y _) p v _ => isOp o p && mE N T B D a sc x && mE N T B D i sc y && mE N T B D e sc v && !isSlice y
    | _ => false
  | .setII a i b j e, sc, s => match s with
    | .Assign [.Tuple [.Subscript x y p1, .Subscript z u p2] k p3] (.Tuple vs _ _) _ => mE N T B D a sc x && mE N T B D i sc y && mE N T B D b sc z && mE N T B D j sc u && !isSlice y && !isSlice u && (match e with
      | .tup es => mLs N T B D es sc vs
      | _ => false) && decide (swS (bkS sc) (fun x => sc.names.lookup x) [.Subscript x y p1, .Subscript z u p2] vs = some none)
    | _ => false
  | .tryR e q cs r, sc, s => match s with
    | .Try [b] [.ExceptHandler (some (.Name x _)) none [.Return (some rv) _] _] [] [] _ => gl sc x && tyM cs x && constW r rv && (match b with
      | .Expr v _ => !q && mE N T B D e sc v && !isComp v
      | .Return (some v) _ => q && mE N T B D e sc v
      | _ => false)
    | _ => false
  | .ex e, sc, s => match s with
    | .Expr v _ => mE N T B D e sc v && !isComp v
    | _ => false
  | .ite c a b, sc, s => match s with
    | .If t x y _ => tok c && mE N T B D c sc t && mB N T B D rsM tyM a sc x && mB N T B D rsM tyM b sc y
    | _ => false
  | .loop tg k its body, sc, s => match s with
    | .For t it b [] _ => (match iterArgs sc k t it with
      | some args => mLs N T B D its sc args
      | none => false) && !isSet it && mG N (loc sc) tg t && mB N T B D rsM tyM body sc b
    | _ => false
  | .whl c body, sc, s => match s with
    | .While t b [] _ => tok c && mE N T B D c sc t && mB N T B D rsM tyM body sc b
    | _ => false
  | .ret e, sc, s => match s with
    | .Return (some v) _ => mE N T B D e sc v
    | _ => false
  | .retN, sc, s => match s with
    | .Return none _ => true
    | _ => false
  | .rse c es, sc, s => es.isEmpty && (rsG sc s && rsM c s)
  | .cont, sc, s => match s with
    | .Continue _ => true
    | _ => false
  | .brk, sc, s => match s with
    | .Break _ => true
    | _ => false
  | .pass, sc, s => match s with
    | .Pass _ => true
    | _ => false
def mB (N T : List Str) (B D : Bool) (rsM : Nat → Stmt → Bool) (tyM : List Nat → Str → Bool) : List St → Scope → List Stmt → Bool
  | [], _, ss => ss.isEmpty
  | t :: ts, sc, ss => match ss with
    | s :: ss => mS N T B D rsM tyM t sc s && mB N T B D rsM tyM ts sc ss
    | [] => false
end
structure GoodS (X : Cx) (CX : CXT) (ct : Nat → Option Value) (tr : XK → XK) (Wx : XK) (C : CT) (T : List Str) (B D : Bool) (n : Nat) (rsM : Nat → Stmt → Bool) (tyM : List Nat → Str → Bool) : Prop extends Good X CX ct tr (wx Wx) C T B D n where
  ty : ∀ cs x, tyM cs x = true → X.stack = X.env :: X.outer ∧ X.env.frame = some X.env.locals ∧ Takes X (wx Wx) ∧ CX = L2.CX X.prog X.w ∧ (∀ E, tr E = E) ∧ ∃ CS, X.mg x = some (.ref CS) ∧ ∀ c cls, ct c = some cls → PySem.W.exmOne X.K cls (.ref CS) = some (cs.any (Nat.beq c))
  fnT : ∀ x, X.fn x = true
  po : PassesOwn (model X.prog X.w) X.A X.env X.xe
  rs : ∀ c s, rsG X.env.scope s = true → rsM c s = true → PS X s (tS X.K ct Wx fun _ h => .exc c [] h)
section
variable {CX : CXT} {ct : Nat → Option Value} {tr : XK → XK} {C : CT} {T : List Str} {B D : Bool} {n : Nat} {rsM : Nat → Stmt → Bool} {tyM : List Nat → Str → Bool} {X : Cx} {Wx : XK}
theorem PS.cg {a : Stmt} {m m' : Env → Hw → R (Env × Fl)} (p : PS X a (tS X.K ct Wx m)) (e : ∀ env h, m' env h = m env h) : PS X a (tS X.K ct Wx m') := by
  have : m' = m := by funext env h; exact e env h
  rw [this]; exact p
theorem PSs.cg {a : List Stmt} {m m' : Env → Hw → R (Env × Fl)} (p : PSs X a (tS X.K ct Wx m)) (e : ∀ env h, m' env h = m env h) : PSs X a (tS X.K ct Wx m') := by
  have : m' = m := by funext env h; exact e env h
  rw [this]; exact p
theorem sw_cell {e : Expr} {y : Str} {py : Pos} {l : Nat} (h : X.env.scope.names.lookup y = some .cell) : swapsWith e (some (.Name y py)) l X.env = pure false := by
  have hk : X.env.kindOf y = some .cell := h
  unfold swapsWith
  have z : ∀ (a c d : Bool), (a && (some NameKind.cell == some NameKind.local) && c && d) = false := fun a c d => by cases a <;> rfl
  cases e <;> first
    | rfl
    | (simp only [hk, z]; done)
    | (simp only [hk, z]; rfl)
theorem sw_tup {e : Expr} {ts : List Expr} {k : Nat} {p : Pos} {l : Nat} {env : PySem.Env} : swapsWithSole [.Tuple ts k p] e l env = pure false := by
  cases e <;> rfl
theorem lc_loc {x : Str} (G : GoodS X CX ct tr Wx C T B D n rsM tyM) (h : loc X.env.scope x = true) : Loc X.env.scope x ∧ (X.fn x = true ∨ X.env.scope.names.lookup x = some .local) := ⟨loc_ok h, .inl (G.fnT x)⟩
/-- name = [..] -/
theorem set_lc (G : GoodS X CX ct tr Wx C T B D n rsM tyM) {i : Nat} {y : Str} {py spos cp : Pos} {scope : Scope} {gens : List Comprehension} {x : Expr} {elt : Ex} {tg : Tg} {k : ItK} {its ifs : List Ex} {own : List Nat} (hi : X.N[i]? = some y) (hy : X.env.scope.names.lookup y = some .local) (hk : X.env.scope.kind = .function)
    (hl : (py.line == cp.line) = true) (hn : (scope.names.any fun (n, k) => n == y && (k == .local || k == .cell)) = false) (h : mE X.N T B D (.comp elt tg k its ifs own) X.env.scope (.ListComp x gens scope cp) = true) :
    PS X (.Assign [.Name y py] (.ListComp x gens scope cp) spos) (tS X.K ct Wx fun env h => (evE C (.comp elt tg k its ifs own) env h).bind fun w h1 => .ok (env.set i (some w), .nx) h1) := by
  simp only [mE] at h
  split at h
  · rename_i x1 t1 it1 fs1 scope1 pos1 hq
    cases hq
    simp only [Bool.and_eq_true, Bool.not_eq_true'] at h
    obtain ⟨⟨⟨⟨⟨⟨⟨⟨⟨⟨h1, h2⟩, h3⟩, h4⟩, h5⟩, h6⟩, h7⟩, h8⟩, h9⟩, h10⟩, h11⟩ := h
    split at h1
    · rename_i args ei
      have ha := sL its G.toGood args h1
      have hi2 := it_ok G.toGood ei h1 ha fun e a e1 e2 he => (sE1 its G.toGood e a e1 he).1
      have h4 := of_decide_eq_true h4
      have go := s_setLc (pos := cp) (spos := spos) (own := ownP X.N own) G.hc G.nd hi hy (sw_true hk hy hl hn) hi2 (blkOk_by h3) (own_ok h4 h5) (fun s H Ca cl fp => g_ok (X := X.blk s H scope (compEnvC scope cl Ca X.env) fp) G.nd G.hc stB_ok tg t1 h6)
        (fun s H Ca cl fp => sI ifs (G.toGood.blk s H scope (compEnvC scope cl Ca X.env) fp) fs1 h8 h9 (Nat.le_of_ble_eq_true h10) h11)
        (fun s H Ca cl fp => (sE elt (G.toGood.blk s H scope (compEnvC scope cl Ca X.env) fp) x h7).1) (noset_fold h2)
      refine PS.cg go fun env hw => ?_
      congr 1
      simp only [evE]
      rw [h4]
      congr 1
      funext ws hw1
      unfold compK
      cases iterOf k ws hw1 with
      | none => rfl
      | some p => rfl
    · cases h1
  · cases h
theorem par_ok (G : GoodS X CX ct tr Wx C T B D n rsM tyM) {tgs : List Tg} {ts vs : List Expr} {es : List Ex} {k k2 : Nat} {p p2 pos : Pos} (h : parM X.N X.env.scope tgs ts vs = true) (hm : mLs X.N T B D es X.env.scope vs = true) :
    PS X (.Assign [.Tuple ts k p] (.Tuple vs k2 p2) pos) (tS X.K ct Wx fun env h => (evE C (.tup es) env h).bind fun w h1 => asgK (.tp tgs) env w h1) := by
  unfold parM at h
  split at h
  · rename_i i j x px y py
    simp only [Bool.and_eq_true, Bool.not_eq_true'] at h
    obtain ⟨⟨⟨⟨⟨⟨⟨h1, h2⟩, h3⟩, h4⟩, h5⟩, h6⟩, h7⟩, h8⟩ := h
    have hl := Nat.eq_of_beq_eq_true h6
    match vs, hl, h7, h8, hm with
    | [a, b], hl, h7, h8, hm =>
      have ij : i ≠ j := fun e => by
        subst e
        rw [Nat.beq_refl] at h3
        cases h3
      exact s_par G.hc G.nd (of_decide_eq_true h1) (of_decide_eq_true h2) ij (of_decide_eq_true h4) (of_decide_eq_true h5) (sL es G.toGood _ hm) (swS_ok (show swS X.env.blockKind X.env.kindOf _ _ = _ from of_decide_eq_true h8)) rfl
  · rename_i i j k x px y py z pz
    simp only [Bool.and_eq_true, Bool.not_eq_true'] at h
    obtain ⟨⟨⟨⟨⟨⟨⟨⟨⟨⟨h1, h2⟩, h3⟩, h4⟩, h5⟩, h6⟩, h7⟩, h8⟩, h9⟩, h10⟩, h11⟩ := h
    have hl := Nat.eq_of_beq_eq_true h10
    have nb : ∀ {a b : Nat}, Nat.beq a b = false → a ≠ b := fun {a b} e z => by
      subst z
      rw [Nat.beq_refl] at e
      cases e
    match vs, hl, h11, hm with
    | [a, b, c], hl, h11, hm => exact s_par3 G.hc G.nd (of_decide_eq_true h1) (of_decide_eq_true h2) (of_decide_eq_true h3) (nb h4) (nb h5) (nb h6) (of_decide_eq_true h7) (of_decide_eq_true h8) (of_decide_eq_true h9) (sL es G.toGood _ hm) (swS_ok (show swS X.env.blockKind X.env.kindOf _ _ = _ from of_decide_eq_true h11)) rfl
  · cases h
/-- in a try's body -/
theorem GoodS.inTry (G : GoodS X CX ct tr Wx C T B D n rsM tyM) (W : WX) (pn : List (Addr × Obj)) (xe : Value → Shared → Prop) (tk : Takes (X.tr pn xe) W) {cs : List Nat} {x : Str} (h : tyM cs x = true) : Good (X.tr pn xe) CX ct tr W C T B D n := by
  obtain ⟨_, _, _, e1, e2, _⟩ := G.ty cs x h
  refine ⟨G.nd, G.hc, G.hg, G.rm, G.bi, fun σ => ?_, G.fns, G.cl, G.lm, G.hp, fun σ => e2 _, G.tt, G.t0, G.nx⟩
  rw [e1]
  exact passAt tk σ
def tryK (me : Env → Hw → R W) (q : Bool) (cs : List Nat) (r : W) (env : Env) (h : Hw) : R (Env × Fl) := match me env h with
  | .ok w h1 => .ok (env, bif q then .rt w else .nx) h1
  | .exc c d h1 => bif cs.any (Nat.beq c) then .ok (env, .rt r) h1 else .exc c d h1
  | .err => .err
theorem s_try (G : GoodS X CX ct tr Wx C T B D n rsM tyM) {x : Str} {cs : List Nat} {r : W} {rv : Expr} {b : Stmt} {np rp pos' pos : Pos} {me : Env → Hw → R W} {q : Bool} (h1 : gl X.env.scope x = true) (h2 : tyM cs x = true) (h3 : constW r rv = true)
    (hb : ∀ (W : WX) (pn : List (Addr × Obj)) (xe : Value → Shared → Prop), Takes (X.tr pn xe) W → PSs (X.tr pn xe) [b] fun D σ H => tS X.K ct (fun c d H => W c d σ H) (fun env h => (me env h).bind fun w h1 => .ok (env, bif q then .rt w else .nx) h1) D σ H) :
    PS X (.Try [b] [.ExceptHandler (some (.Name x np)) none [.Return (some rv) rp] pos'] [] [] pos) (tS X.K ct Wx (tryK me q cs r)) := by
  obtain ⟨hs, hf, tk, _, _, CS, hm, hx⟩ := G.ty cs x h2
  obtain ⟨g1, g2⟩ := gl_ok h1
  obtain ⟨v, pv, qv⟩ := constW_ok h3
  refine PS.mo (ps_try_only (c := .ref CS) (tb := fun W D σ H => tS X.K ct (fun c d H => W c d σ H) (fun env h => (me env h).bind fun w h1 => .ok (env, bif q then .rt w else .nx) h1) D σ H) (ts := fun _ _ _ D _ H => D.rt v H) hs hf ⟨g1, g2, .inl hm⟩ tk (fun W pn xe tk2 _ => hb W pn xe tk2) fun a oe cls d pn _ _ => pss_one (PS.mo (ps_ret (pv _)) fun D σ H z => z)) fun D σ H ⟨env, ρ, h, er, l, qq⟩ => ⟨env, ρ, h, er, l, ?_⟩
  unfold tryK at qq
  cases e : me env h with
  | err => rw [e] at qq; exact absurd qq rderr
  | ok w h1 =>
    rw [e] at qq
    show rd X.K ct _ ρ H ((me env h).bind _) (DP X.K D)
    rw [e]
    exact qq
  | exc cn ds h1 =>
    rw [e] at qq
    show rd X.K ct _ ρ H ((me env h).bind _) (DP X.K D)
    rw [e]
    intro ρ' H' cls dd st l' xr
    refine ⟨_, hx cn cls xr.2.1, fun hb a _ => ?_, fun hb => ?_⟩
    · have qq : rd X.K ct Wx ρ H (bif cs.any (Nat.beq cn) then .ok (env, .rt r) h1 else .exc cn ds h1) (DP X.K D) := qq
      rw [hb] at qq
      exact qq ρ' H' st l' σ (er.mv l st) v (qv _ _ _)
    · have qq : rd X.K ct Wx ρ H (bif cs.any (Nat.beq cn) then .ok (env, .rt r) h1 else .exc cn ds h1) (DP X.K D) := qq
      rw [hb] at qq
      exact qq ρ' H' cls dd st l' xr
mutual
theorem sS (wf : Nat) (G : GoodS X CX ct tr Wx C T B D n rsM tyM) : ∀ (t : St) (s : Stmt), mS X.N T B D rsM tyM t X.env.scope s = true → PS X s (tS X.K ct Wx (exS C wf t))
  | .set i e, s, h => by
    simp only [mS] at h
    split at h
    · rename_i x px v pos
      simp only [Bool.and_eq_true] at h
      obtain ⟨⟨⟨h1, h2⟩, h3⟩, h4⟩ := h
      have hi := of_decide_eq_true h1
      obtain ⟨l1, l2⟩ := lc_loc G h2
      split at h4
      · split at h4
        · rw [Bool.or_eq_true] at h4
          rcases h4 with h4 | h4
          · simp only [Bool.and_eq_true, Bool.not_eq_true'] at h4
            obtain ⟨⟨⟨k1, k2⟩, k3⟩, k4⟩ := h4
            exact PS.cg (set_lc G hi (of_decide_eq_true k2) (of_decide_eq_true k1) k3 k4 h3) fun env hw => by simp only [exS]
          · exact PS.cg (s_set G.nd hi l1 (sE _ G.toGood _ h3).1 (sw_cell (of_decide_eq_true h4)) l2) fun env hw => by simp only [exS]
        · cases h4
      · have h4 := (by simpa using h4 : isComp v = false)
        exact PS.cg (s_set G.nd hi l1 (sE e G.toGood v h3).1 (nocomp_swap h4) l2) fun env hw => by simp only [exS]
    · cases h
  | .setT tg e, s, h => by
    simp only [mS] at h
    split at h
    · rename_i ts k p v pos
      split at h
      · rename_i vs k2 p2
        split at h
        · rename_i es
          rw [Bool.and_eq_true, Bool.or_eq_true] at h
          obtain ⟨h1, h2⟩ := h
          rcases h2 with h2 | h2
          · rw [Bool.and_eq_true] at h2
            have hg := g_ok G.nd G.hc (fun x hx => lc_loc G hx) tg _ h2.2
            have pe : PE X (.Tuple vs k2 p2) (tE X.K ct (wx Wx) (evE C (.tup es))) := PE.cg (w_tup (sL es G.toGood vs h1)) fun env hw => by simp only [evE]
            exact PS.cg (s_setT pe hg rfl (swS_ok (show swS X.env.blockKind X.env.kindOf _ _ = _ from of_decide_eq_true h2.1)) rfl) fun env hw => by simp only [exS]; rfl
          · split at h2
            · exact PS.cg (par_ok G h2 h1) fun env hw => by simp only [exS]; rfl
            · cases h2
        · cases h
      · rename_i hne
        simp only [Bool.and_eq_true] at h
        have nt : isTup v = false := by
          cases v with
          | Tuple a b c => exact absurd rfl (hne a b c)
          | _ => rfl
        have hg := g_ok G.nd G.hc (fun x hx => lc_loc G hx) tg _ h.2
        exact PS.cg (s_setT (sE e G.toGood v h.1).1 hg sw_tup (notup_sw nt) rfl) fun env hw => by simp only [exS]; rfl
    · cases h
  | .setI a i e, s, h => by
    simp only [mS] at h
    split at h
    · simp only [Bool.and_eq_true, Bool.not_eq_true'] at h
      obtain ⟨⟨⟨⟨h1, h2⟩, h3⟩, h4⟩, h5⟩ := h
      exact PS.cg (s_setI G.hu (sE a G.toGood _ h1).1 (sE i G.toGood _ h2).1 (sE e G.toGood _ h3).1 (noslice_asg h4) (nocomp_sole h5) rfl rfl) fun env hw => by simp only [exS]; rfl
    · cases h
  | .aug o i e, s, h => by
    simp only [mS] at h
    split at h
    · simp only [Bool.and_eq_true] at h
      obtain ⟨⟨⟨h1, h2⟩, h3⟩, h4⟩ := h
      have e1 := isOp_ok h3
      subst e1
      obtain ⟨l1, l2⟩ := lc_loc G h2
      exact PS.cg (s_aug o G.nd (of_decide_eq_true h1) l1 (sE e G.toGood _ h4).1 l2) fun env hw => by simp only [exS]; rfl
    · cases h
  | .augI o a i e, s, h => by
    simp only [mS] at h
    split at h
    · simp only [Bool.and_eq_true, Bool.not_eq_true'] at h
      obtain ⟨⟨⟨⟨h1, h2⟩, h3⟩, h4⟩, h5⟩ := h
      have e1 := isOp_ok h1
      subst e1
      exact PS.cg (s_augI o G.hu (sE a G.toGood _ h2).1 (sE i G.toGood _ h3).1 (sE e G.toGood _ h4).1 (noslice_aug h5)) fun env hw => by simp only [exS]; rfl
    · cases h
  | .ex e, s, h => by
    simp only [mS] at h
    split at h
    · simp only [Bool.and_eq_true, Bool.not_eq_true'] at h
      exact PS.cg (s_ex (sE e G.toGood _ h.1).1 (nocomp_swap h.2)) fun env hw => by simp only [exS]
    · cases h
  | .ite c a b, s, h => by
    simp only [mS] at h
    split at h
    · simp only [Bool.and_eq_true] at h
      exact PS.cg (s_if ((sE c G.toGood _ h.1.1.2).2 h.1.1.1) (sSs wf G a _ h.1.2) (sSs wf G b _ h.2)) fun env hw => by simp only [exS]
    · cases h
  | .loop tg k its body, s, h => by
    simp only [mS] at h
    split at h
    · simp only [Bool.and_eq_true, Bool.not_eq_true'] at h
      obtain ⟨⟨⟨h1, h2⟩, h3⟩, h4⟩ := h
      split at h1
      · rename_i args ei
        have ha := sL its G.toGood args h1
        have hi2 := it_ok G.toGood ei h1 ha fun e a e1 e2 he => (sE1 its G.toGood e a e1 he).1
        have hg := g_ok G.nd G.hc (fun x hx => lc_loc G hx) tg _ h3
        refine PS.cg (s_for G.po G.hc hi2 hg (sSs wf G body _ h4) (noset_fold h2)) fun env hw => ?_
        simp only [exS]
        congr 1
        funext ws hw1
        unfold loopK
        cases iterOf k ws hw1 with
        | none => rfl
        | some p => rfl
      · cases h1
    · cases h
  | .whl c body, s, h => by
    simp only [mS] at h
    split at h
    · simp only [Bool.and_eq_true] at h
      exact PS.cg (s_whl wf G.po ((sE c G.toGood _ h.1.2).2 h.1.1) (sSs wf G body _ h.2)) fun env hw => by simp only [exS]
    · cases h
  | .setII a i b j e, s, h => by
    simp only [mS] at h
    split at h
    · rename_i x y p1 z u p2 k p3 vs k2 p4 pos
      simp only [Bool.and_eq_true, Bool.not_eq_true'] at h
      obtain ⟨⟨⟨⟨⟨⟨⟨h1, h2⟩, h3⟩, h4⟩, h5⟩, h6⟩, h7⟩, h8⟩ := h
      split at h7
      · rename_i es
        have ns : ∀ {e : Expr}, isSlice e = false → isSliceN e = false := fun {e} h => by cases e <;> first | rfl | cases h
        have pe : PE X (.Tuple vs k2 p4) (tE X.K ct (wx Wx) (evE C (.tup es))) := PE.cg (w_tup (sL es G.toGood vs h7)) fun env hw => by simp only [evE]
        refine PS.cg (s_setII (p1 := p1) (p2 := p2) (p3 := p3) (k := k) (pos := pos) G.hc G.hu (sE a G.toGood _ h1).1 (sE i G.toGood _ h2).1 (sE b G.toGood _ h3).1 (sE j G.toGood _ h4).1 pe (ns h5) (ns h6) sw_tup (swS_ok (show swS X.env.blockKind X.env.kindOf _ _ = _ from of_decide_eq_true h8))) fun env hw => ?_
        simp only [exS]
        rfl
      · cases h7
    · cases h
  | .tryR e q cs r, s, h => by
    simp only [mS] at h
    split at h
    · rename_i b x np rv rp pos' pos
      simp only [Bool.and_eq_true] at h
      obtain ⟨⟨⟨h1, h2⟩, h3⟩, h4⟩ := h
      split at h4
      · rename_i v vp
        simp only [Bool.and_eq_true, Bool.not_eq_true'] at h4
        obtain ⟨⟨h5, h6⟩, h7⟩ := h4
        subst h5
        exact PS.cg (s_try (q := false) G h1 h2 h3 fun W pn xe tk => pss_one (PS.mo (ps_expr (sE e (G.inTry W pn xe tk h2) v h6).1 (nocomp_swap h7)) fun D σ H ⟨env, ρ, h, er, l, q⟩ => stepE (Wx := W) er l q fun w ρ1 h1 H1 s1 l1 er1 q1 v qv => rd.fine q1 l1 σ er1)) fun env hw => by simp only [exS]; rfl
      · rename_i v vp
        simp only [Bool.and_eq_true] at h4
        obtain ⟨h5, h6⟩ := h4
        subst h5
        exact PS.cg (s_try (q := true) G h1 h2 h3 fun W pn xe tk => pss_one (PS.mo (ps_ret (sE e (G.inTry W pn xe tk h2) v h6).1) fun D σ H ⟨env, ρ, h, er, l, q⟩ => stepE (Wx := W) er l q fun w ρ1 h1 H1 s1 l1 er1 q1 v qv => rd.fine q1 l1 σ er1 v qv)) fun env hw => by simp only [exS]; rfl
      · cases h4
    · cases h
  | .ret e, s, h => by
    simp only [mS] at h
    split at h
    · exact PS.cg (s_ret (sE e G.toGood _ h).1) fun env hw => by simp only [exS]
    · cases h
  | .retN, s, h => by
    simp only [mS] at h
    split at h
    · exact PS.cg s_retN fun env hw => by simp only [exS]
    · cases h
  | .rse c es, s, h => by
    simp only [mS, Bool.and_eq_true] at h
    cases es with
    | nil => exact PS.cg (G.rs c s h.2.1 h.2.2) fun env hw => by simp only [exS, evL]; rfl
    | cons _ _ => exact absurd h.1 (by simp)
  | .cont, s, h => by
    simp only [mS] at h
    split at h
    · exact PS.cg s_cont fun env hw => by simp only [exS]
    · cases h
  | .brk, s, h => by
    simp only [mS] at h
    split at h
    · exact PS.cg s_brk fun env hw => by simp only [exS]
    · cases h
  | .pass, s, h => by
    simp only [mS] at h
    split at h
    · exact PS.cg s_pass fun env hw => by simp only [exS]
    · cases h
termination_by t => sizeOf t
theorem sSs (wf : Nat) (G : GoodS X CX ct tr Wx C T B D n rsM tyM) : ∀ (ts : List St) (ss : List Stmt), mB X.N T B D rsM tyM ts X.env.scope ss = true → PSs X ss (tS X.K ct Wx (exL C wf ts))
  | [], ss, h => by
    simp only [mB] at h
    cases ss with
    | nil => exact PSs.cg s_nil fun env hw => by simp only [exL]
    | cons _ _ => cases h
  | t :: ts, ss, h => by
    cases ss with
    | nil => simp only [mB] at h; cases h
    | cons s ss =>
      simp only [mB, Bool.and_eq_true] at h
      refine PSs.cg (s_cons (sS wf G t s h.1) (sSs wf G ts ss h.2)) fun env hw => ?_
      simp only [exL]
      first
        | done
        | rfl
termination_by ts => sizeOf ts
end
end
end TL
/-! All defs of a text, level by level; the law's own call. -/
namespace TL
open PySem PySem.Spec PyProof.Rows L2
variable [TabI] [CloI]
/-! ### the tables of the defs that make lambdas -/
/-- the code object of a def, and its table -/
def codeOf (K : PySem.W.Frag) (nm : Str) : Option (Addr × Addr) := match PySem.W.nsIn K mainGlobals nm with
  | some (some (.ref fa)) => (match K.lookup fa with
    | some ⟨_, _, .func fd, _⟩ => (match fd.code with
      | .ref c => (match K.lookup c with
        | some ⟨_, _, .fields vs, _⟩ => (match (vs[11]? : Option Value) with
          | some (.ref P) => some (c, P)
          | _ => none)
        | _ => none)
      | _ => none)
    | _ => none)
  | _ => none
def lamQ (nm : Str) : Str := nm ++ ".<locals>." ++ "<lambda>"
def tabT (K : PySem.W.Frag) (mk : List Str) : List (Addr × Str) := mk.filterMap fun nm => (codeOf K nm).map fun p => (p.2, lamQ nm)
def noDup : List Addr → Bool
  | [] => true
  | a :: r => !(r.contains a) && noDup r
def tabsOk (K : PySem.W.Frag) (mk : List Str) (ts : List Addr) : Bool := (mk.all fun nm => match codeOf K nm with
  | some (c, P) => PySem.W.codeHdIn K c P && (K.lookup P).isNone && ts.contains P
  | none => false) && noDup ((tabT K mk).map (·.1))
omit [TabI] [CloI] in
theorem noDup_ok : ∀ {l : List Addr}, noDup l = true → l.Nodup
  | [], _ => List.nodup_nil
  | a :: r, h => by
    unfold noDup at h
    simp only [Bool.and_eq_true, Bool.not_eq_true', List.contains_eq_mem, decide_eq_false_iff_not] at h
    exact List.nodup_cons.mpr ⟨h.1, noDup_ok h.2⟩
omit [TabI] [CloI] in
theorem tabT_mem {K : PySem.W.Frag} {mk : List Str} {nm : Str} {c P : Addr} (h : nm ∈ mk) (e : codeOf K nm = some (c, P)) : (P, lamQ nm) ∈ tabT K mk := List.mem_filterMap.mpr ⟨nm, h, by rw [e]; rfl⟩
omit [TabI] [CloI] in
theorem nodup_fst {l : List (Addr × Str)} (h : (l.map (·.1)).Nodup) {P : Addr} {q r : Str} (h1 : (P, q) ∈ l) (h2 : (P, r) ∈ l) : r = q := by
  induction l with
  | nil => cases h1
  | cons x l ih =>
    rw [List.map_cons, List.nodup_cons] at h
    rcases List.mem_cons.mp h1 with e1 | e1
    · rcases List.mem_cons.mp h2 with e2 | e2
      · rw [← e1] at e2
        cases e2
        rfl
      · exact absurd (List.mem_map.mpr ⟨_, e2, by rw [← e1]⟩) h.1
    · rcases List.mem_cons.mp h2 with e2 | e2
      · exact absurd (List.mem_map.mpr ⟨_, e1, by rw [← e2]⟩) h.1
      · exact ih h.2 e1 e2
/-- a def's body beside its code -/
def bodyM (N T : List Str) (B D : Bool) (rsM : Nat → Stmt → Bool) (tyM : List Nat → Str → Bool) (fn : Fn) (sc : Scope) (ss : List Stmt) : Bool := match fn.lam with
  | none => mB N T B D rsM tyM fn.body sc ss
  | some (np, caps, be) => !B && D && mB N T B D rsM tyM fn.body sc ss.dropLast && (match ss.getLast? with
    | some (.Return (some (.Lambda lp lb lsc _)) _) => (match lamN N caps np sc lp lsc with
      | some N2 => mE N2 T false false be lsc lb
      | none => false)
    | _ => false)
/-- a def of the text and its code -/
structure FIs (K : PySem.W.Frag) (mg : Str → Option Value) (tb : List Fn) (T : List Str) (rsM : Nat → Stmt → Bool) (tyM : List Nat → Str → Bool) (mk : List Str) (i : Nat) (nm : Str) (fn : Fn) (N ps : List Str) (st : Stmt) (D : Bool) (fa : Addr) (od an : Option Addr) (osl : Array (Option Value)) (oc kV doc pm cdv cr : Value) : Prop where
  ht : tb[i]? = some fn
  hns : fn.ns = N.length
  hnp : fn.np = ps.length
  lk : K.lookup fa = some ⟨oc, od, .func (PySem.W.fnOf nm nm (defArgs st) (defBody st) (defScope st) .none kV doc pm an cdv cr), osl⟩
  cd : PySem.W.codeIn K cdv nm = true
  kp : PySem.W.keepIn K (.ref fa) = true
  sc : FnScope N ps (defScope st)
  mg : mg nm = some (.ref fa)
  bi : Binds K (PySem.W.fnOf nm nm (defArgs st) (defBody st) (defScope st) .none kV doc pm an cdv cr) ps []
  bm : bodyM N T fn.clo D rsM tyM fn (defScope st) (defBody st) = true
  ld : D = true → nm ∈ mk ∧ PySem.W.nsIn K mainGlobals nm = some (some (.ref fa))
def FI (K : PySem.W.Frag) (mg : Str → Option Value) (tb : List Fn) (T : List Str) (rsM : Nat → Stmt → Bool) (tyM : List Nat → Str → Bool) (mk : List Str) (i : Nat) (nm : Str) : Prop :=
  ∃ fn N ps st D fa od an osl oc kV doc pm cdv cr, FIs K mg tb T rsM tyM mk i nm fn N ps st D fa od an osl oc kV doc pm cdv cr
def AllFI (K : PySem.W.Frag) (mg : Str → Option Value) (tb : List Fn) (T : List Str) (rsM : Nat → Stmt → Bool) (tyM : List Nat → Str → Bool) (mk : List Str) : Nat → List Str → Prop
  | _, [] => True
  | i, nm :: r => FI K mg tb T rsM tyM mk i nm ∧ AllFI K mg tb T rsM tyM mk (i + 1) r
section
variable {K : PySem.W.Frag} {mg : Str → Option Value} {tb : List Fn} {T : List Str} {rsM : Nat → Stmt → Bool} {tyM : List Nat → Str → Bool} {mk : List Str}
omit [TabI] [CloI] in
theorem AllFI.cons {i : Nat} {nm : Str} {L : List Str} (h : FI K mg tb T rsM tyM mk i nm) (r : AllFI K mg tb T rsM tyM mk (i + 1) L) : AllFI K mg tb T rsM tyM mk i (nm :: L) := ⟨h, r⟩
omit [TabI] [CloI] in
theorem AllFI.at : ∀ {L : List Str} {i : Nat}, AllFI K mg tb T rsM tyM mk i L → ∀ j nm, L[j]? = some nm → FI K mg tb T rsM tyM mk (i + j) nm
  | [], _, _, j, nm, e => by simp at e
  | x :: r, i, h, 0, nm, e => by simp at e; subst e; exact h.1
  | x :: r, i, h, j + 1, nm, e => by
    have := AllFI.at h.2 j nm (by simpa using e)
    rw [show i + (j + 1) = i + 1 + j by omega]
    exact this
omit [TabI] [CloI] in
theorem fi_mk {h : Heap} (KX : K.In h) (G : h.Ns mainGlobals mg) {i : Nat} {nm : Str} {st : Stmt} {N ps : List Str} {fn : Fn} {D : Bool} {fa : Addr} {od an : Option Addr} {sl : Array (Option Value)} {oc kV dc pm cd cr : Value}
    (ht : tb[i]? = some fn) (h1 : fn.ns = N.length) (h2 : fn.np = ps.length) (S : FnScope N ps (defScope st)) (m : bodyM N T fn.clo D rsM tyM fn (defScope st) (defBody st) = true) (hD : D = true → nm ∈ mk)
    (hb : ∀ (kV doc pm : Value) (an : Option Addr) (cdv ct : Value) (us : List Value), us.length = ps.length → bindArgs (PySem.W.fnOf nm nm (defArgs st) (defBody st) (defScope st) .none kV doc pm an cdv ct) ⟨us, []⟩ = pure (ps.zip us))
    (a : PySem.W.nsIn K mainGlobals nm = some (some (.ref fa))) (l : K.lookup fa = some ⟨oc, od, .func (PySem.W.fnOf nm nm (defArgs st) (defBody st) (defScope st) .none kV dc pm an cd cr), sl⟩) (c : PySem.W.codeIn K cd nm = true) (k : PySem.W.keepIn K (.ref fa) = true) :
    FI K mg tb T rsM tyM mk i nm :=
  ⟨fn, N, ps, st, D, fa, od, an, sl, oc, kV, dc, pm, cd, cr, ⟨ht, h1, h2, l, c, k, S, PySem.W.mg_of KX G a, Binds.all fun us hl => hb kV dc pm an cd cr us hl, m, fun d => ⟨hD d, a⟩⟩⟩
omit [TabI] [CloI] in
/-- the code object of a def as its function tells it -/
theorem codeOf_cd {nm : Str} {fa : Addr} {oc kV doc pm cdv cr : Value} {od an : Option Addr} {osl : Array (Option Value)} {st : Stmt} {c P : Addr} (a : PySem.W.nsIn K mainGlobals nm = some (some (.ref fa)))
    (l : K.lookup fa = some ⟨oc, od, .func (PySem.W.fnOf nm nm (defArgs st) (defBody st) (defScope st) .none kV doc pm an cdv cr), osl⟩) (e : codeOf K nm = some (c, P)) : cdv = .ref c := by
  unfold codeOf at e
  rw [a] at e
  simp only [l] at e
  cases cdv with
  | ref c2 =>
    have e : (match K.lookup c2 with
        | some ⟨_, _, .fields vs, _⟩ => (match (vs[11]? : Option Value) with
          | some (.ref P) => some (c2, P)
          | _ => none)
        | _ => none) = some (c, P) := e
    split at e
    · split at e
      · cases e; rfl
      · cases e
    · cases e
  | _ => cases e
omit [TabI] [CloI] in
theorem last_stmt : ∀ {vs : List Stmt} {l : Stmt}, vs.getLast? = some l → vs = vs.dropLast ++ [l]
  | [], _, h => by cases h
  | [a], l, h => by cases h; rfl
  | a :: b :: r, l, h => by
    have h : (b :: r).getLast? = some l := by rw [List.getLast?_cons_cons] at h; exact h
    show _ = a :: ((b :: r).dropLast ++ [l])
    rw [← last_stmt h]
end
section
variable {P : Program} {w : World} {K : PySem.W.Frag} {mg : Str → Option Value} {base : Heap} {CX : CXT} {ct : Nat → Option Value} {tr : XK → XK} {tb : List Fn} {wf : Nat} {T : List Str} {rsM : Nat → Stmt → Bool} {tyM : List Nat → Str → Bool} {mk : List Str}
/-- what is asked of the whole -/
structure Base (P : Program) (w : World) (K : PySem.W.Frag) (mg : Str → Option Value) (base : Heap) (CX : CXT) (ct : Nat → Option Value) (tr : XK → XK) (T : List Str) (rsM : Nat → Stmt → Bool) (tyM : List Nat → Str → Bool) (mk : List Str) : Prop where
  bi : ∀ x ∈ bnames, mg x = none
  t0 : tr (fun _ _ _ => False) = fun _ _ _ => False
  tt : ∀ E, tr (tr E) = tr E
  nx : ∀ outer H s e s', CX outer H s (fun _ _ _ => False) e s' → False
  pa : ∀ (Z : Cx) (E : XK), CtxOk P w K mg base CX Z E → ∀ σ, PassesAt CX Z σ (tr E)
  rs : ∀ (Z : Cx) (E : XK), CtxOk P w K mg base CX Z E → Z.calm = true → ∀ c z, rsG Z.env.scope z = true → rsM c z = true → (∀ (_ : CloI), PS Z z (tS K ct (tr E) fun _ h => .exc c [] h))
  ty : ∀ (Z : Cx) (E : XK), CtxOk P w K mg base CX Z E → ∀ cs x, tyM cs x = true → Takes Z (wx (tr E)) ∧ CX = L2.CX P w ∧ (∀ E, tr E = E) ∧ ∃ CS, mg x = some (.ref CS) ∧ ∀ c cls, ct c = some cls → PySem.W.exmOne K cls (.ref CS) = some (cs.any (Nat.beq c))
  tb : TabI.T = tabT K mk
  nd : ((tabT K mk).map (·.1)).Nodup
  tB : ∀ nm ∈ mk, ∃ c P, codeOf K nm = some (c, P) ∧ LamX.TabB base mg c P
theorem ctx_of {N : List Str} {qual : Str} {scope : Scope} {f : Addr} {cdv : Value} {A : Around} {outer : List PySem.Env} {s : Shared} {H : Hp} {E : XK} : CtxOk P w K mg base CX (cxOf CX P w K mg base N qual scope f cdv A outer s H E) E := ⟨rfl, rfl, rfl, rfl, rfl, rfl, rfl, rfl, rfl⟩
/-- what is promised at a level -/
def Lev (P : Program) (w : World) (K : PySem.W.Frag) (mg : Str → Option Value) (base : Heap) (CX : CXT) (ct : Nat → Option Value) (tr : XK → XK) (T : List Str) (C : CT) (n : Nat) : Prop :=
  ∀ i nm, T[i]? = some nm → ∃ fa fd ps, FnG P w K mg base CX n fa fd ps (spW K ct tr C i) ∧ FnC P w K mg base CX ct tr (n + 2) (n + 1) C i fa fd ps ∧ FnM P w K mg base CX ct tr (n + 2) (n + 1) C i fa fd ps ∧ mg nm = some (.ref fa) ∧ PySem.W.keepIn K (.ref fa) = true ∧ Binds K fd ps []
variable {N ps : List Str} {nm : Str} {fn : Fn} {st : Stmt} {D : Bool} {fa : Addr} {od an : Option Addr} {osl : Array (Option Value)} {oc kV doc pm cdv cr : Value} {i n : Nat} {C : CT}
theorem lam_tab (BS : Base P w K mg base CX ct tr T rsM tyM mk) (F : FIs K mg tb T rsM tyM mk i nm fn N ps st D fa od an osl oc kV doc pm cdv cr) (hD : D = true) {A : Around} {outer : List PySem.Env} {s : Shared} {H : Hp} {E : XK} :
    LamTab (cxOf CX P w K mg base N nm (defScope st) fa cdv A outer s H E) := by
  obtain ⟨h1, h2⟩ := F.ld hD
  obtain ⟨c, P0, e, tb⟩ := BS.tB nm h1
  have ec := codeOf_cd h2 F.lk e
  subst ec
  have m : (P0, lamQ nm) ∈ TabI.T := by rw [BS.tb]; exact tabT_mem h1 e
  exact ⟨c, P0, tb, rfl, m, fun p hp he => by
    obtain ⟨a, q⟩ := p
    cases he
    rw [BS.tb] at hp m
    exact nodup_fst BS.nd m hp⟩
theorem good_fn [CloI] (BS : Base P w K mg base CX ct tr T rsM tyM mk) (F : FIs K mg tb T rsM tyM mk i nm fn N ps st D fa od an osl oc kV doc pm cdv cr) (L : Lev P w K mg base CX ct tr T C n) {A : Around} {outer : List PySem.Env} {s : Shared} {H : Hp} {E : XK} (hr : Room (n + 2) (A.deeper (envOfC nm (defScope st) s.heap.objs.size fa cdv))) (hg : A.guards = some [])
    (B : Bool) (hcl : B = true → ∃ kk, CloRun P w K mg base CX ct tr kk C.v CloI.f CloI.c CloI.q CloI.vs (frs outer) s H ∧ Room kk (A.deeper (envOfC nm (defScope st) s.heap.objs.size fa cdv))) :
    GoodS (cxOf CX P w K mg base N nm (defScope st) fa cdv A outer s H E) CX ct tr (tr E) C T B D n rsM tyM := by
  refine ⟨⟨F.sc.nd, rfl, hg, hr.mono (by omega), BS.bi, BS.pa _ _ ctx_of, fun j nm2 hj => ?_, fun hB => ?_, fun hD => ⟨lam_tab BS F hD, hr, fun j nm2 hj => ?_⟩, BS.pa, fun _ => BS.tt E, BS.tt, BS.t0, BS.nx⟩, fun cs x h => ?_, fun _ => rfl, PassesOwn.leaving, fun c z g h => BS.rs _ _ ctx_of rfl c z g h _⟩
  · obtain ⟨fa2, fd2, ps2, g, _, _, h1, h2, h3⟩ := L j nm2 hj
    exact ⟨fa2, fd2, ps2, g, h1, h2, h3⟩
  · obtain ⟨kk, R, hr2⟩ := hcl hB
    exact ⟨kk, R, rfl, hr2⟩
  · obtain ⟨fa2, fd2, ps2, _, fc, fm, h1, h2, h3⟩ := L j nm2 hj
    exact ⟨fa2, fd2, ps2, fc, fm, h1, h2, h3⟩
  · obtain ⟨k1, k2, k3, CS, k4, k5⟩ := BS.ty _ _ ctx_of cs x h
    exact ⟨rfl, rfl, k1, k2, k3, CS, k4, k5⟩
theorem lev_zero (hF : ∀ i nm, T[i]? = some nm → FI K mg tb T rsM tyM mk i nm) : Lev P w K mg base CX ct tr T (callF tb wf 0) 0 := fun i nm hi => by
  obtain ⟨fn, N, ps, st, D, fa, od, an, osl, oc, kV, doc, pm, cdv, cr, F⟩ := hF i nm hi
  letI : CloI := ⟨fa, fa, nm, []⟩
  refine ⟨fa, _, ps, ⟨fun vs H Q E q => ?_, fun A outer s H ars us vs Q E _ _ _ _ _ q => ?_⟩, fun A outer s H ars us vs ws f c q cvs cs L ρ h Q E _ _ _ _ _ _ _ _ _ _ q => ?_, fun A outer s H ars us vs ws ρ h Q E _ _ _ _ _ _ _ q => ?_, F.mg, F.kp, F.bi⟩
  · obtain ⟨ρ, h, ws, _, _, q⟩ := q
    exact absurd q rderr
  · obtain ⟨ρ, h, ws, _, _, q⟩ := q
    exact absurd q rderr
  · exact absurd q rderr
  · exact absurd q rderr
theorem psr_of [CloI] {X : Cx} {CX : CXT} {Wx : XK} {B : Bool} {rest : List Stmt} (G : GoodS X CX ct tr Wx C T B D n rsM tyM) : ∀ (ts : List St) (ss : List Stmt), mB X.N T B D rsM tyM ts X.env.scope ss = true → PSR X ct Wx ss (exL C wf ts) rest
  | [], ss, h => by
    simp only [mB] at h
    cases ss with
    | nil =>
      intro pins s σ H env ρ h0 Q I er l q
      simp only [exL] at q
      exact psr_nil pins s σ H env ρ h0 Q I er l q
    | cons _ _ => cases h
  | t :: ts, ss, h => by
    cases ss with
    | nil => simp only [mB] at h; cases h
    | cons s ss =>
      simp only [mB, Bool.and_eq_true] at h
      have e : exL C wf (t :: ts) = fun env h => (exS C wf t env h).bind fun p h1 => flK (exL C wf ts) p h1 := by
        funext env h
        simp only [exL]
        rfl
      rw [e]
      exact psr_cons (sS wf G t s h.1) (psr_of G ts ss h.2)
theorem lev_succ {k : Nat} (BS : Base P w K mg base CX ct tr T rsM tyM mk) (hF : ∀ i nm, T[i]? = some nm → FI K mg tb T rsM tyM mk i nm) (L : Lev P w K mg base CX ct tr T (callF tb wf k) n) : Lev P w K mg base CX ct tr T (callF tb wf (k + 1)) (n + 3) := fun i nm hi => by
  obtain ⟨fn, N, ps, st, D, fa, od, an, osl, oc, kV, doc, pm, cdv, cr, F⟩ := hF i nm hi
  refine ⟨fa, _, ps, ?_, ?_, ?_, F.mg, F.kp, F.bi⟩
  · letI : CloI := ⟨fa, fa, nm, []⟩
    refine defG (kk := n + 2) F.ht F.hns F.hnp F.lk F.cd F.sc fun A outer s H E hl hc hr hgd => ?_
    have m := F.bm
    unfold bodyM at m
    rw [hl, hc] at m
    exact sSs wf (good_fn BS F L hr hgd false fun z => Bool.noConfusion z) fn.body (defBody st) m
  · refine defC (kk := n + 4) (kc := n + 4) F.ht F.hns F.hnp F.lk F.cd F.sc fun {_} A outer s H E Lc hl hc hr hgd R => ?_
    have m := F.bm
    unfold bodyM at m
    rw [hl, hc] at m
    have L2 : Lev P w K mg base CX ct tr T ((callF tb wf k).with Lc) n := L
    exact sSs wf (good_fn BS F L2 (hr.mono (by omega)) hgd true fun _ => ⟨n + 4, R, hr⟩) fn.body (defBody st) m
  · cases hl : fn.lam with
    | none =>
      letI : CloI := ⟨fa, fa, nm, []⟩
      intro A outer s H ars us vs ws ρ h Q E hr hgd en bd rv l qw q0
      unfold callF at q0
      have q0 : rd K ct (tr E) ρ H (match tb[i]? with
        | some fn => bif Nat.beq ws.length fn.np then runM (callF tb wf k) wf fn ws h else .err
        | none => .err) _ := q0
      rw [F.ht] at q0
      obtain ⟨_, q0⟩ := rdif q0
      unfold runM at q0
      rw [hl] at q0
      exact absurd q0 rderr
    | some lm =>
      letI : CloI := ⟨fa, fa, nm, []⟩
      obtain ⟨np, caps, be⟩ := lm
      have m := F.bm
      unfold bodyM at m
      rw [hl] at m
      simp only [Bool.and_eq_true, Bool.not_eq_true'] at m
      obtain ⟨⟨⟨m1, m2⟩, m3⟩, m4⟩ := m
      rw [m1] at m3
      split at m4
      · rename_i lp lb lsc lpos rpos hlast
        split at m4
        · rename_i N2 hN2
          have eb := last_stmt hlast
          have lk := F.lk
          generalize (defBody st).dropLast = ss at eb m3
          rw [eb] at lk ⊢
          obtain ⟨qs, fr, eN, hnp, LO⟩ := lamN_ok lb hN2
          subst eN hnp
          refine defM (kk := n + 4) (kc := n + 3) (ps2 := qs) (caps := caps) (be := be) (N2 := qs ++ fr) (fr := fr) F.ht F.hns F.hnp hl lk F.cd F.sc fun A outer s H E hr hgd => ?_
          have G := good_fn BS F L (outer := outer) (H := H) (E := E) (hr.mono (by omega)) hgd false fun z => Bool.noConfusion z
          refine ⟨psr_of G fn.body ss m3, LO _ rfl rfl (lam_tab BS F m2), fun A2 outer2 s2 H2 E2 f c hr2 hg2 => ?_⟩
          exact (sE be (G.toGood.lam (N := qs ++ fr) (ps := qs) (fr := fr) (F := lamNF ((envOfC nm (defScope st) s.heap.objs.size fa cdv).qual ++ "<lambda>") lp lsc (cloFrom (envOfC nm (defScope st) s.heap.objs.size fa cdv).cells lsc.names []) c) (f := f) (outer := outer2) (H := H2) (E := E2) (LO _ rfl rfl (lam_tab BS F m2 (A := A) (outer := outer) (s := s) (H := H) (E := E))).sc (hr2.mono (by omega)) hg2) lb m4).1
        · cases m4
      · cases m4
theorem levs (BS : Base P w K mg base CX ct tr T rsM tyM mk) (hF : ∀ i nm, T[i]? = some nm → FI K mg tb T rsM tyM mk i nm) : ∀ k, Lev P w K mg base CX ct tr T (callF tb wf k) (3 * k)
  | 0 => lev_zero hF
  | k + 1 => lev_succ BS hF (levs BS hF k)
end
/-! ### the law's own call -/
/-- nothing but the tables is known, and what is locked -/
def OnlyT (Ts : List Addr) (H : Hp) : Prop := ∀ b, H b = none ∨ (b ∈ Ts ∧ H b = some (.tbl #[])) ∨ ∃ o xs, H b = some (.frz o (.lst xs))
theorem call_law {P : Program} {w : World} {K : PySem.W.Frag} {mg mb : Str → Option Value} {CX : CXT} {k : Nat} {fa a : Addr} {sp : Sp} {sq : Shared} {vs : List Value} {ns : List Int} {Ts : List Addr} {cs : List (Addr × Addr)}
    (kq : K.In sq.heap) (gq : sq.heap.Ns mainGlobals mg) (bq : sq.heap.Ns builtinsNs mb) (bb : ∀ x : Str, x ≠ "__name__" → mb x = bootBuiltins x) (lq : sq.heap.NoLimit) (nogen : sq.gens = #[])
    (tq : ∀ b ∈ Ts, sq.heap.get? b = some { cls := .none, data := .fields #[] }) (tk : ∀ b ∈ Ts, K.lookup b = none) (tc : ∀ b ∈ Ts, ∃ c, (c, b) ∈ cs) (ch : ∀ p ∈ cs, PySem.W.CodeHd sq.heap p.1 p.2 ∧ p.2 ∈ Ts)
    (bmq : ∃ (bm : Addr) (ob : Obj), mg "__builtins__" = some (.ref bm) ∧ bm ≠ builtinsNs ∧ sq.heap.get? bm = some ob ∧ ob.cls = .type "module" ∧ ob.dict = some builtinsNs ∧ ob.data = .plain)
    (oa : sq.heap.get? a = some { cls := .type "list", data := .seq vs.toArray }) (isq : IntsAre vs ns) (few : ns.length ≤ sizeLine) (room : Room k callerA)
    (F : ∀ bs : Heap, K.In bs → bs.Ns mainGlobals mg → (∀ p ∈ cs, LamX.TabB bs mg p.1 p.2) → ∃ fd ps, FnG P w K mg bs CX k fa fd ps sp ∧ Binds K fd ps [])
    (keeps : ∀ H : Hp, OnlyT Ts H → (∀ b ∈ Ts, H b = some (.tbl #[])) → a ∉ Ts → SqL K H a (ns.map V.int) → sp [.ref a] H (fun v _ => v = .bl true) fun _ _ _ => False) (noCX : ∀ H e s', CX [] H sq (fun _ _ _ => False) e s' → False) :
    codeAny (model P w) callerA (.call (.ref fa) ⟨[.ref a], []⟩) (fun r s' => r = .ok (.ret (.bool true)) ∧ OldK sq.heap s'.heap ∧ s'.os = sq.os ∧ AllBare s'.gens) sq := by
  have vv := vals_ints isq
  have vl := isq.length
  have naT : a ∉ Ts := fun m => by
    have e := tq a m
    rw [oa] at e
    cases e
  have inner : ∀ H : Hp, OnlyT Ts H → (∀ b ∈ Ts, H b = some (.tbl #[])) → SqL K H a (ns.map V.int) → HOk P w H sq.heap → (∀ b, H b ≠ none → b = a ∨ b ∈ Ts) → (H a ≠ none → K.lookup a = none) →
      codeAny (model P w) callerA (.call (.ref fa) ⟨[.ref a], []⟩) (fun r s' => r = .ok (.ret (.bool true)) ∧ OldK sq.heap s'.heap ∧ s'.os = sq.os ∧ AllBare s'.gens) sq := by
    intro H only isT sl okH atA unK
    have toB : ∀ {b : Addr} {o : Obj}, sq.heap.get? b = some o → H b = none → (hidT sq.heap H).get? b = some o := fun z n => hidT_get z n
    have free : ∀ {b : Addr} {o : Obj}, sq.heap.get? b = some o → b ≠ a → b ∉ Ts → H b = none := fun {b o} z n1 n2 => by
      cases hb : H b with
      | none => rfl
      | some u => exact (atA b (by rw [hb]; simp)).elim (fun e => absurd e n1) fun e => absurd e n2
    have apart : ∀ {b : Addr} {o : Obj}, sq.heap.get? b = some o → (∀ xs n, o.data ≠ .seq xs n) → o.data ≠ .fields #[] → H b = none := fun {b o} z d1 d2 => free z
      (fun e => by
        subst e
        rw [oa] at z
        cases z
        exact d1 _ _ rfl)
      fun m => by
        have e := tq b m
        rw [z] at e
        cases e
        exact d2 rfl
    have nsB : ∀ {b : Addr} {m : Str → Option Value}, sq.heap.Ns b m → (hidT sq.heap H).Ns b m := fun {b m} ⟨o, es, ep, z, d, r⟩ =>
      ⟨o, es, ep, toB z (apart z (fun xs n e => by rw [d] at e; cases e) fun e => by rw [d] at e; cases e), d, r⟩
    have kB : K.In (hidT sq.heap H) := fun b o z => toB (kq b o z) (by
      cases hb : H b with
      | none => rfl
      | some u =>
        rcases atA b (by rw [hb]; simp) with eb | eb
        · subst eb
          rw [unK (by rw [hb]; simp)] at z; cases z
        · rw [tk b eb] at z; cases z)
    have md : Mod K mg (hidT sq.heap H) := ⟨kB, nsB gq, ⟨mb, nsB bq, bb⟩, let ⟨mc, z1, z2⟩ := lq; ⟨mc, nsB z1, z2⟩⟩
    have en : Env0 P w K mg (hidT sq.heap H) callerA [] sq H := ⟨rfl, md, fun b o z => of_hidT z, Nat.le_of_eq (hidT_size _ _), trivial, fun b z => absurd (show b ∈ ([] : List Addr) from z) (by simp), okH, .of_eq nogen⟩
    have tabs : ∀ p ∈ cs, LamX.TabB (hidT sq.heap H) mg p.1 p.2 := fun p hp => by
      obtain ⟨⟨o, fl, x1, x2, x3, x4, x5, x6, x7, g0, g1, g2, g3, gs⟩, m⟩ := ch p hp
      obtain ⟨bm, ob, y1, y2, y3, y4, y5, y6⟩ := bmq
      refine ⟨⟨o, fl, x1, x2, x3, x4, x5, x6, x7, toB g0 (apart g0 (fun xs n e => by rw [g2] at e; cases e) fun e => ?_), g1, g2, g3, gs⟩, ?_, fun e => ?_⟩
      · rw [g2] at e
        cases e
        simp at g3
      · have hbn := apart y3 (fun xs n e => by rw [y6] at e; cases e) fun e => by rw [y6] at e; cases e
        refine ⟨bm, ob, y1, y2, fun e => ?_, fun e => ?_, toB y3 hbn, y4, y5, y6⟩
        · obtain ⟨o2, es, ep, z, d, _⟩ := gq
          rw [← e, y3] at z
          cases z
          rw [y6] at d
          cases d
        · have z := tq _ m
          rw [← e, y3] at z
          cases z
          cases y6
      · obtain ⟨o2, es, ep, z, d, _⟩ := gq
        rw [e, tq _ m] at z
        cases z
        cases d
    obtain ⟨fd, ps, F1, bd⟩ := F _ kB (nsB gq) tabs
    have ln := F1.len _ _ _ _ (keeps H only isT naT sl)
    have bd := bd sq [.ref a] kq (by rw [List.append_nil]; exact ln)
    rw [List.append_nil] at bd
    refine codeAny_mono (F1.run callerA [] sq H ⟨[.ref a], []⟩ [.ref a] [.ref a] _ _ room rfl en bd (.cons rfl .nil) (keeps H only isT naT sl)) fun r s' res => ?_
    match r, res with
    | .error e, res => exact (noCX H e s' res).elim
    | .ok .next, res => exact False.elim res
    | .ok .brk, res => exact False.elim res
    | .ok .cont, res => exact False.elim res
    | .ok (.ret u), res =>
      obtain ⟨v, H', so, bare, un, okH', rv, qv⟩ := res
      have qv : v = .bl true := qv
      subst qv
      obtain rfl : u = Value.bool true := rv
      have stays : ∀ b o, b ∉ Ts → sq.heap.get? b = some o → s'.heap.get? b = some o := fun b o nb z => by
        cases hb : H b with
        | none => exact un.keep b o z hb (by intro t; exact absurd (show b ∈ ([] : List Addr) from t) (by simp)) (by simp)
        | some u =>
          rcases only b with t | ⟨t, _⟩ | ⟨ob, xs, t⟩
          · rw [hb] at t; cases t
          · exact absurd t nb
          · have t2 := un.frzs b ob _ t
            obtain ⟨g1, _⟩ := okH b _ t
            obtain ⟨g2, _⟩ := okH' b _ t2
            rw [z] at g1; cases g1
            exact g2
      have grows : ∀ b ∈ Ts, ∃ more : Array Value, s'.heap.get? b = some { cls := .none, data := .fields more } := fun b hb => by
        obtain ⟨more, t⟩ := un.tbls b #[] (isT b hb)
        exact ⟨_, okH' b _ t⟩
      refine ⟨rfl, ⟨fun b o z => ?_, fun b o z => ?_⟩, so, bare⟩
      · by_cases hb : b ∈ Ts
        · obtain ⟨more, hm⟩ := grows b hb
          obtain ⟨c, hc⟩ := tc b hb
          have tz := tq b hb
          rw [z] at tz
          cases tz
          refine .inr (.inl ⟨((ch _ hc).1.tab z).isCodeTable, rfl, #[], more, rfl, ?_⟩)
          rw [hm]
          simp
        · exact .inl (stays b o hb z)
      · by_cases hb : b ∈ Ts
        · obtain ⟨more, hm⟩ := grows b hb
          exact ⟨_, hm⟩
        · exact ⟨o, stays b o hb z⟩
  cases hk : K.lookup a with
  | some o =>
    have z := kq a o hk
    rw [oa] at z
    cases z
    refine inner (fun b => if b ∈ Ts then some (.tbl #[]) else none) (fun b => ?_) (fun b hb => if_pos hb) (.inr ⟨_, vs.toArray, _, hk, rfl, rfl, rfl, by rw [List.size_toArray, vl]; exact few, by simpa using vv⟩) (fun b u t => ?_) (fun b t => ?_) fun t => absurd (if_neg naT) t
    · by_cases hb : b ∈ Ts
      · exact .inr (.inl ⟨hb, if_pos hb⟩)
      · exact .inl (if_neg hb)
    · by_cases hb : b ∈ Ts
      · have t' := (if_pos hb).symm.trans t
        cases t'
        exact tq b hb
      · have t' := (if_neg hb).symm.trans t
        cases t'
    · by_cases hb : b ∈ Ts
      · exact .inr hb
      · exact absurd (if_neg hb) t
  | none =>
    have tne : ∀ b ∈ Ts, ¬ b = a := fun b hb e => naT (e ▸ hb)
    refine inner (fun b => if b = a then some (.frz { cls := .type "list", data := .seq vs.toArray } (.lst (ns.map V.int))) else if b ∈ Ts then some (.tbl #[]) else none) (fun b => ?_) (fun b hb => (if_neg (tne b hb)).trans (if_pos hb)) (.inl (.inr ⟨{ cls := .type "list", data := .seq vs.toArray }, if_pos rfl⟩)) (fun b u t => ?_) (fun b t => ?_) fun _ => hk
    · by_cases hb : b = a
      · exact .inr (.inr ⟨_, _, if_pos hb⟩)
      · by_cases hc : b ∈ Ts
        · exact .inr (.inl ⟨hc, (if_neg hb).trans (if_pos hc)⟩)
        · exact .inl ((if_neg hb).trans (if_neg hc))
    · by_cases hb : b = a
      · have t' := (if_pos hb).symm.trans t
        cases t'
        subst hb
        exact ⟨oa, by rw [List.length_map]; exact few, vs, _, vv, oa⟩
      · have t := (if_neg hb).symm.trans t
        by_cases hc : b ∈ Ts
        · have t' := (if_pos hc).symm.trans t
          cases t'
          exact tq b hc
        · have t' := (if_neg hc).symm.trans t
          cases t'
    · by_cases hb : b = a
      · exact .inl hb
      · by_cases hc : b ∈ Ts
        · exact .inr hc
        · exact absurd ((if_neg hb).trans (if_neg hc)) t
theorem only_frl {K : PySem.W.Frag} {H : Hp} {a : Addr} {ns : List Int} {Ts : List Addr} (only : OnlyT Ts H) (sl : SqL K H a (ns.map V.int)) : VRs K [] H [.frl (ns.map W.int)] [.ref a] := by
  refine VRs.cons_iff.mpr ⟨_, _, rfl, ?_, VRs.nil_iff.mpr rfl⟩
  unfold VR
  refine ⟨a, ns.map V.int, rfl, ?_, vrs_ints ns⟩
  rcases sl with (z | z) | z
  · rcases only a with t | ⟨_, t⟩ | ⟨o, xs, t⟩
    · rw [z] at t; cases t
    · rw [z] at t; cases t
    · rw [z] at t; cases t
  · exact .inl z
  · exact .inr z
/-! ### exceptions -/
/-- X() of an own class -/
theorem pmk_none {X : Cx} {C : Addr} {bmB : List Value} {B newId initId : String} {x : Str} {p pos : Pos} (F : ExcBaseFacts B newId initId bmB) (q : PySem.W.excIn X.K C bmB newId = true) (gC : X.mg x = some (.ref C)) (kC : PySem.W.keepIn X.K (.ref C) = true) (r : Raises X (.ref C)) (hg : Gl X x)
    (hdb : (x == ("__debug__" : Str)) = false) : PMk X (.Call (.Name x p) [] [] pos) (fun _ H Q => Q (.ref C) none H) := by
  intro pins s σ H Q I hq
  refine wpAny_Call_Name_kw (ld_glob I hg gC ?_ hdb)
  refine PySem.W.callWith_K0 I.kIn kC ?_
  obtain ⟨bm, N, nm, qn, bs, hdct, sn, sub, ab, col, dd, k0, k1, k2, k3, k5, mN, hC, hN, hni, T⟩ := exc_obj I.kIn q
  exact wpAny_call_exc_subT F T hC hN hni (fun h' e hm => mk_of I hm r hq (I.hok.gone hm.new)) (Nat.zero_le _)
/-- which own classes of errors are raised without an argument; by number -/
def rsX (cn : List Str) (c : Nat) (s : Stmt) : Bool := match s with
  | .Raise (some (.Call (.Name x _) [] [] _)) none _ => decide (cn[c]? = some x)
  | _ => false
def tyX (cn : List Str) (cs : List Nat) (x : Str) : Bool := match cs with
  | [c] => decide (cn[c]? = some x)
  | _ => false
structure XC (K : PySem.W.Frag) (mg : Str → Option Value) (cn : List Str) : Prop where
  cls : ∀ (c : Nat) (x : Str), cn[c]? = some x → ∃ (C : Addr) (bmB : List Value) (B newId initId : String), ExcBaseFacts B newId initId bmB ∧ PySem.W.excIn K C bmB newId = true ∧ mg x = some (.ref C) ∧ PySem.W.keepIn K (.ref C) = true ∧ PySem.W.subIn K (.ref C) (.type "BaseException") = some true ∧ PySem.W.typeIn K (.ref C) = some (.type "type")
  exm : ∀ (c : Nat) (x : Str) (C : Addr) (c' : Nat) (x' : Str) (cls' : Value), cn[c]? = some x → cn[c']? = some x' → mg x = some (.ref C) → mg x' = some cls' → PySem.W.exmOne K cls' (.ref C) = some (Nat.beq c' c)
def ctX (mg : Str → Option Value) (cn : List Str) (c : Nat) : Option Value := match cn[c]? with
  | some x => mg x
  | none => none
section
variable {P : Program} {w : World} {K : PySem.W.Frag} {mg : Str → Option Value} {base : Heap} {T : List Str} {mk cn : List Str}
theorem ctx_takes {Z : Cx} {E : XK} (h : CtxOk P w K mg base (L2.CX P w) Z E) : Takes Z (wx E) := by
  obtain ⟨eP, ew, _, _, _, st, fr, ex, xe⟩ := h
  subst eP ew
  exact takes_of st fr ex xe
theorem base_x (hb : ∀ x ∈ bnames, mg x = none) (xc : XC K mg cn) (ht : TabI.T = tabT K mk) (nd : ((tabT K mk).map (·.1)).Nodup) (tB : ∀ nm ∈ mk, ∃ c P, codeOf K nm = some (c, P) ∧ LamX.TabB base mg c P) :
    Base P w K mg base (L2.CX P w) (ctX mg cn) id T (rsX cn) (tyX cn) mk := by
  refine ⟨hb, rfl, fun _ => rfl, fun outer H s e s' z => ?_, fun Z E h σ => ?_, fun Z E h hc c z hg hz I => ?_, fun Z E h cs x hx => ?_, ht, nd, tB⟩
  · obtain ⟨_, _, _, _, _, _, _, _, _, _, _, _, z⟩ := z
    exact z
  · have tk := ctx_takes h
    obtain ⟨eP, ew, _, _, _, st, fr, ex, xe⟩ := h
    subst eP ew
    exact passAt tk σ
  · have tk := ctx_takes h
    unfold rsX at hz
    split at hz
    · rename_i x p pos rp
      have hz := of_decide_eq_true hz
      have g := gl_ok (X := Z) hg
      obtain ⟨C, bmB, B, newId, initId, F, q, gC, kC, s1, t1⟩ := xc.cls c x hz
      have eK := h.eK
      have em := h.em
      subst eK em
      refine PS.mo (ps_raise hc tk (pmk_none F q gC kC (raises_own s1 t1) g.1 g.2)) fun D σ H ⟨env, ρ, h, er, l, qq⟩ => ?_
      exact qq ρ H (.ref C) none Stp.refl l ⟨rfl, by unfold ctX; rw [hz]; exact gC, rfl⟩
    · cases hz
  · refine ⟨ctx_takes h, rfl, fun _ => rfl, ?_⟩
    unfold tyX at hx
    split at hx
    · rename_i c
      have hx := of_decide_eq_true hx
      obtain ⟨C, _, _, _, _, _, _, gC, _⟩ := xc.cls c x hx
      refine ⟨C, gC, fun c' cls' hc' => ?_⟩
      unfold ctX at hc'
      split at hc'
      · rename_i x' hx'
        rw [xc.exm c x C c' x' cls' hx hx' gC hc']
        simp
      · cases hc'
    · cases hx
end
omit [TabI] [CloI] in
/-- one class, over ValueError -/
theorem xc_one {K : PySem.W.Frag} {h : Heap} {mg : Str → Option Value} {x : Str} {C : Addr} (KX : K.In h) (G : h.Ns mainGlobals mg) (a : PySem.W.nsIn K mainGlobals x = some (some (.ref C))) (q : PySem.W.excIn K C [.type "ValueError", .type "Exception", .type "BaseException", .type "object"] "ValueError.__new__" = true)
    (k : PySem.W.keepIn K (.ref C) = true) (s : PySem.W.subIn K (.ref C) (.type "BaseException") = some true) (t : PySem.W.typeIn K (.ref C) = some (.type "type")) (e : PySem.W.exmOne K (.ref C) (.ref C) = some true) : XC K mg [x] := by
  have g := PySem.W.mg_of KX G a
  refine ⟨fun c y hy => ?_, fun c y C1 c' y' cls' hy hy' h1 h2 => ?_⟩
  · match c, hy with
    | 0, hy =>
      have hy : some x = some y := hy
      cases hy
      exact ⟨C, _, _, _, _, PySem.F.excBase_ValueError, q, g, k, s, t⟩
    | c + 1, hy => simp at hy
  · match c, c', hy, hy' with
    | 0, 0, hy, hy' =>
      have hy : some x = some y := hy
      have hy' : some x = some y' := hy'
      cases hy
      cases hy'
      rw [g] at h1 h2
      cases h1
      cases h2
      exact e
    | c + 1, _, hy, _ => simp at hy
    | 0, c' + 1, _, hy' => simp at hy'
omit [TabI] [CloI] in
/-- what is left behind the head: the machine answers True -/
theorem walk_x {l : PySem.W.OpenLaw} {n k : Nat} {q : Program} {loose : List Str} {XP : (Str → Option Value) → Heap → Prop} {YP : World → Heap → Prop} {d : DefRec} {K : Params → PySem.W.Frag} {tb : List Fn} {wf : Nat} {T mk cn : List Str} {ts : List Addr} {il : Nat}
    (hn : l.most = some n) (hn2 : n ≤ sizeLine) (hdf : d.params.defaults = []) (hr : Room (3 * k) callerA) (hY : ∀ (w : World) (h : Heap), YP w h → (K w.params).In h) (hYT : ∀ (w : World) (h : Heap), YP w h → ∀ b ∈ ts, h.get? b = some (PySem.W.tabObj #[])) (hil : T[il]? = some d.name)
    (tok : ∀ w : World, tabsOk (K w.params) mk ts = true)
    (F : ∀ (w : World) (mg : Str → Option Value) (h : Heap), (K w.params).In h → h.Ns mainGlobals mg → (∀ y ∈ bnames, mg y = none) ∧ XC (K w.params) mg cn ∧ AllFI (K w.params) mg tb T (rsX cn) (tyX cn) mk 0 T)
    (run : ∀ ns : List Int, ns.length ≤ n → ∃ g, callF tb wf k il [.frl (ns.map W.int)] Hw.nil = .ok (.bl true) g) :
    PySem.W.WalkO q loose XP YP l.row.toRowW d [] (fun f vs => PySem.call f vs) := by
  refine Att.attach_call hn hdf fun w s₀ sq mg mb fa o pm cd doc a vs ns G Y ho hd hcd hmg hobj hints hlen hg => ?_
  have kq := hY w _ Y
  have tq := hYT w _ Y
  have tw := tok w
  obtain ⟨hb, xc, hF⟩ := F w mg _ kq G.T.g
  unfold tabsOk at tw
  rw [Bool.and_eq_true, List.all_eq_true] at tw
  obtain ⟨t1, t2⟩ := tw
  have nd := noDup_ok t2
  have tell : ∀ nm ∈ mk, ∃ c P, codeOf (K w.params) nm = some (c, P) ∧ PySem.W.codeHdIn (K w.params) c P = true ∧ (K w.params).lookup P = none ∧ P ∈ ts := fun nm hnm => by
    have z := t1 nm hnm
    split at z
    · rename_i c P e
      simp only [Bool.and_eq_true] at z
      exact ⟨c, P, e, z.1.1, Option.isNone_iff_eq_none.mp z.1.2, by simpa using z.2⟩
    · cases z
  letI : TabI := ⟨tabT (K w.params) mk⟩
  letI : CloI := ⟨0, 0, "", []⟩
  let Ts : List Addr := (tabT (K w.params) mk).map (·.1)
  let cs : List (Addr × Addr) := mk.filterMap fun nm => codeOf (K w.params) nm
  have hTs : ∀ b ∈ Ts, ∃ nm ∈ mk, ∃ c, codeOf (K w.params) nm = some (c, b) := fun b hb' => by
    obtain ⟨p, hp, rfl⟩ := List.mem_map.mp hb'
    obtain ⟨nm, hnm, e⟩ := List.mem_filterMap.mp hp
    cases ec : codeOf (K w.params) nm with
    | none => rw [ec] at e; cases e
    | some cp =>
      rw [ec] at e
      cases e
      exact ⟨nm, hnm, cp.1, ec⟩
  have hcs : ∀ p ∈ cs, ∃ nm ∈ mk, codeOf (K w.params) nm = some p := fun p hp => by
    obtain ⟨nm, hnm, e⟩ := List.mem_filterMap.mp hp
    exact ⟨nm, hnm, e⟩
  refine call_law (CX := L2.CX l.prog w) (sp := spW (K w.params) (ctX mg cn) id (callF tb wf k) il) (Ts := Ts) (cs := cs) kq G.T.g G.T.b G.T.builtins G.T.nolimit hg (fun b m => ?_) (fun b m => ?_) (fun b m => ?_) (fun p m => ?_) G.T.bmain hobj hints (Nat.le_trans hlen hn2) hr (fun bs kB gB tB => ?_) (fun H only isT naT sl => ?_) (fun H e s' z => ?_)
  · obtain ⟨nm, hnm, c, e⟩ := hTs b m
    obtain ⟨c2, P2, e2, _, _, h4⟩ := tell nm hnm
    rw [e] at e2
    cases e2
    exact tq b h4
  · obtain ⟨nm, hnm, c, e⟩ := hTs b m
    obtain ⟨c2, P2, e2, _, h3, _⟩ := tell nm hnm
    rw [e] at e2
    cases e2
    exact h3
  · obtain ⟨nm, hnm, c, e⟩ := hTs b m
    exact ⟨c, List.mem_filterMap.mpr ⟨nm, hnm, e⟩⟩
  · obtain ⟨nm, hnm, e⟩ := hcs p m
    obtain ⟨c2, P2, e2, h2, _, _⟩ := tell nm hnm
    rw [e] at e2
    cases e2
    exact ⟨PySem.W.codeHd_of_K kq h2, List.mem_map.mpr ⟨_, tabT_mem hnm e, rfl⟩⟩
  · have BS : Base l.prog w (K w.params) mg bs (L2.CX l.prog w) (ctX mg cn) id T (rsX cn) (tyX cn) mk := base_x hb xc rfl nd fun nm hnm => by
      obtain ⟨c2, P2, e2, h2, _, _⟩ := tell nm hnm
      exact ⟨c2, P2, e2, tB (c2, P2) (List.mem_filterMap.mpr ⟨nm, hnm, e2⟩)⟩
    obtain ⟨fa2, fd, ps, F1, _, _, m1, _, b1⟩ := levs (wf := wf) BS (fun i nm hi => by
      have := AllFI.at hF i nm hi
      rw [Nat.zero_add] at this
      exact this) k il d.name hil
    rw [hmg] at m1
    cases m1
    exact ⟨fd, ps, F1, b1⟩
  · obtain ⟨g, e⟩ := run ns hlen
    letI : CloI := ⟨fa, fa, d.name, []⟩
    refine ⟨[], Hw.nil, [.frl (ns.map W.int)], Rel.nil (fun p hp => ?_), only_frl only sl, ?_⟩
    · exact LamX.TabS.nil (isT p.1 (List.mem_map.mpr ⟨p, hp, rfl⟩))
    · rw [e]
      exact fun ρ' H' s' l' v qv => qv.nodep_bl
  · obtain ⟨_, _, _, _, _, _, _, _, _, _, _, _, z⟩ := z
    exact z
end TL
namespace Ik80
open TL
def d_begun : List St := [(.set 1 (.ife (.var 0) (.me .index (.var 0) [(.bi .min1 [(.var 0)])]) (.int 0))),
  (.ret (.bin .add (.slc (.var 0) (some (.var 1)) none) (.slc (.var 0) none (some (.var 1)))))]
def f_begun : Fn := ⟨1, 2, d_begun, none, false⟩
def d_ends_at : List St := [(.ret (.bi .list [(.call 0 [(.idx (.idx (.var 0) (.int 2)) (.var 1))])]))]
def f_ends_at : Fn := ⟨2, 2, d_ends_at, none, false⟩
def d_is_integer : List St := [(.ret (.and [(.bi (.isinst 0) [(.var 0)]), (.not (.bi (.isinst 1) [(.var 0)]))]))]
def f_is_integer : Fn := ⟨1, 1, d_is_integer, none, false⟩
def d_is_below : List St := [(.ret (.and [(.call 2 [(.var 0)]), (.chn .le .lt (.int 0) (.var 0) (.var 1))]))]
def f_is_below : Fn := ⟨2, 2, d_is_below, none, false⟩
def d_is_tuple : List St := [(.ret (.and [(.bi (.isinst 2) [(.var 0)]), (.cmp .eq (.bi .len [(.var 0)]) (.var 1))]))]
def f_is_tuple : Fn := ⟨2, 2, d_is_tuple, none, false⟩
def d_wrong_tree : List St := [(.ite (.not (.call 4 [(.var 1), (.bin .sub (.idx (.var 0) (.int 0)) (.int 1))])) [(.ret (.tup []))] []),
  (.set 2 (.bi .lrng1 [(.idx (.var 0) (.int 0))])),
  (.loop (.tp [(.nm 3), (.nm 4)]) .enm [(.var 1)] [(.ite (.or [(.not (.call 3 [(.var 4), (.bi .len [(.idx (.var 0) (.int 1))])])), (.and [(.cmp .gt (.var 3) (.int 0)), (.cmp .le (.var 4) (.idx (.var 1) (.bin .sub (.var 3) (.int 1))))])]) [(.ret (.tup [(.var 3)]))] []), (.setT (.tp [(.nm 5), (.nm 6)]) (.comp (.idx (.var 2) (.var 7)) (.nm 7) .seq [(.idx (.idx (.var 0) (.int 1)) (.var 4))] [] [7])), (.ite (.cmp .eq (.var 5) (.var 6)) [(.ret (.tup [(.var 3)]))] []), (.set 2 (.comp (.ife (.cmp .eq (.var 8) (.var 5)) (.var 6) (.var 8)) (.nm 8) .seq [(.var 2)] [] [8]))]),
  (.ret .non)]
def f_wrong_tree : Fn := ⟨2, 9, d_wrong_tree, none, false⟩
def d_is_tree : List St := [(.ret (.cmp .iss (.call 5 [(.var 0), (.var 1)]) .non))]
def f_is_tree : Fn := ⟨2, 2, d_is_tree, none, false⟩
def d_joins : List St := [(.set 1 (.comp (.bin .mul (.lst [(.int 0)]) (.idx (.var 0) (.int 0))) (.nm 2) .rng1 [(.idx (.var 0) (.int 0))] [] [2])),
  (.loop (.tp [(.nm 3), (.nm 4)]) .seq [(.idx (.var 0) (.int 1))] [(.ite (.cmp .ne (.var 3) (.var 4)) [(.setI (.idx (.var 1) (.var 3)) (.var 4) (.bin .add (.idx (.idx (.var 1) (.var 3)) (.var 4)) (.int 1))), (.setI (.idx (.var 1) (.var 4)) (.var 3) (.bin .add (.idx (.idx (.var 1) (.var 4)) (.var 3)) (.int 1)))] [])]),
  (.ret (.var 1))]
def f_joins : Fn := ⟨1, 5, d_joins, none, false⟩
def d_outs : List St := [(.ret (.bi .tuple [(.comp (.bi .sum [(.var 1)]) (.nm 1) .seq [(.call 7 [(.var 0)])] [] [1])]))]
def f_outs : Fn := ⟨1, 2, d_outs, none, false⟩
def d_is_steady : List St := [(.set 3 (.call 8 [(.var 0)])),
  (.ret (.cmp .eq (.comp (.var 4) (.nm 4) .rng1 [(.idx (.var 0) (.int 0))] [(.and [(.cmp .ne (.var 4) (.var 1)), (.cmp .ge (.idx (.var 2) (.var 4)) (.idx (.var 3) (.var 4)))])] [4]) (.lst [])))]
def f_is_steady : Fn := ⟨3, 5, d_is_steady, none, false⟩
def d_roads_to : List St := [(.ret (.bi .sum [(.comp (.idx (.var 0) (.var 2)) (.nm 2) .seq [(.var 1)] [] [2])]))]
def f_roads_to : Fn := ⟨2, 3, d_roads_to, none, false⟩
def d_burnt : List St := [(.setT (.tp [(.nm 3), (.nm 4), (.nm 5)]) (.tup [(.call 7 [(.var 0)]), (.call 8 [(.var 0)]), (.lst [(.var 1)])])),
  (.set 6 (.lst [(.var 1)])),
  (.whl (.cmp .ne (.var 6) (.lst [])) [(.set 7 (.comp (.var 8) (.nm 8) .rng1 [(.idx (.var 0) (.int 0))] [(.cmp .notin (.var 8) (.var 5))] [8])), (.set 6 (.comp (.var 8) (.nm 8) .seq [(.var 7)] [(.cmp .ge (.bin .add (.idx (.var 2) (.var 8)) (.call 10 [(.idx (.var 3) (.var 8)), (.var 5)])) (.idx (.var 4) (.var 8)))] [8])), (.set 5 (.bin .add (.var 5) (.var 6)))]),
  (.ret (.var 5))]
def f_burnt : Fn := ⟨3, 9, d_burnt, none, false⟩
def d_comes_again : List St := [(.ret (.and [(.call 9 [(.var 0), (.var 1), (.var 2)]), (.cmp .eq (.bi .len [(.call 11 [(.var 0), (.var 1), (.var 2)])]) (.idx (.var 0) (.int 0)))]))]
def f_comes_again : Fn := ⟨3, 3, d_comes_again, none, false⟩
def d_tries_by_numbers : List St := [(.setT (.tp [(.nm 4), (.nm 5), (.nm 6), (.nm 7)]) (.tup [(.dct [(.var 1), (.bl true)]), (.dct []), (.lst []), (.bi .list [(.var 3)])])),
  (.set 8 (.lst [(.int 0)])),
  (.whl (.cmp .ne (.var 8) (.lst [])) [(.set 8 (.comp (.var 9) (.tp [(.nm 9), (.tp [(.nm 10), (.nm 11)])]) .enm [(.idx (.var 0) (.int 1))] [(.and [(.cmp .notin (.var 9) (.var 5)), (.cmp .ne (.cmp .isin (.var 10) (.var 4)) (.cmp .isin (.var 11) (.var 4)))])] [9, 10, 11])), (.ite (.cmp .ne (.var 8) (.lst [])) [(.setT (.tp [(.nm 12), (.nm 13)]) (.idx (.idx (.var 0) (.int 1)) (.idx (.var 8) (.int 0)))), (.set 14 (.ife (.cmp .isin (.var 12) (.var 4)) (.var 13) (.var 12))), (.ex (.me .append (.var 6) [(.tup [(.idx (.var 8) (.int 0)), (.var 14), (.call 14 [(.idx (.var 8) (.int 0)), (.var 14), (.var 2), (.var 7)])])])), (.setI (.var 5) (.idx (.var 8) (.int 0)) (.bl true)), (.ite (.idx (.idx (.var 6) (.neg (.int 1))) (.int 2)) [(.setI (.var 4) (.var 14) (.bl true))] [])] [])]),
  (.ret (.var 6))]
def f_tries_by_numbers : Fn := ⟨4, 15, d_tries_by_numbers, none, false⟩
def d_is_lighting : List St := [(.setI (.var 3) (.var 1) (.bin .sub (.idx (.var 3) (.var 1)) (.int 1))),
  (.ret (.ife (.cmp .isnt (.var 2) .non) (.cmp .isin (.var 0) (.var 2)) (.cmp .eq (.idx (.var 3) (.var 1)) (.int 0))))]
def f_is_lighting : Fn := ⟨4, 4, d_is_lighting, none, false⟩
def d_ends_behind : List St := [(.loop (.nm 2) .seq [(.idx (.var 0) (.int 2))] [(.ite (.cmp .isin (.var 1) (.var 2)) [(.set 3 (.me .index (.var 2) [(.var 1)])), (.ret (.bi .list [(.bin .add (.slc (.var 2) (some (.bin .add (.var 3) (.int 1))) none) (.slc (.var 2) none (some (.var 3))))]))] [])]),
  (.ret (.lst []))]
def f_ends_behind : Fn := ⟨2, 4, d_ends_behind, none, false⟩
def d_tries_by_turns : List St := [(.setT (.tp [(.nm 4), (.nm 5), (.nm 6), (.nm 7)]) (.tup [(.dct [(.var 1), (.bl true)]), (.dct []), (.lst []), (.bi .list [(.var 3)])])),
  (.set 8 (.lst [(.bi .list [(.call 1 [(.var 0), (.var 1)])])])),
  (.whl (.cmp .ne (.var 8) (.lst [])) [(.ite (.cmp .eq (.idx (.var 8) (.neg (.int 1))) (.lst [])) [(.ex (.me .pop (.var 8) [])), .cont] []), (.set 9 (.me .pop (.idx (.var 8) (.neg (.int 1))) [(.int 0)])), (.setT (.tp [(.nm 10), (.nm 11)]) (.tup [(.bin .fdiv (.var 9) (.int 2)), (.idx (.idx (.idx (.var 0) (.int 1)) (.bin .fdiv (.var 9) (.int 2))) (.bin .sub (.int 1) (.bin .mod (.var 9) (.int 2))))])), (.ite (.and [(.cmp .notin (.var 10) (.var 5)), (.cmp .notin (.var 11) (.var 4))]) [(.ex (.me .append (.var 6) [(.tup [(.var 10), (.var 11), (.call 14 [(.var 10), (.var 11), (.var 2), (.var 7)])])])), (.setI (.var 5) (.var 10) (.bl true)), (.ite (.idx (.idx (.var 6) (.neg (.int 1))) (.int 2)) [(.setI (.var 4) (.var 11) (.bl true)), (.ex (.me .append (.var 8) [(.call 15 [(.var 0), (.bin .sub (.bin .add (.var 9) (.int 1)) (.bin .mul (.int 2) (.bin .mod (.var 9) (.int 2))))])]))] [])] [])]),
  (.ret (.var 6))]
def f_tries_by_turns : Fn := ⟨4, 12, d_tries_by_turns, none, false⟩
def d_tries : List St := [(.ite (.cmp .eq (.var 4) (.str "numbers")) [(.ret (.call 13 [(.var 0), (.var 1), (.var 2), (.var 3)]))] []),
  (.ret (.call 16 [(.var 0), (.var 1), (.var 2), (.var 3)]))]
def f_tries : Fn := ⟨5, 5, d_tries, none, false⟩
def d_tries_of_pile : List St := [(.ite (.not (.call 12 [(.var 0), (.var 1), (.var 2)])) [(.rse 0 [])] []),
  (.ret (.call 17 [(.var 0), (.var 1), .non, (.comp (.bin .sub (.var 4) (.var 5)) (.tp [(.nm 4), (.nm 5)]) .zip [(.call 8 [(.var 0)]), (.var 2)] [] [4, 5]), (.var 3)]))]
def f_tries_of_pile : Fn := ⟨4, 6, d_tries_of_pile, none, false⟩
def d_tried_roads : List St := [(.ret (.comp (.tup [(.var 4), (.ife (.var 6) (.var 5) .non)]) (.tp [(.nm 4), (.nm 5), (.nm 6)]) .seq [(.call 18 [(.var 0), (.var 1), (.var 2), (.var 3)])] [] [4, 5, 6]))]
def f_tried_roads : Fn := ⟨4, 7, d_tried_roads, none, false⟩
def d_tree_of_pile : List St := [(.ret (.bi .tuple [(.bi .sorted [(.comp (.var 4) (.tp [(.nm 4), (.nm 5), (.nm 6)]) .seq [(.call 18 [(.var 0), (.var 1), (.var 2), (.var 3)])] [(.var 6)] [4, 5, 6])])]))]
def f_tree_of_pile : Fn := ⟨4, 7, d_tree_of_pile, none, false⟩
def d_pile_of_tree : List St := [(.ite (.not (.call 6 [(.var 0), (.var 2)])) [(.rse 0 [])] []),
  (.set 4 (.comp (.ife (.cmp .ne (.var 5) (.var 1)) (.var 6) (.int 0)) (.tp [(.nm 5), (.nm 6)]) .enm [(.call 8 [(.var 0)])] [] [5, 6])),
  (.loop (.tp [(.nm 7), (.nm 8), (.nm 9)]) .seq [(.call 17 [(.var 0), (.var 1), (.var 2), (.bin .mul (.lst [(.int 0)]) (.idx (.var 0) (.int 0))), (.var 3)])] [(.setI (.var 4) (.var 8) (.bin .sub (.idx (.var 4) (.var 8)) (.int 1)))]),
  (.ret (.bi .tuple [(.var 4)]))]
def f_pile_of_tree : Fn := ⟨4, 10, d_pile_of_tree, none, false⟩
def d_level : List St := [(.ite (.not (.call 12 [(.var 0), (.var 1), (.var 2)])) [(.rse 0 [])] []),
  (.ret (.bin .sub (.bin .add (.bi .sum [(.var 2)]) (.idx (.call 8 [(.var 0)]) (.var 1))) (.bin .fdiv (.bi .sum [(.call 8 [(.var 0)])]) (.int 2))))]
def f_level : Fn := ⟨3, 3, d_level, none, false⟩
def d__law_source : List St := [(.set 1 (.int 11)),
  (.loop (.nm 2) .seq [(.var 0)] [(.set 1 (.bin .mod (.bi .int [(.bin .add (.bin .add (.bin .mul (.var 1) (.int 69069)) (.bin .mul (.var 2) (.int 31))) (.int 5))]) (.int 2147483629)))]),
  (.ret (.dct [(.str "cells"), (.bi .rev [(.comp (.bi .abs [(.var 2)]) (.nm 2) .seq [(.var 0)] [] [2])]), (.str "left"), (.int 1), (.str "mixed"), (.var 1), (.str "turn"), (.int 0)]))]
def f__law_source : Fn := ⟨1, 3, d__law_source, none, false⟩
def d__law_pick : List St := [(.whl (.and [(.cmp .gt (.var 1) (.int 1)), (.cmp .lt (.idx (.var 0) (.str "left")) (.int 2)), (.cmp .gt (.bi .len [(.idx (.var 0) (.str "cells"))]) (.int 0))]) [(.setI (.var 0) (.str "left") (.me .pop (.idx (.var 0) (.str "cells")) []))]),
  (.set 2 (.idx (.var 0) (.str "left"))),
  (.ite (.or [(.cmp .lt (.var 1) (.int 2)), (.cmp .gt (.var 2) (.int 1))]) [(.setI (.var 0) (.str "left") (.bin .fdiv (.var 2) (.bi .max2 [(.int 1), (.var 1)]))), (.ret (.bin .mod (.bi .int [(.var 2)]) (.bi .max2 [(.int 1), (.var 1)])))] []),
  (.setI (.var 0) (.str "turn") (.bin .add (.idx (.var 0) (.str "turn")) (.int 1))),
  (.set 3 (.bin .mod (.bi .int [(.bin .add (.idx (.var 0) (.str "mixed")) (.bin .mul (.idx (.var 0) (.str "turn")) (.int 104729)))]) (.int 998244353))),
  (.set 3 (.bin .mod (.bi .int [(.bin .add (.bin .mul (.var 3) (.var 3)) (.bin .mul (.idx (.var 0) (.str "turn")) (.int 17)))]) (.int 2147483647))),
  (.setI (.var 0) (.str "mixed") (.var 3)),
  (.ret (.bin .mod (.bi .int [(.bin .fdiv (.var 3) (.int 16))]) (.var 1)))]
def f__law_pick : Fn := ⟨2, 4, d__law_pick, none, false⟩
def d__law_of : List St := [(.ret (.idx (.var 1) (.call 24 [(.var 0), (.bi .len [(.var 1)])])))]
def f__law_of : Fn := ⟨2, 2, d__law_of, none, false⟩
def d__law_mixed : List St := [(.set 2 (.bi .list [(.var 1)])),
  (.ret (.comp (.me .pop (.var 2) [(.call 24 [(.var 0), (.bi .len [(.var 2)])])]) (.nm 3) .rng1 [(.bi .len [(.var 2)])] [] [3]))]
def f__law_mixed : Fn := ⟨2, 4, d__law_mixed, none, false⟩
def d__law_other : List St := [(.ret (.bin .sub (.bin .add (.var 0) (.int 1)) (.bin .mul (.int 2) (.bin .mod (.bi .int [(.var 0)]) (.int 2)))))]
def f__law_other : Fn := ⟨1, 1, d__law_other, none, false⟩
def d__law_nexts : List St := [(.set 1 (.bin .mul (.lst [(.int 0)]) (.bin .mul (.int 2) (.bi .len [(.idx (.var 0) (.int 1))])))),
  (.loop (.nm 2) .seq [(.idx (.var 0) (.int 2))] [(.loop (.tp [(.nm 3), (.nm 4)]) .enm [(.var 2)] [(.setI (.var 1) (.idx (.var 2) (.bin .sub (.var 3) (.int 1))) (.var 4))])]),
  (.ret (.var 1))]
def f__law_nexts : Fn := ⟨1, 5, d__law_nexts, none, false⟩
def d__law_spots : List St := [(.set 1 (.lst [])),
  (.loop (.nm 2) .seq [(.idx (.var 0) (.int 1))] [(.set 1 (.bin .add (.var 1) (.lst [(.idx (.var 2) (.int 0)), (.idx (.var 2) (.int 1))])))]),
  (.ret (.var 1))]
def f__law_spots : Fn := ⟨1, 3, d__law_spots, none, false⟩
def d__law_face : List St := [(.setT (.tp [(.nm 2), (.nm 3)]) (.tup [(.call 28 [(.var 0)]), (.lst [])])),
  (.whl (.cmp .notin (.var 1) (.var 3)) [(.ex (.me .append (.var 3) [(.var 1)])), (.set 1 (.idx (.var 2) (.call 27 [(.var 1)])))]),
  (.ret (.var 3))]
def f__law_face : Fn := ⟨2, 4, d__law_face, none, false⟩
def d__law_grown : List St := [(.setT (.tp [(.nm 3), (.nm 4), (.nm 5)]) (.tup [(.idx (.var 1) (.int 0)), (.bi .list [(.idx (.var 1) (.int 1))]), (.comp (.bi .list [(.var 6)]) (.nm 6) .seq [(.idx (.var 1) (.int 2))] [] [6])])),
  (.set 7 (.bi .len [(.var 4)])),
  (.ite (.cmp .eq (.var 7) (.int 0)) [(.ret (.tup [(.var 3), (.tup [(.tup [(.int 0), (.int 0)])]), (.tup [(.tup [(.int 0), (.int 1)])])]))] []),
  (.setT (.tp [(.nm 8), (.nm 9)]) (.tup [(.call 24 [(.var 0), (.bin .mul (.int 2) (.var 7))]), (.call 29 [(.var 1)])])),
  (.set 10 (.ife (.cmp .eq (.var 2) (.int 0)) (.call 30 [(.var 1), (.var 8)]) (.bi .lrng1 [(.bin .mul (.int 2) (.var 7))]))),
  (.set 10 (.ife (.and [(.cmp .eq (.var 2) (.int 2)), (.cmp .gt (.var 3) (.int 1))]) (.comp (.var 11) (.nm 11) .seq [(.var 10)] [(.cmp .ne (.idx (.var 9) (.var 11)) (.idx (.var 9) (.var 8)))] [11]) (.var 10))),
  (.set 12 (.call 25 [(.var 0), (.var 10)])),
  (.ex (.me .append (.var 4) [(.tup [(.idx (.var 9) (.var 8)), (.idx (.var 9) (.var 12))])])),
  (.ex (.me .insert (.idx (.var 5) (.idx (.var 9) (.var 8))) [(.me .index (.idx (.var 5) (.idx (.var 9) (.var 8))) [(.var 8)]), (.bin .mul (.int 2) (.var 7))])),
  (.ex (.me .insert (.idx (.var 5) (.idx (.var 9) (.var 12))) [(.me .index (.idx (.var 5) (.idx (.var 9) (.var 12))) [(.var 12)]), (.bin .add (.bin .mul (.int 2) (.var 7)) (.int 1))])),
  (.ret (.tup [(.var 3), (.bi .tuple [(.var 4)]), (.bi .tuple [(.comp (.bi .tuple [(.var 6)]) (.nm 6) .seq [(.var 5)] [] [6])])]))]
def f__law_grown : Fn := ⟨3, 13, d__law_grown, none, false⟩
def d__law_renamed : List St := [(.setT (.tp [(.nm 2), (.nm 3)]) (.tup [(.idx (.var 1) (.int 0)), (.bi .len [(.idx (.var 1) (.int 1))])])),
  (.setT (.tp [(.nm 4), (.nm 5)]) (.tup [(.call 26 [(.var 0), (.bi .lrng1 [(.var 2)])]), (.call 26 [(.var 0), (.bi .lrng1 [(.var 3)])])])),
  (.setT (.tp [(.nm 6), (.nm 7)]) (.tup [(.dct []), (.bin .mul (.lst [(.tup [])]) (.var 2))])),
  (.loop (.nm 8) .rng1 [(.var 3)] [(.ex (.upd (.var 6) (.dct [(.bin .mul (.int 2) (.var 8)), (.bin .mul (.int 2) (.idx (.var 5) (.var 8))), (.bin .add (.bin .mul (.int 2) (.var 8)) (.int 1)), (.bin .add (.bin .mul (.int 2) (.idx (.var 5) (.var 8))) (.int 1))])))]),
  (.loop (.tp [(.nm 9), (.nm 10)]) .enm [(.idx (.var 1) (.int 2))] [(.set 11 (.ife (.cmp .ne (.var 10) (.tup [])) (.call 24 [(.var 0), (.bi .len [(.var 10)])]) (.int 0))), (.setI (.var 7) (.idx (.var 4) (.var 9)) (.bi .tuple [(.comp (.idx (.var 6) (.var 12)) (.nm 12) .seq [(.bin .add (.slc (.var 10) (some (.var 11)) none) (.slc (.var 10) none (some (.var 11))))] [] [12])]))]),
  (.set 13 (.comp (.tup [(.idx (.var 4) (.idx (.idx (.idx (.var 1) (.int 1)) (.me .index (.var 5) [(.var 8)])) (.int 0))), (.idx (.var 4) (.idx (.idx (.idx (.var 1) (.int 1)) (.me .index (.var 5) [(.var 8)])) (.int 1)))]) (.nm 8) .rng1 [(.var 3)] [] [8])),
  (.ret (.tup [(.var 2), (.bi .tuple [(.var 13)]), (.bi .tuple [(.var 7)])]))]
def f__law_renamed : Fn := ⟨2, 14, d__law_renamed, none, false⟩
def d__law_web : List St := [(.setT (.tp [(.nm 3), (.nm 4)]) (.tup [(.ife (.cmp .eq (.var 3) (.int 3)) (.call 24 [(.var 0), (.int 3)]) (.var 3)), (.tup [(.int 1), (.tup []), (.tup [(.tup [])])])])),
  (.loop (.nm 5) .rng2 [(.int 1), (.var 1)] [(.setT (.tp [(.nm 6), (.nm 7), (.nm 8), (.nm 9)]) (.tup [(.call 24 [(.var 0), (.var 5)]), (.call 24 [(.var 0), (.int 2)]), (.bi .list [(.idx (.var 4) (.int 2))]), (.bi .len [(.idx (.var 4) (.int 1))])])), (.set 10 (.call 24 [(.var 0), (.bin .add (.bi .len [(.idx (.var 8) (.var 6))]) (.int 1))])), (.setI (.var 8) (.var 6) (.bin .add (.bin .add (.slc (.idx (.var 8) (.var 6)) none (some (.var 10))) (.tup [(.bin .add (.bin .mul (.int 2) (.var 9)) (.var 7))])) (.slc (.idx (.var 8) (.var 6)) (some (.var 10)) none))), (.set 11 (.ife (.cmp .eq (.var 7) (.int 0)) (.tup [(.var 6), (.var 5)]) (.tup [(.var 5), (.var 6)]))), (.set 4 (.tup [(.bin .add (.var 5) (.int 1)), (.bin .add (.idx (.var 4) (.int 1)) (.tup [(.var 11)])), (.bi .tuple [(.bin .add (.var 8) (.lst [(.tup [(.bin .sub (.bin .add (.bin .mul (.int 2) (.var 9)) (.int 1)) (.var 7))])]))])]))]),
  (.loop (.nm 12) .rng1 [(.var 2)] [(.set 4 (.call 31 [(.var 0), (.var 4), (.var 3)]))]),
  (.ret (.call 32 [(.var 0), (.var 4)]))]
def f__law_web : Fn := ⟨4, 13, d__law_web, none, false⟩
def d__law_joined : List St := [(.set 2 (.bi .lrng1 [(.idx (.var 0) (.int 0))])),
  (.loop (.nm 3) .seq [(.var 1)] [(.setT (.tp [(.nm 4), (.nm 5)]) (.tup [(.idx (.var 2) (.idx (.idx (.idx (.var 0) (.int 1)) (.var 3)) (.int 0))), (.idx (.var 2) (.idx (.idx (.idx (.var 0) (.int 1)) (.var 3)) (.int 1)))])), (.ite (.cmp .eq (.var 4) (.var 5)) [(.ret .non)] []), (.set 2 (.comp (.ife (.cmp .eq (.var 6) (.var 4)) (.var 5) (.var 6)) (.nm 6) .seq [(.var 2)] [] [6]))]),
  (.ret (.var 2))]
def f__law_joined : Fn := ⟨2, 7, d__law_joined, none, false⟩
def d__law_some_tree : List St := [(.set 2 (.lst [])),
  (.loop (.nm 3) .seq [(.call 26 [(.var 0), (.bi .lrng1 [(.bi .len [(.idx (.var 1) (.int 1))])])])] [(.ite (.cmp .isnt (.call 34 [(.var 1), (.bin .add (.var 2) (.lst [(.var 3)]))]) .non) [(.ex (.me .append (.var 2) [(.var 3)]))] [])]),
  (.ret (.bi .tuple [(.bi .sorted [(.var 2)])]))]
def f__law_some_tree : Fn := ⟨2, 4, d__law_some_tree, none, false⟩
def d__law_is_tree : List St := [(.ite (.or [(.cmp .ne (.bi .len [(.var 1)]) (.bin .sub (.idx (.var 0) (.int 0)) (.int 1))), (.cmp .ne (.sset (.var 1)) (.bi .list [(.var 1)]))]) [(.ret (.bl false))] []),
  (.ret (.and [(.cmp .eq (.comp (.var 2) (.nm 2) .seq [(.var 1)] [(.not (.chn .le .lt (.int 0) (.var 2) (.bi .len [(.idx (.var 0) (.int 1))])))] [2]) (.lst [])), (.cmp .isnt (.call 34 [(.var 0), (.var 1)]) .non)]))]
def f__law_is_tree : Fn := ⟨2, 3, d__law_is_tree, none, false⟩
def d__law_joins : List St := [(.set 1 (.comp (.bin .mul (.lst [(.int 0)]) (.idx (.var 0) (.int 0))) (.nm 2) .rng1 [(.idx (.var 0) (.int 0))] [] [2])),
  (.loop (.tp [(.nm 3), (.nm 4)]) .seq [(.idx (.var 0) (.int 1))] [(.loop (.tp [(.nm 2), (.nm 5)]) .seq [(.ife (.cmp .ne (.var 3) (.var 4)) (.lst [(.tup [(.var 3), (.var 4)]), (.tup [(.var 4), (.var 3)])]) (.lst []))] [(.setI (.idx (.var 1) (.var 2)) (.var 5) (.bin .add (.idx (.idx (.var 1) (.var 2)) (.var 5)) (.int 1)))])]),
  (.ret (.var 1))]
def f__law_joins : Fn := ⟨1, 6, d__law_joins, none, false⟩
def d__law_pile : List St := [(.set 4 (.comp (.bi .sum [(.var 5)]) (.nm 5) .seq [(.call 37 [(.var 1)])] [] [5])),
  (.set 6 (.lst [])),
  (.loop (.tp [(.nm 7), (.nm 8)]) .enm [(.var 4)] [(.set 9 (.lst [(.call 24 [(.var 0), (.bi .max2 [(.int 1), (.var 8)])]), (.bi .max2 [(.int 0), (.bin .sub (.bin .sub (.var 8) (.int 1)) (.call 24 [(.var 0), (.int 2)]))]), (.call 24 [(.var 0), (.int 9)])])), (.set 9 (.idx (.var 9) (.bi .min2 [(.var 3), (.int 2)]))), (.ex (.me .append (.var 6) [(.ife (.cmp .eq (.var 7) (.var 2)) (.int 0) (.ife (.cmp .lt (.var 3) (.int 3)) (.var 9) (.call 24 [(.var 0), (.bin .add (.bin .pow (.int 10) (.int 6)) (.int 1))])))]))]),
  (.ret (.bi .tuple [(.var 6)]))]
def f__law_pile : Fn := ⟨4, 10, d__law_pile, none, false⟩
def d__law_burnt : List St := [(.setT (.tp [(.nm 3), (.nm 4), (.nm 5)]) (.tup [(.call 37 [(.var 0)]), (.lst [(.var 1)]), (.lst [(.var 1)])])),
  (.whl (.cmp .ne (.var 5) (.lst [])) [(.set 6 (.comp (.var 7) (.nm 7) .rng1 [(.idx (.var 0) (.int 0))] [(.cmp .notin (.var 7) (.var 4))] [7])), (.set 5 (.comp (.var 7) (.nm 7) .seq [(.var 6)] [(.cmp .ge (.bin .add (.idx (.var 2) (.var 7)) (.bi .sum [(.comp (.idx (.idx (.var 3) (.var 7)) (.var 8)) (.nm 8) .seq [(.var 4)] [] [8])])) (.bi .sum [(.idx (.var 3) (.var 7))]))] [7])), (.set 4 (.bin .add (.var 4) (.var 5)))]),
  (.ret (.var 4))]
def f__law_burnt : Fn := ⟨3, 9, d__law_burnt, none, false⟩
def d__law_is_steady : List St := [(.set 3 (.call 37 [(.var 0)])),
  (.ret (.cmp .eq (.comp (.var 4) (.nm 4) .rng1 [(.idx (.var 0) (.int 0))] [(.and [(.cmp .ne (.var 4) (.var 1)), (.cmp .ge (.idx (.var 2) (.var 4)) (.bi .sum [(.idx (.var 3) (.var 4))]))])] [4]) (.lst [])))]
def f__law_is_steady : Fn := ⟨3, 5, d__law_is_steady, none, false⟩
def d__law_comes : List St := [(.ret (.and [(.call 40 [(.var 0), (.var 1), (.var 2)]), (.cmp .eq (.bi .len [(.call 39 [(.var 0), (.var 1), (.var 2)])]) (.idx (.var 0) (.int 0)))]))]
def f__law_comes : Fn := ⟨3, 3, d__law_comes, none, false⟩
def d__law_by_numbers : List St := [(.setT (.tp [(.nm 3), (.nm 4), (.nm 5)]) (.tup [(.lst [(.var 1)]), (.lst []), (.bin .mul (.lst [(.int 0)]) (.idx (.var 0) (.int 0)))])),
  (.set 6 (.comp (.var 7) (.tp [(.nm 7), (.nm 8)]) .enm [(.idx (.var 0) (.int 1))] [(.cmp .ne (.cmp .isin (.idx (.var 8) (.int 0)) (.var 3)) (.cmp .isin (.idx (.var 8) (.int 1)) (.var 3)))] [7, 8])),
  (.whl (.cmp .ne (.var 6) (.lst [])) [(.set 9 (.idx (.var 6) (.int 0))), (.set 10 (.idx (.comp (.var 11) (.nm 11) .seq [(.idx (.idx (.var 0) (.int 1)) (.var 9))] [(.cmp .notin (.var 11) (.var 3))] [11]) (.int 0))), (.setI (.var 5) (.var 10) (.bin .add (.idx (.var 5) (.var 10)) (.int 1))), (.set 12 (.callv 2 [(.var 9), (.var 10), (.idx (.var 5) (.var 10))])), (.ex (.me .append (.var 4) [(.tup [(.var 9), (.ife (.var 12) (.var 10) .non)])])), (.set 3 (.ife (.var 12) (.bin .add (.var 3) (.lst [(.var 10)])) (.var 3))), (.set 13 (.comp (.var 14) (.tp [(.nm 14), (.nm 11)]) .seq [(.var 4)] [] [14, 11])), (.set 6 (.comp (.var 7) (.tp [(.nm 7), (.nm 8)]) .enm [(.idx (.var 0) (.int 1))] [(.and [(.cmp .notin (.var 7) (.var 13)), (.cmp .ne (.cmp .isin (.idx (.var 8) (.int 0)) (.var 3)) (.cmp .isin (.idx (.var 8) (.int 1)) (.var 3)))])] [7, 8]))]),
  (.ret (.tup [(.var 4), (.var 5)]))]
def f__law_by_numbers : Fn := ⟨3, 15, d__law_by_numbers, none, true⟩
def d__law_lights : List St := [(.set 2 (.comp (.bi .sum [(.var 3)]) (.nm 3) .seq [(.call 37 [(.var 0)])] [] [3]))]
def f__law_lights : Fn := ⟨2, 4, d__law_lights, (some (3, [2, 1], (.cmp .eq (.var 2) (.bin .sub (.idx (.var 3) (.var 1)) (.idx (.var 4) (.var 1)))))), false⟩
def d__law_is_refused : List St := [(.tryR (.callv 0 []) false [0] (.bl true)),
  (.ret (.bl false))]
def f__law_is_refused : Fn := ⟨1, 1, d__law_is_refused, none, true⟩
def d__law_pile_right : List St := [(.ite (.not (.call 41 [(.var 0), (.var 1), (.var 2)])) [(.ite (.not (.callC 44 [] 0 [0, 1, 2] (.call 20 [(.var 0), (.var 1), (.var 2), (.str "numbers")]))) [(.ret (.bl false))] []), (.ite (.not (.callC 44 [] 0 [0, 1, 2] (.call 22 [(.var 0), (.var 1), (.var 2)]))) [(.ret (.bl false))] []), (.ret (.callC 44 [] 0 [0, 1, 2] (.call 19 [(.var 0), (.var 1), (.var 2), (.str "numbers")])))] []),
  (.set 3 (.idx (.callM 42 [(.var 0), (.var 1)] 43 [(.var 0), (.var 2)]) (.int 0))),
  (.set 4 (.bi .tuple [(.bi .sorted [(.comp (.var 5) (.tp [(.nm 5), (.nm 6)]) .seq [(.var 3)] [(.cmp .isnt (.var 6) .non)] [5, 6])])])),
  (.loop (.nm 7) .rng1 [(.int 2)] [(.set 8 (.call 19 [(.var 0), (.var 1), (.var 2), (.str "numbers")])), (.ite (.or [(.not (.bi (.isinst 4) [(.var 8)])), (.cmp .ne (.bi .repr [(.var 8)]) (.bi .repr [(.var 3)]))]) [(.ret (.bl false))] []), (.ex (.me .append (.var 8) [.non]))]),
  (.set 9 (.comp (.var 10) (.tp [(.nm 10), (.nm 11)]) .enm [(.idx (.var 0) (.int 1))] [(.cmp .ne (.idx (.var 11) (.int 0)) (.idx (.var 11) (.int 1)))] [10, 11])),
  (.ite (.cmp .ne (.bi .repr [(.call 22 [(.var 0), (.var 1), (.var 2)])]) (.bi .repr [(.bin .sub (.bi .len [(.var 9)]) (.bi .len [(.var 3)]))])) [(.ret (.bl false))] []),
  (.set 12 (.lst [(.call 20 [(.var 0), (.var 1), (.var 2), (.str "numbers")]), (.call 21 [(.var 0), (.var 1), (.var 4), (.str "numbers")])])),
  (.ret (.cmp .eq (.bi .repr [(.var 12)]) (.bi .repr [(.lst [(.var 4), (.var 2)])])))]
def f__law_pile_right : Fn := ⟨3, 13, d__law_pile_right, none, false⟩
def d_law : List St := [(.set 1 (.call 23 [(.var 0)])),
  (.loop (.nm 2) .rng1 [(.int 4)] [(.set 3 (.bin .add (.int 1) (.call 24 [(.var 1), (.idx (.lst [(.int 3), (.int 4), (.int 6), (.int 8)]) (.var 2))]))), (.set 4 (.call 33 [(.var 1), (.var 3), (.call 24 [(.var 1), (.idx (.lst [(.int 4), (.int 5), (.int 6), (.int 8)]) (.var 2))]), (.int 3)])), (.setT (.tp [(.nm 5), (.nm 6), (.nm 7)]) (.tup [(.call 24 [(.var 1), (.idx (.var 4) (.int 0))]), (.comp (.bi .sum [(.var 8)]) (.nm 8) .seq [(.call 37 [(.var 4)])] [] [8]), (.bi .repr [(.var 4)])])), (.loop (.nm 9) .rng1 [(.int 4)] [(.set 10 (.call 35 [(.var 1), (.var 4)])), (.setT (.tp [(.nm 11), (.nm 12)]) (.callC 42 [(.var 4), (.var 5)] 3 [10] (.cmp .isin (.var 0) (.var 3)))), (.set 13 (.bi .tuple [(.comp (.ife (.cmp .eq (.var 14) (.var 5)) (.int 0) (.bin .sub (.idx (.var 6) (.var 14)) (.idx (.var 12) (.var 14)))) (.nm 14) .rng1 [(.idx (.var 4) (.int 0))] [] [14])])), (.ite (.or [(.not (.call 41 [(.var 4), (.var 5), (.var 13)])), (.cmp .ne (.idx (.callM 42 [(.var 4), (.var 5)] 43 [(.var 4), (.var 13)]) (.int 0)) (.var 11))]) [(.ret (.bl false))] []), (.ite (.or [(.cmp .ne (.bi .repr [(.call 21 [(.var 4), (.var 5), (.var 10), (.str "numbers")])]) (.bi .repr [(.var 13)])), (.not (.call 45 [(.var 4), (.var 5), (.var 13)]))]) [(.ret (.bl false))] []), (.ite (.not (.call 45 [(.var 4), (.var 5), (.call 38 [(.var 1), (.var 4), (.var 5), (.call 24 [(.var 1), (.int 3)])])])) [(.ret (.bl false))] []), (.set 15 (.lst [(.bin .add (.var 10) (.tup [(.int 0)])), (.bin .add (.slc (.var 10) (some (.int 1)) none) (.slc (.var 10) none (some (.int 1)))), (.bin .mul (.tup [(.bi .len [(.idx (.var 4) (.int 1))])]) (.bin .sub (.idx (.var 4) (.int 0)) (.int 1))), (.slc (.var 10) none (some (.neg (.int 1)))), (.bin .mul (.tup [(.int 0)]) (.bin .sub (.idx (.var 4) (.int 0)) (.int 1)))])), (.set 15 (.call 25 [(.var 1), (.bin .add (.var 15) (.lst [(.bin .add (.tup [(.neg (.int 1))]) (.slc (.var 10) (some (.int 1)) none))]))])), (.ite (.and [(.not (.call 36 [(.var 4), (.var 15)])), (.not (.callC 44 [] 0 [4, 5, 15] (.call 21 [(.var 0), (.var 1), (.var 2), (.str "numbers")])))]) [(.ret (.bl false))] [])]), (.ite (.cmp .ne (.bi .repr [(.var 4)]) (.var 7)) [(.ret (.bl false))] [])]),
  (.ret (.bl true))]
def f_law : Fn := ⟨1, 16, d_law, none, false⟩
def tb : List Fn := [f_begun, f_ends_at, f_is_integer, f_is_below, f_is_tuple, f_wrong_tree, f_is_tree, f_joins, f_outs, f_is_steady, f_roads_to, f_burnt, f_comes_again, f_tries_by_numbers, f_is_lighting, f_ends_behind, f_tries_by_turns, f_tries, f_tries_of_pile, f_tried_roads, f_tree_of_pile, f_pile_of_tree, f_level, f__law_source, f__law_pick, f__law_of, f__law_mixed, f__law_other, f__law_nexts, f__law_spots, f__law_face, f__law_grown, f__law_renamed, f__law_web, f__law_joined, f__law_some_tree, f__law_is_tree, f__law_joins, f__law_pile, f__law_burnt, f__law_is_steady, f__law_comes, f__law_by_numbers, f__law_lights, f__law_is_refused, f__law_pile_right, f_law]
abbrev n_begun : Nat := 0
abbrev n_ends_at : Nat := 1
abbrev n_is_integer : Nat := 2
abbrev n_is_below : Nat := 3
abbrev n_is_tuple : Nat := 4
abbrev n_wrong_tree : Nat := 5
abbrev n_is_tree : Nat := 6
abbrev n_joins : Nat := 7
abbrev n_outs : Nat := 8
abbrev n_is_steady : Nat := 9
abbrev n_roads_to : Nat := 10
abbrev n_burnt : Nat := 11
abbrev n_comes_again : Nat := 12
abbrev n_tries_by_numbers : Nat := 13
abbrev n_is_lighting : Nat := 14
abbrev n_ends_behind : Nat := 15
abbrev n_tries_by_turns : Nat := 16
abbrev n_tries : Nat := 17
abbrev n_tries_of_pile : Nat := 18
abbrev n_tried_roads : Nat := 19
abbrev n_tree_of_pile : Nat := 20
abbrev n_pile_of_tree : Nat := 21
abbrev n_level : Nat := 22
abbrev n__law_source : Nat := 23
abbrev n__law_pick : Nat := 24
abbrev n__law_of : Nat := 25
abbrev n__law_mixed : Nat := 26
abbrev n__law_other : Nat := 27
abbrev n__law_nexts : Nat := 28
abbrev n__law_spots : Nat := 29
abbrev n__law_face : Nat := 30
abbrev n__law_grown : Nat := 31
abbrev n__law_renamed : Nat := 32
abbrev n__law_web : Nat := 33
abbrev n__law_joined : Nat := 34
abbrev n__law_some_tree : Nat := 35
abbrev n__law_is_tree : Nat := 36
abbrev n__law_joins : Nat := 37
abbrev n__law_pile : Nat := 38
abbrev n__law_burnt : Nat := 39
abbrev n__law_is_steady : Nat := 40
abbrev n__law_comes : Nat := 41
abbrev n__law_by_numbers : Nat := 42
abbrev n__law_lights : Nat := 43
abbrev n__law_is_refused : Nat := 44
abbrev n__law_pile_right : Nat := 45
abbrev n_law : Nat := 46
end Ik80
namespace Ik80
open PySem TL L2
def topS (i : Nat) : Stmt := PySem.Challenge.pw_treelattice_k80_whole_trees_by_numbers.main.body.getD i (.Pass ⟨0, 0, 0, 0⟩)
abbrev TT : List Str := [("begun" : Str), ("ends_at" : Str), ("is_integer" : Str), ("is_below" : Str), ("is_tuple" : Str), ("wrong_tree" : Str), ("is_tree" : Str), ("joins" : Str), ("outs" : Str), ("is_steady" : Str), ("roads_to" : Str), ("burnt" : Str), ("comes_again" : Str), ("tries_by_numbers" : Str), ("is_lighting" : Str), ("ends_behind" : Str), ("tries_by_turns" : Str), ("tries" : Str), ("tries_of_pile" : Str), ("tried_roads" : Str), ("tree_of_pile" : Str), ("pile_of_tree" : Str), ("level" : Str), ("_law_source" : Str), ("_law_pick" : Str), ("_law_of" : Str), ("_law_mixed" : Str), ("_law_other" : Str), ("_law_nexts" : Str), ("_law_spots" : Str), ("_law_face" : Str), ("_law_grown" : Str), ("_law_renamed" : Str), ("_law_web" : Str), ("_law_joined" : Str), ("_law_some_tree" : Str), ("_law_is_tree" : Str), ("_law_joins" : Str), ("_law_pile" : Str), ("_law_burnt" : Str), ("_law_is_steady" : Str), ("_law_comes" : Str), ("_law_by_numbers" : Str), ("_law_lights" : Str), ("_law_is_refused" : Str), ("_law_pile_right" : Str), ("law" : Str)]
abbrev CN : List Str := [("NotOfIt" : Str)]
abbrev MK : List Str := [("_law_lights" : Str), ("_law_pile_right" : Str), ("law" : Str)]
abbrev s_begun : Stmt := topS 4
theorem sc_begun : FnScope [("turn" : Str), ("k" : Str)] [("turn" : Str)] (defScope s_begun) := ⟨rfl, rfl, rfl, by decide +kernel, rfl, by decide +kernel, by decide +kernel⟩
theorem mb_begun : bodyM [("turn" : Str), ("k" : Str)] TT f_begun.clo false (rsX CN) (tyX CN) f_begun (defScope s_begun) (defBody s_begun) = true := by decide +kernel
abbrev s_ends_at : Stmt := topS 5
theorem sc_ends_at : FnScope [("web" : Str), ("crossing" : Str)] [("web" : Str), ("crossing" : Str)] (defScope s_ends_at) := ⟨rfl, rfl, rfl, by decide +kernel, rfl, by decide +kernel, by decide +kernel⟩
theorem mb_ends_at : bodyM [("web" : Str), ("crossing" : Str)] TT f_ends_at.clo false (rsX CN) (tyX CN) f_ends_at (defScope s_ends_at) (defBody s_ends_at) = true := by decide +kernel
abbrev s_is_integer : Stmt := topS 7
theorem sc_is_integer : FnScope [("value" : Str)] [("value" : Str)] (defScope s_is_integer) := ⟨rfl, rfl, rfl, by decide +kernel, rfl, by decide +kernel, by decide +kernel⟩
theorem mb_is_integer : bodyM [("value" : Str)] TT f_is_integer.clo false (rsX CN) (tyX CN) f_is_integer (defScope s_is_integer) (defBody s_is_integer) = true := by decide +kernel
abbrev s_is_below : Stmt := topS 8
theorem sc_is_below : FnScope [("value" : Str), ("many" : Str)] [("value" : Str), ("many" : Str)] (defScope s_is_below) := ⟨rfl, rfl, rfl, by decide +kernel, rfl, by decide +kernel, by decide +kernel⟩
theorem mb_is_below : bodyM [("value" : Str), ("many" : Str)] TT f_is_below.clo false (rsX CN) (tyX CN) f_is_below (defScope s_is_below) (defBody s_is_below) = true := by decide +kernel
abbrev s_is_tuple : Stmt := topS 9
theorem sc_is_tuple : FnScope [("value" : Str), ("many" : Str)] [("value" : Str), ("many" : Str)] (defScope s_is_tuple) := ⟨rfl, rfl, rfl, by decide +kernel, rfl, by decide +kernel, by decide +kernel⟩
theorem mb_is_tuple : bodyM [("value" : Str), ("many" : Str)] TT f_is_tuple.clo false (rsX CN) (tyX CN) f_is_tuple (defScope s_is_tuple) (defBody s_is_tuple) = true := by decide +kernel
abbrev s_wrong_tree : Stmt := topS 10
theorem sc_wrong_tree : FnScope [("web" : Str), ("value" : Str), ("lots" : Str), ("k" : Str), ("road" : Str), ("one" : Str), ("other" : Str), ("crossing" : Str), ("lot" : Str)] [("web" : Str), ("value" : Str)] (defScope s_wrong_tree) := ⟨rfl, rfl, rfl, by decide +kernel, rfl, by decide +kernel, by decide +kernel⟩
theorem mb_wrong_tree : bodyM [("web" : Str), ("value" : Str), ("lots" : Str), ("k" : Str), ("road" : Str), ("one" : Str), ("other" : Str), ("crossing" : Str), ("lot" : Str)] TT f_wrong_tree.clo false (rsX CN) (tyX CN) f_wrong_tree (defScope s_wrong_tree) (defBody s_wrong_tree) = true := by decide +kernel
abbrev s_is_tree : Stmt := topS 12
theorem sc_is_tree : FnScope [("web" : Str), ("value" : Str)] [("web" : Str), ("value" : Str)] (defScope s_is_tree) := ⟨rfl, rfl, rfl, by decide +kernel, rfl, by decide +kernel, by decide +kernel⟩
theorem mb_is_tree : bodyM [("web" : Str), ("value" : Str)] TT f_is_tree.clo false (rsX CN) (tyX CN) f_is_tree (defScope s_is_tree) (defBody s_is_tree) = true := by decide +kernel
abbrev s_joins : Stmt := topS 14
theorem sc_joins : FnScope [("web" : Str), ("table" : Str), ("v" : Str), ("one" : Str), ("other" : Str)] [("web" : Str)] (defScope s_joins) := ⟨rfl, rfl, rfl, by decide +kernel, rfl, by decide +kernel, by decide +kernel⟩
theorem mb_joins : bodyM [("web" : Str), ("table" : Str), ("v" : Str), ("one" : Str), ("other" : Str)] TT f_joins.clo false (rsX CN) (tyX CN) f_joins (defScope s_joins) (defBody s_joins) = true := by decide +kernel
abbrev s_outs : Stmt := topS 15
theorem sc_outs : FnScope [("web" : Str), ("row" : Str)] [("web" : Str)] (defScope s_outs) := ⟨rfl, rfl, rfl, by decide +kernel, rfl, by decide +kernel, by decide +kernel⟩
theorem mb_outs : bodyM [("web" : Str), ("row" : Str)] TT f_outs.clo false (rsX CN) (tyX CN) f_outs (defScope s_outs) (defBody s_outs) = true := by decide +kernel
abbrev s_is_steady : Stmt := topS 16
theorem sc_is_steady : FnScope [("web" : Str), ("home" : Str), ("pile" : Str), ("out" : Str), ("v" : Str)] [("web" : Str), ("home" : Str), ("pile" : Str)] (defScope s_is_steady) := ⟨rfl, rfl, rfl, by decide +kernel, rfl, by decide +kernel, by decide +kernel⟩
theorem mb_is_steady : bodyM [("web" : Str), ("home" : Str), ("pile" : Str), ("out" : Str), ("v" : Str)] TT f_is_steady.clo false (rsX CN) (tyX CN) f_is_steady (defScope s_is_steady) (defBody s_is_steady) = true := by decide +kernel
abbrev s_roads_to : Stmt := topS 18
theorem sc_roads_to : FnScope [("row" : Str), ("some" : Str), ("u" : Str)] [("row" : Str), ("some" : Str)] (defScope s_roads_to) := ⟨rfl, rfl, rfl, by decide +kernel, rfl, by decide +kernel, by decide +kernel⟩
theorem mb_roads_to : bodyM [("row" : Str), ("some" : Str), ("u" : Str)] TT f_roads_to.clo false (rsX CN) (tyX CN) f_roads_to (defScope s_roads_to) (defBody s_roads_to) = true := by decide +kernel
abbrev s_burnt : Stmt := topS 19
theorem sc_burnt : FnScope [("web" : Str), ("home" : Str), ("pile" : Str), ("table" : Str), ("out" : Str), ("found" : Str), ("late" : Str), ("rest" : Str), ("v" : Str)] [("web" : Str), ("home" : Str), ("pile" : Str)] (defScope s_burnt) := ⟨rfl, rfl, rfl, by decide +kernel, rfl, by decide +kernel, by decide +kernel⟩
theorem mb_burnt : bodyM [("web" : Str), ("home" : Str), ("pile" : Str), ("table" : Str), ("out" : Str), ("found" : Str), ("late" : Str), ("rest" : Str), ("v" : Str)] TT f_burnt.clo false (rsX CN) (tyX CN) f_burnt (defScope s_burnt) (defBody s_burnt) = true := by decide +kernel
abbrev s_comes_again : Stmt := topS 20
theorem sc_comes_again : FnScope [("web" : Str), ("home" : Str), ("pile" : Str)] [("web" : Str), ("home" : Str), ("pile" : Str)] (defScope s_comes_again) := ⟨rfl, rfl, rfl, by decide +kernel, rfl, by decide +kernel, by decide +kernel⟩
theorem mb_comes_again : bodyM [("web" : Str), ("home" : Str), ("pile" : Str)] TT f_comes_again.clo false (rsX CN) (tyX CN) f_comes_again (defScope s_comes_again) (defBody s_comes_again) = true := by decide +kernel
abbrev s_tries_by_numbers : Stmt := topS 22
theorem sc_tries_by_numbers : FnScope [("web" : Str), ("home" : Str), ("tree" : Str), ("left" : Str), ("lit" : Str), ("tried" : Str), ("found" : Str), ("rest" : Str), ("some" : Str), ("r" : Str), ("a" : Str), ("b" : Str), ("one" : Str), ("other" : Str), ("crossing" : Str)] [("web" : Str), ("home" : Str), ("tree" : Str), ("left" : Str)] (defScope s_tries_by_numbers) := ⟨rfl, rfl, rfl, by decide +kernel, rfl, by decide +kernel, by decide +kernel⟩
theorem mb_tries_by_numbers : bodyM [("web" : Str), ("home" : Str), ("tree" : Str), ("left" : Str), ("lit" : Str), ("tried" : Str), ("found" : Str), ("rest" : Str), ("some" : Str), ("r" : Str), ("a" : Str), ("b" : Str), ("one" : Str), ("other" : Str), ("crossing" : Str)] TT f_tries_by_numbers.clo false (rsX CN) (tyX CN) f_tries_by_numbers (defScope s_tries_by_numbers) (defBody s_tries_by_numbers) = true := by decide +kernel
abbrev s_is_lighting : Stmt := topS 23
theorem sc_is_lighting : FnScope [("road" : Str), ("crossing" : Str), ("tree" : Str), ("rest" : Str)] [("road" : Str), ("crossing" : Str), ("tree" : Str), ("rest" : Str)] (defScope s_is_lighting) := ⟨rfl, rfl, rfl, by decide +kernel, rfl, by decide +kernel, by decide +kernel⟩
theorem mb_is_lighting : bodyM [("road" : Str), ("crossing" : Str), ("tree" : Str), ("rest" : Str)] TT f_is_lighting.clo false (rsX CN) (tyX CN) f_is_lighting (defScope s_is_lighting) (defBody s_is_lighting) = true := by decide +kernel
abbrev s_ends_behind : Stmt := topS 24
theorem sc_ends_behind : FnScope [("web" : Str), ("end" : Str), ("turn" : Str), ("k" : Str)] [("web" : Str), ("end" : Str)] (defScope s_ends_behind) := ⟨rfl, rfl, rfl, by decide +kernel, rfl, by decide +kernel, by decide +kernel⟩
theorem mb_ends_behind : bodyM [("web" : Str), ("end" : Str), ("turn" : Str), ("k" : Str)] TT f_ends_behind.clo false (rsX CN) (tyX CN) f_ends_behind (defScope s_ends_behind) (defBody s_ends_behind) = true := by decide +kernel
abbrev s_tries_by_turns : Stmt := topS 25
theorem sc_tries_by_turns : FnScope [("web" : Str), ("home" : Str), ("tree" : Str), ("left" : Str), ("lit" : Str), ("tried" : Str), ("found" : Str), ("rest" : Str), ("row" : Str), ("end" : Str), ("road" : Str), ("crossing" : Str)] [("web" : Str), ("home" : Str), ("tree" : Str), ("left" : Str)] (defScope s_tries_by_turns) := ⟨rfl, rfl, rfl, by decide +kernel, rfl, by decide +kernel, by decide +kernel⟩
theorem mb_tries_by_turns : bodyM [("web" : Str), ("home" : Str), ("tree" : Str), ("left" : Str), ("lit" : Str), ("tried" : Str), ("found" : Str), ("rest" : Str), ("row" : Str), ("end" : Str), ("road" : Str), ("crossing" : Str)] TT f_tries_by_turns.clo false (rsX CN) (tyX CN) f_tries_by_turns (defScope s_tries_by_turns) (defBody s_tries_by_turns) = true := by decide +kernel
abbrev s_tries : Stmt := topS 26
theorem sc_tries : FnScope [("web" : Str), ("home" : Str), ("tree" : Str), ("left" : Str), ("rule" : Str)] [("web" : Str), ("home" : Str), ("tree" : Str), ("left" : Str), ("rule" : Str)] (defScope s_tries) := ⟨rfl, rfl, rfl, by decide +kernel, rfl, by decide +kernel, by decide +kernel⟩
theorem mb_tries : bodyM [("web" : Str), ("home" : Str), ("tree" : Str), ("left" : Str), ("rule" : Str)] TT f_tries.clo false (rsX CN) (tyX CN) f_tries (defScope s_tries) (defBody s_tries) = true := by decide +kernel
abbrev s_tries_of_pile : Stmt := topS 27
theorem sc_tries_of_pile : FnScope [("web" : Str), ("home" : Str), ("pile" : Str), ("rule" : Str), ("out" : Str), ("number" : Str)] [("web" : Str), ("home" : Str), ("pile" : Str), ("rule" : Str)] (defScope s_tries_of_pile) := ⟨rfl, rfl, rfl, by decide +kernel, rfl, by decide +kernel, by decide +kernel⟩
theorem mb_tries_of_pile : bodyM [("web" : Str), ("home" : Str), ("pile" : Str), ("rule" : Str), ("out" : Str), ("number" : Str)] TT f_tries_of_pile.clo false (rsX CN) (tyX CN) f_tries_of_pile (defScope s_tries_of_pile) (defBody s_tries_of_pile) = true := by decide +kernel
abbrev s_tried_roads : Stmt := topS 28
theorem sc_tried_roads : FnScope [("web" : Str), ("home" : Str), ("pile" : Str), ("rule" : Str), ("road" : Str), ("crossing" : Str), ("is_lit" : Str)] [("web" : Str), ("home" : Str), ("pile" : Str), ("rule" : Str)] (defScope s_tried_roads) := ⟨rfl, rfl, rfl, by decide +kernel, rfl, by decide +kernel, by decide +kernel⟩
theorem mb_tried_roads : bodyM [("web" : Str), ("home" : Str), ("pile" : Str), ("rule" : Str), ("road" : Str), ("crossing" : Str), ("is_lit" : Str)] TT f_tried_roads.clo false (rsX CN) (tyX CN) f_tried_roads (defScope s_tried_roads) (defBody s_tried_roads) = true := by decide +kernel
abbrev s_tree_of_pile : Stmt := topS 29
theorem sc_tree_of_pile : FnScope [("web" : Str), ("home" : Str), ("pile" : Str), ("rule" : Str), ("road" : Str), ("crossing" : Str), ("is_lit" : Str)] [("web" : Str), ("home" : Str), ("pile" : Str), ("rule" : Str)] (defScope s_tree_of_pile) := ⟨rfl, rfl, rfl, by decide +kernel, rfl, by decide +kernel, by decide +kernel⟩
theorem mb_tree_of_pile : bodyM [("web" : Str), ("home" : Str), ("pile" : Str), ("rule" : Str), ("road" : Str), ("crossing" : Str), ("is_lit" : Str)] TT f_tree_of_pile.clo false (rsX CN) (tyX CN) f_tree_of_pile (defScope s_tree_of_pile) (defBody s_tree_of_pile) = true := by decide +kernel
abbrev s_pile_of_tree : Stmt := topS 30
theorem sc_pile_of_tree : FnScope [("web" : Str), ("home" : Str), ("tree" : Str), ("rule" : Str), ("found" : Str), ("v" : Str), ("out" : Str), ("_road" : Str), ("crossing" : Str), ("_is_lit" : Str)] [("web" : Str), ("home" : Str), ("tree" : Str), ("rule" : Str)] (defScope s_pile_of_tree) := ⟨rfl, rfl, rfl, by decide +kernel, rfl, by decide +kernel, by decide +kernel⟩
theorem mb_pile_of_tree : bodyM [("web" : Str), ("home" : Str), ("tree" : Str), ("rule" : Str), ("found" : Str), ("v" : Str), ("out" : Str), ("_road" : Str), ("crossing" : Str), ("_is_lit" : Str)] TT f_pile_of_tree.clo false (rsX CN) (tyX CN) f_pile_of_tree (defScope s_pile_of_tree) (defBody s_pile_of_tree) = true := by decide +kernel
abbrev s_level : Stmt := topS 31
theorem sc_level : FnScope [("web" : Str), ("home" : Str), ("pile" : Str)] [("web" : Str), ("home" : Str), ("pile" : Str)] (defScope s_level) := ⟨rfl, rfl, rfl, by decide +kernel, rfl, by decide +kernel, by decide +kernel⟩
theorem mb_level : bodyM [("web" : Str), ("home" : Str), ("pile" : Str)] TT f_level.clo false (rsX CN) (tyX CN) f_level (defScope s_level) (defBody s_level) = true := by decide +kernel
abbrev s__law_source : Stmt := topS 33
theorem sc__law_source : FnScope [("script" : Str), ("mixed" : Str), ("cell" : Str)] [("script" : Str)] (defScope s__law_source) := ⟨rfl, rfl, rfl, by decide +kernel, rfl, by decide +kernel, by decide +kernel⟩
theorem mb__law_source : bodyM [("script" : Str), ("mixed" : Str), ("cell" : Str)] TT f__law_source.clo false (rsX CN) (tyX CN) f__law_source (defScope s__law_source) (defBody s__law_source) = true := by decide +kernel
abbrev s__law_pick : Stmt := topS 34
theorem sc__law_pick : FnScope [("source" : Str), ("many" : Str), ("left" : Str), ("mixed" : Str)] [("source" : Str), ("many" : Str)] (defScope s__law_pick) := ⟨rfl, rfl, rfl, by decide +kernel, rfl, by decide +kernel, by decide +kernel⟩
theorem mb__law_pick : bodyM [("source" : Str), ("many" : Str), ("left" : Str), ("mixed" : Str)] TT f__law_pick.clo false (rsX CN) (tyX CN) f__law_pick (defScope s__law_pick) (defBody s__law_pick) = true := by decide +kernel
abbrev s__law_of : Stmt := topS 35
theorem sc__law_of : FnScope [("source" : Str), ("some" : Str)] [("source" : Str), ("some" : Str)] (defScope s__law_of) := ⟨rfl, rfl, rfl, by decide +kernel, rfl, by decide +kernel, by decide +kernel⟩
theorem mb__law_of : bodyM [("source" : Str), ("some" : Str)] TT f__law_of.clo false (rsX CN) (tyX CN) f__law_of (defScope s__law_of) (defBody s__law_of) = true := by decide +kernel
abbrev s__law_mixed : Stmt := topS 36
theorem sc__law_mixed : FnScope [("source" : Str), ("things" : Str), ("rest" : Str), ("lap" : Str)] [("source" : Str), ("things" : Str)] (defScope s__law_mixed) := ⟨rfl, rfl, rfl, by decide +kernel, rfl, by decide +kernel, by decide +kernel⟩
theorem mb__law_mixed : bodyM [("source" : Str), ("things" : Str), ("rest" : Str), ("lap" : Str)] TT f__law_mixed.clo false (rsX CN) (tyX CN) f__law_mixed (defScope s__law_mixed) (defBody s__law_mixed) = true := by decide +kernel
abbrev s__law_other : Stmt := topS 37
theorem sc__law_other : FnScope [("end" : Str)] [("end" : Str)] (defScope s__law_other) := ⟨rfl, rfl, rfl, by decide +kernel, rfl, by decide +kernel, by decide +kernel⟩
theorem mb__law_other : bodyM [("end" : Str)] TT f__law_other.clo false (rsX CN) (tyX CN) f__law_other (defScope s__law_other) (defBody s__law_other) = true := by decide +kernel
abbrev s__law_nexts : Stmt := topS 38
theorem sc__law_nexts : FnScope [("web" : Str), ("found" : Str), ("turn" : Str), ("k" : Str), ("end" : Str)] [("web" : Str)] (defScope s__law_nexts) := ⟨rfl, rfl, rfl, by decide +kernel, rfl, by decide +kernel, by decide +kernel⟩
theorem mb__law_nexts : bodyM [("web" : Str), ("found" : Str), ("turn" : Str), ("k" : Str), ("end" : Str)] TT f__law_nexts.clo false (rsX CN) (tyX CN) f__law_nexts (defScope s__law_nexts) (defBody s__law_nexts) = true := by decide +kernel
abbrev s__law_spots : Stmt := topS 39
theorem sc__law_spots : FnScope [("web" : Str), ("found" : Str), ("pair" : Str)] [("web" : Str)] (defScope s__law_spots) := ⟨rfl, rfl, rfl, by decide +kernel, rfl, by decide +kernel, by decide +kernel⟩
theorem mb__law_spots : bodyM [("web" : Str), ("found" : Str), ("pair" : Str)] TT f__law_spots.clo false (rsX CN) (tyX CN) f__law_spots (defScope s__law_spots) (defBody s__law_spots) = true := by decide +kernel
abbrev s__law_face : Stmt := topS 40
theorem sc__law_face : FnScope [("web" : Str), ("end" : Str), ("nexts" : Str), ("found" : Str)] [("web" : Str), ("end" : Str)] (defScope s__law_face) := ⟨rfl, rfl, rfl, by decide +kernel, rfl, by decide +kernel, by decide +kernel⟩
theorem mb__law_face : bodyM [("web" : Str), ("end" : Str), ("nexts" : Str), ("found" : Str)] TT f__law_face.clo false (rsX CN) (tyX CN) f__law_face (defScope s__law_face) (defBody s__law_face) = true := by decide +kernel
abbrev s__law_grown : Stmt := topS 41
theorem sc__law_grown : FnScope [("source" : Str), ("web" : Str), ("way" : Str), ("n" : Str), ("roads" : Str), ("turns" : Str), ("turn" : Str), ("many" : Str), ("one" : Str), ("spots" : Str), ("some" : Str), ("end" : Str), ("other" : Str)] [("source" : Str), ("web" : Str), ("way" : Str)] (defScope s__law_grown) := ⟨rfl, rfl, rfl, by decide +kernel, rfl, by decide +kernel, by decide +kernel⟩
theorem mb__law_grown : bodyM [("source" : Str), ("web" : Str), ("way" : Str), ("n" : Str), ("roads" : Str), ("turns" : Str), ("turn" : Str), ("many" : Str), ("one" : Str), ("spots" : Str), ("some" : Str), ("end" : Str), ("other" : Str)] TT f__law_grown.clo false (rsX CN) (tyX CN) f__law_grown (defScope s__law_grown) (defBody s__law_grown) = true := by decide +kernel
abbrev s__law_renamed : Stmt := topS 42
theorem sc__law_renamed : FnScope [("source" : Str), ("web" : Str), ("n" : Str), ("many" : Str), ("names" : Str), ("places" : Str), ("ends" : Str), ("turns" : Str), ("r" : Str), ("v" : Str), ("turn" : Str), ("k" : Str), ("end" : Str), ("roads" : Str)] [("source" : Str), ("web" : Str)] (defScope s__law_renamed) := ⟨rfl, rfl, rfl, by decide +kernel, rfl, by decide +kernel, by decide +kernel⟩
theorem mb__law_renamed : bodyM [("source" : Str), ("web" : Str), ("n" : Str), ("many" : Str), ("names" : Str), ("places" : Str), ("ends" : Str), ("turns" : Str), ("r" : Str), ("v" : Str), ("turn" : Str), ("k" : Str), ("end" : Str), ("roads" : Str)] TT f__law_renamed.clo false (rsX CN) (tyX CN) f__law_renamed (defScope s__law_renamed) (defBody s__law_renamed) = true := by decide +kernel
abbrev s__law_web : Stmt := topS 43
theorem sc__law_web : FnScope [("source" : Str), ("crossings" : Str), ("more" : Str), ("way" : Str), ("web" : Str), ("v" : Str), ("at" : Str), ("side" : Str), ("turns" : Str), ("many" : Str), ("k" : Str), ("pair" : Str), ("lap" : Str)] [("source" : Str), ("crossings" : Str), ("more" : Str), ("way" : Str)] (defScope s__law_web) := ⟨rfl, rfl, rfl, by decide +kernel, rfl, by decide +kernel, by decide +kernel⟩
theorem mb__law_web : bodyM [("source" : Str), ("crossings" : Str), ("more" : Str), ("way" : Str), ("web" : Str), ("v" : Str), ("at" : Str), ("side" : Str), ("turns" : Str), ("many" : Str), ("k" : Str), ("pair" : Str), ("lap" : Str)] TT f__law_web.clo false (rsX CN) (tyX CN) f__law_web (defScope s__law_web) (defBody s__law_web) = true := by decide +kernel
abbrev s__law_joined : Stmt := topS 44
theorem sc__law_joined : FnScope [("web" : Str), ("roads" : Str), ("lots" : Str), ("r" : Str), ("old" : Str), ("new" : Str), ("lot" : Str)] [("web" : Str), ("roads" : Str)] (defScope s__law_joined) := ⟨rfl, rfl, rfl, by decide +kernel, rfl, by decide +kernel, by decide +kernel⟩
theorem mb__law_joined : bodyM [("web" : Str), ("roads" : Str), ("lots" : Str), ("r" : Str), ("old" : Str), ("new" : Str), ("lot" : Str)] TT f__law_joined.clo false (rsX CN) (tyX CN) f__law_joined (defScope s__law_joined) (defBody s__law_joined) = true := by decide +kernel
abbrev s__law_some_tree : Stmt := topS 45
theorem sc__law_some_tree : FnScope [("source" : Str), ("web" : Str), ("found" : Str), ("r" : Str)] [("source" : Str), ("web" : Str)] (defScope s__law_some_tree) := ⟨rfl, rfl, rfl, by decide +kernel, rfl, by decide +kernel, by decide +kernel⟩
theorem mb__law_some_tree : bodyM [("source" : Str), ("web" : Str), ("found" : Str), ("r" : Str)] TT f__law_some_tree.clo false (rsX CN) (tyX CN) f__law_some_tree (defScope s__law_some_tree) (defBody s__law_some_tree) = true := by decide +kernel
abbrev s__law_is_tree : Stmt := topS 46
theorem sc__law_is_tree : FnScope [("web" : Str), ("value" : Str), ("r" : Str)] [("web" : Str), ("value" : Str)] (defScope s__law_is_tree) := ⟨rfl, rfl, rfl, by decide +kernel, rfl, by decide +kernel, by decide +kernel⟩
theorem mb__law_is_tree : bodyM [("web" : Str), ("value" : Str), ("r" : Str)] TT f__law_is_tree.clo false (rsX CN) (tyX CN) f__law_is_tree (defScope s__law_is_tree) (defBody s__law_is_tree) = true := by decide +kernel
abbrev s__law_joins : Stmt := topS 47
theorem sc__law_joins : FnScope [("web" : Str), ("found" : Str), ("v" : Str), ("one" : Str), ("other" : Str), ("w" : Str)] [("web" : Str)] (defScope s__law_joins) := ⟨rfl, rfl, rfl, by decide +kernel, rfl, by decide +kernel, by decide +kernel⟩
theorem mb__law_joins : bodyM [("web" : Str), ("found" : Str), ("v" : Str), ("one" : Str), ("other" : Str), ("w" : Str)] TT f__law_joins.clo false (rsX CN) (tyX CN) f__law_joins (defScope s__law_joins) (defBody s__law_joins) = true := by decide +kernel
abbrev s__law_pile : Stmt := topS 48
theorem sc__law_pile : FnScope [("source" : Str), ("web" : Str), ("home" : Str), ("way" : Str), ("ways" : Str), ("row" : Str), ("found" : Str), ("v" : Str), ("many" : Str), ("one" : Str)] [("source" : Str), ("web" : Str), ("home" : Str), ("way" : Str)] (defScope s__law_pile) := ⟨rfl, rfl, rfl, by decide +kernel, rfl, by decide +kernel, by decide +kernel⟩
theorem mb__law_pile : bodyM [("source" : Str), ("web" : Str), ("home" : Str), ("way" : Str), ("ways" : Str), ("row" : Str), ("found" : Str), ("v" : Str), ("many" : Str), ("one" : Str)] TT f__law_pile.clo false (rsX CN) (tyX CN) f__law_pile (defScope s__law_pile) (defBody s__law_pile) = true := by decide +kernel
abbrev s__law_burnt : Stmt := topS 49
theorem sc__law_burnt : FnScope [("web" : Str), ("home" : Str), ("pile" : Str), ("joins_v" : Str), ("found" : Str), ("late" : Str), ("rest" : Str), ("v" : Str), ("w" : Str)] [("web" : Str), ("home" : Str), ("pile" : Str)] (defScope s__law_burnt) := ⟨rfl, rfl, rfl, by decide +kernel, rfl, by decide +kernel, by decide +kernel⟩
theorem mb__law_burnt : bodyM [("web" : Str), ("home" : Str), ("pile" : Str), ("joins_v" : Str), ("found" : Str), ("late" : Str), ("rest" : Str), ("v" : Str), ("w" : Str)] TT f__law_burnt.clo false (rsX CN) (tyX CN) f__law_burnt (defScope s__law_burnt) (defBody s__law_burnt) = true := by decide +kernel
abbrev s__law_is_steady : Stmt := topS 50
theorem sc__law_is_steady : FnScope [("web" : Str), ("home" : Str), ("pile" : Str), ("joins_v" : Str), ("v" : Str)] [("web" : Str), ("home" : Str), ("pile" : Str)] (defScope s__law_is_steady) := ⟨rfl, rfl, rfl, by decide +kernel, rfl, by decide +kernel, by decide +kernel⟩
theorem mb__law_is_steady : bodyM [("web" : Str), ("home" : Str), ("pile" : Str), ("joins_v" : Str), ("v" : Str)] TT f__law_is_steady.clo false (rsX CN) (tyX CN) f__law_is_steady (defScope s__law_is_steady) (defBody s__law_is_steady) = true := by decide +kernel
abbrev s__law_comes : Stmt := topS 51
theorem sc__law_comes : FnScope [("web" : Str), ("home" : Str), ("pile" : Str)] [("web" : Str), ("home" : Str), ("pile" : Str)] (defScope s__law_comes) := ⟨rfl, rfl, rfl, by decide +kernel, rfl, by decide +kernel, by decide +kernel⟩
theorem mb__law_comes : bodyM [("web" : Str), ("home" : Str), ("pile" : Str)] TT f__law_comes.clo false (rsX CN) (tyX CN) f__law_comes (defScope s__law_comes) (defBody s__law_comes) = true := by decide +kernel
abbrev s__law_by_numbers : Stmt := topS 52
theorem sc__law_by_numbers : FnScope [("web" : Str), ("home" : Str), ("is_lit" : Str), ("lit" : Str), ("found" : Str), ("tries_v" : Str), ("some" : Str), ("r" : Str), ("pair" : Str), ("road" : Str), ("at" : Str), ("v" : Str), ("is_now" : Str), ("met" : Str), ("one" : Str)] [("web" : Str), ("home" : Str), ("is_lit" : Str)] (defScope s__law_by_numbers) := ⟨rfl, rfl, rfl, by decide +kernel, rfl, by decide +kernel, by decide +kernel⟩
theorem mb__law_by_numbers : bodyM [("web" : Str), ("home" : Str), ("is_lit" : Str), ("lit" : Str), ("found" : Str), ("tries_v" : Str), ("some" : Str), ("r" : Str), ("pair" : Str), ("road" : Str), ("at" : Str), ("v" : Str), ("is_now" : Str), ("met" : Str), ("one" : Str)] TT f__law_by_numbers.clo false (rsX CN) (tyX CN) f__law_by_numbers (defScope s__law_by_numbers) (defBody s__law_by_numbers) = true := by decide +kernel
abbrev s__law_lights : Stmt := topS 53
theorem sc__law_lights : FnScope [("web" : Str), ("pile" : Str), ("ways" : Str), ("row" : Str)] [("web" : Str), ("pile" : Str)] (defScope s__law_lights) := ⟨rfl, rfl, rfl, by decide +kernel, rfl, by decide +kernel, by decide +kernel⟩
theorem mb__law_lights : bodyM [("web" : Str), ("pile" : Str), ("ways" : Str), ("row" : Str)] TT f__law_lights.clo true (rsX CN) (tyX CN) f__law_lights (defScope s__law_lights) (defBody s__law_lights) = true := by decide +kernel
abbrev s__law_is_refused : Stmt := topS 54
theorem sc__law_is_refused : FnScope [("call" : Str)] [("call" : Str)] (defScope s__law_is_refused) := ⟨rfl, rfl, rfl, by decide +kernel, rfl, by decide +kernel, by decide +kernel⟩
theorem mb__law_is_refused : bodyM [("call" : Str)] TT f__law_is_refused.clo false (rsX CN) (tyX CN) f__law_is_refused (defScope s__law_is_refused) (defBody s__law_is_refused) = true := by decide +kernel
abbrev s__law_pile_right : Stmt := topS 55
theorem sc__law_pile_right : FnScope [("web" : Str), ("home" : Str), ("pile" : Str), ("due" : Str), ("tree" : Str), ("road" : Str), ("at" : Str), ("turn" : Str), ("told" : Str), ("roads" : Str), ("r" : Str), ("pair" : Str), ("both" : Str)] [("web" : Str), ("home" : Str), ("pile" : Str)] (defScope s__law_pile_right) := ⟨rfl, rfl, rfl, by decide +kernel, rfl, by decide +kernel, by decide +kernel⟩
theorem mb__law_pile_right : bodyM [("web" : Str), ("home" : Str), ("pile" : Str), ("due" : Str), ("tree" : Str), ("road" : Str), ("at" : Str), ("turn" : Str), ("told" : Str), ("roads" : Str), ("r" : Str), ("pair" : Str), ("both" : Str)] TT f__law_pile_right.clo true (rsX CN) (tyX CN) f__law_pile_right (defScope s__law_pile_right) (defBody s__law_pile_right) = true := by decide +kernel
abbrev s_law : Stmt := topS 56
theorem sc_law : FnScope [("script" : Str), ("source" : Str), ("lap" : Str), ("crossings" : Str), ("web" : Str), ("home" : Str), ("ways" : Str), ("kept" : Str), ("row" : Str), ("turn" : Str), ("tree" : Str), ("due" : Str), ("tries_v" : Str), ("pile" : Str), ("v" : Str), ("odd" : Str)] [("script" : Str)] (defScope s_law) := ⟨rfl, rfl, rfl, by decide +kernel, rfl, by decide +kernel, by decide +kernel⟩
theorem mb_law : bodyM [("script" : Str), ("source" : Str), ("lap" : Str), ("crossings" : Str), ("web" : Str), ("home" : Str), ("ways" : Str), ("kept" : Str), ("row" : Str), ("turn" : Str), ("tree" : Str), ("due" : Str), ("tries_v" : Str), ("pile" : Str), ("v" : Str), ("odd" : Str)] TT f_law.clo true (rsX CN) (tyX CN) f_law (defScope s_law) (defBody s_law) = true := by decide +kernel
end Ik80
/-! What a run of the small machine ends in, told step by step. -/
namespace TL.WP
open PySem

def wp {α : Type} (r : R α) (Q : α → Hw → Prop) : Prop := match r with
  | .ok a h => Q a h
  | _ => False
section
variable {α β : Type} {r : R α} {Q Q' : α → Hw → Prop} {a : α} {h : Hw}
theorem wp_ok : wp (.ok a h) Q = Q a h := rfl
theorem wp_bind {f : α → Hw → R β} {Q : β → Hw → Prop} : wp (r.bind f) Q = wp r fun a h => wp (f a h) Q := by cases r <;> rfl
theorem ok_bind {f : α → Hw → R β} : (R.ok a h).bind f = f a h := rfl
theorem wp_mono (x : wp r Q) (m : ∀ a h, Q a h → Q' a h) : wp r Q' := by
  cases r with
  | ok a h => exact m a h x
  | exc _ _ _ => exact x
  | err => exact x
theorem wp_get (x : wp r Q) : ∃ a h, r = .ok a h ∧ Q a h := by
  cases r with
  | ok a h => exact ⟨a, h, rfl, x⟩
  | exc _ _ _ => exact x.elim
  | err => exact x.elim
theorem wp_of (e : r = .ok a h) (q : Q a h) : wp r Q := by rw [e]; exact q
end

/-! ### the heap -/
/-- a new object -/
def alloc (o : HW) (h : Hw) : R W := .ok (.ref h.n) (h.new o)
/-- the source of drawn numbers: its dict at r, its cells at c -/
def dS (c : Nat) (l m t : Int) : List (L2.Key × W) := [(.inr "cells", .ref c), (.inr "left", .int l), (.inr "mixed", .int m), (.inr "turn", .int t)]
structure SH (h : Hw) (r c : Nat) (cs : List Int) (l m t : Int) : Prop where
  ne : r ≠ c
  d : h.get r = some (.dct (dS c l m t))
  s : h.get c = some (.lst (cs.map W.int))
def Src (h : Hw) (p : Nat × Nat) : Prop := ∃ cs l m t, SH h p.1 p.2 cs l m t ∧ cs.length ≤ 63
/-- from h0 to h: what was there is there; what is told was made since; the source may have been drawn from -/
structure Own (S : Option (Nat × Nat)) (h0 h : Hw) (L : List (Nat × HW)) : Prop where
  le : h0.n ≤ h.n
  eq : ∀ r, r < h0.n → (∀ p, S = some p → r ≠ p.1 ∧ r ≠ p.2) → h.get r = h0.get r
  own : ∀ p ∈ L, h0.n ≤ p.1 ∧ p.1 < h.n ∧ h.get p.1 = some p.2
  nd : (L.map Prod.fst).Nodup
  src : ∀ p, S = some p → p.1 < h0.n ∧ p.2 < h0.n ∧ Src h p
section
variable {S : Option (Nat × Nat)} {h0 h h1 : Hw} {L L' : List (Nat × HW)} {o o' : HW} {r : Nat}
theorem Own.start (h : Hw) : Own none h h [] := ⟨Nat.le_refl _, fun _ _ _ => rfl, fun _ m => (nomatch m), List.nodup_nil, fun _ e => (nomatch e)⟩
theorem Own.begin {p : Nat × Nat} (a : p.1 < h.n) (b : p.2 < h.n) (s : Src h p) : Own (some p) h h [] := ⟨Nat.le_refl _, fun _ _ _ => rfl, fun _ m => (by cases m), List.nodup_nil, fun q e => by cases e; exact ⟨a, b, s⟩⟩
theorem Src.mv {p : Nat × Nat} (s : Src h p) (e1 : h1.get p.1 = h.get p.1) (e2 : h1.get p.2 = h.get p.2) : Src h1 p := by
  obtain ⟨cs, l, m, t, sh, z⟩ := s
  exact ⟨cs, l, m, t, ⟨sh.ne, e1.trans sh.d, e2.trans sh.s⟩, z⟩
theorem Own.new (O : Own S h0 h L) (o : HW) : Own S h0 (h.new o) ((h.n, o) :: L) := by
  refine ⟨Nat.le_succ_of_le O.le, fun r hr z => ?_, fun p m => ?_, ?_, fun p e => ?_⟩
  · rw [Hw.new_ne _ _ (by have := O.le; omega)]
    exact O.eq r hr z
  · cases m with
    | head => exact ⟨O.le, Nat.lt_succ_self _, Hw.new_same _ _⟩
    | tail _ m =>
      obtain ⟨a, b, c⟩ := O.own p m
      exact ⟨a, Nat.lt_succ_of_lt b, by rw [Hw.new_ne _ _ (by omega)]; exact c⟩
  · rw [List.map_cons, List.nodup_cons]
    refine ⟨fun m => ?_, O.nd⟩
    obtain ⟨p, m, e⟩ := List.mem_map.mp m
    have := (O.own p m).2.1
    simp only at e
    omega
  · obtain ⟨a, b, c⟩ := O.src p e
    have := O.le
    exact ⟨a, b, c.mv (Hw.new_ne _ _ (by omega)) (Hw.new_ne _ _ (by omega))⟩
theorem wp_alloc {K : W → Hw → Prop} (O : Own S h0 h L) (q : ∀ r h', Own S h0 h' ((r, o) :: L) → K (.ref r) h') : wp (alloc o h) K := q _ _ (O.new o)
theorem Own.set (O : Own S h0 h L) (k : Nat) (e : L[k]? = some (r, o)) (o' : HW) : Own S h0 (h.set r o') (L.set k (r, o')) := by
  obtain ⟨hk, ek⟩ := List.getElem?_eq_some_iff.mp e
  have hm := O.own (r, o) (ek ▸ List.getElem_mem hk)
  simp only at hm
  have mp : (L.set k (r, o')).map Prod.fst = L.map Prod.fst := by
    rw [List.map_set]
    apply List.ext_getElem?
    intro i
    rw [List.getElem?_set]
    split
    · rename_i ei
      subst ei
      split
      · rw [List.getElem?_map, e]; rfl
      · rename_i z; rw [List.length_map] at z; exact absurd hk z
    · rfl
  refine ⟨O.le, fun x hx z => ?_, fun p m => ?_, by rw [mp]; exact O.nd, fun p e => ?_⟩
  · rw [Hw.set_ne _ _ (by omega)]
    exact O.eq x hx z
  · obtain ⟨i, hi, ei⟩ := List.mem_iff_getElem.mp m
    rw [List.length_set] at hi
    rw [List.getElem_set] at ei
    split at ei
    · subst ei
      exact ⟨hm.1, hm.2.1, Hw.set_same _ _ _⟩
    · rename_i z
      subst ei
      obtain ⟨a, b, c⟩ := O.own _ (List.getElem_mem hi)
      refine ⟨a, b, ?_⟩
      rw [Hw.set_ne _ _ ?_]
      · exact c
      · intro y
        have n1 := List.pairwise_iff_getElem.mp O.nd
        rcases Nat.lt_or_ge i k with g | g
        · refine n1 i k (by rw [List.length_map]; exact hi) (by rw [List.length_map]; exact hk) g ?_
          rw [List.getElem_map, List.getElem_map, ek, ← y]
        · refine n1 k i (by rw [List.length_map]; exact hk) (by rw [List.length_map]; exact hi) (by omega) ?_
          rw [List.getElem_map, List.getElem_map, ek, ← y]
  · obtain ⟨a, b, c⟩ := O.src p e
    exact ⟨a, b, c.mv (Hw.set_ne _ _ (by omega)) (Hw.set_ne _ _ (by omega))⟩
theorem Own.at (O : Own S h0 h L) (k : Nat) (e : L[k]? = some (r, o)) : h.get r = some o := (O.own (r, o) (List.mem_of_getElem? e)).2.2
theorem Own.old (O : Own S h0 h L) (hr : r < h0.n) (z : ∀ p, S = some p → r ≠ p.1 ∧ r ≠ p.2) (e : h0.get r = some o) : h.get r = some o := (O.eq r hr z).trans e
theorem Own.sub (O : Own S h0 h L) (s : L'.Sublist L) : Own S h0 h L' := ⟨O.le, O.eq, fun p m => O.own p (s.subset m), O.nd.sublist (s.map _), O.src⟩
/-- a run from h on that draws as well -/
theorem Own.run (O : Own S h0 h L) (O2 : Own S h h1 L') : Own S h0 h1 (L' ++ L) := by
  have hs : ∀ p, S = some p → p.1 < h0.n ∧ p.2 < h0.n := fun p e => ⟨(O.src p e).1, (O.src p e).2.1⟩
  refine ⟨Nat.le_trans O.le O2.le, fun r hr z => (O2.eq r (Nat.lt_of_lt_of_le hr O.le) z).trans (O.eq r hr z), fun p m => ?_, ?_, fun p e => ?_⟩
  · rcases List.mem_append.mp m with m | m
    · obtain ⟨a, b, c⟩ := O2.own p m
      exact ⟨Nat.le_trans O.le a, b, c⟩
    · obtain ⟨a, b, c⟩ := O.own p m
      refine ⟨a, Nat.lt_of_lt_of_le b O2.le, ?_⟩
      rw [O2.eq p.1 b fun q e => ?_]
      · exact c
      · have := hs q e
        omega
  · rw [List.map_append]
    refine List.nodup_append.mpr ⟨O2.nd, O.nd, fun x hx y hy e => ?_⟩
    obtain ⟨p, mp, rfl⟩ := List.mem_map.mp hx
    obtain ⟨q, mq, rfl⟩ := List.mem_map.mp hy
    have h1 := (O2.own p mp).1
    have h2 := (O.own q mq).2.1
    omega
  · obtain ⟨a, b, c⟩ := O2.src p e
    exact ⟨(hs p e).1, (hs p e).2, c⟩
/-- a run from h on that draws nothing -/
theorem Own.run0 (O : Own S h0 h L) (O2 : Own none h h1 L') : Own S h0 h1 (L' ++ L) := by
  refine O.run ⟨O2.le, fun r hr _ => O2.eq r hr fun p e => (by cases e), O2.own, O2.nd, fun p e => ?_⟩
  obtain ⟨a, b, c⟩ := O.src p e
  have := O.le
  exact ⟨by omega, by omega, c.mv (O2.eq _ (by omega) fun p e => (by cases e)) (O2.eq _ (by omega) fun p e => (by cases e))⟩
end
end TL.WP
namespace TL.WP
open PySem
/-! ### values that are meant -/
abbrev nW (k : Nat) : W := .int (k : Int)
/-- a value that is no closure -/
def nc (w : W) : Option W := match w with
  | .clo _ => none
  | w => some w
theorem slot0 {w : W} {s : Env} : slotV (some w :: s) 0 = nc w := by cases w <;> rfl
theorem slotS {w : Option W} {s : Env} {i : Nat} : slotV (w :: s) (i + 1) = slotV s i := by simp only [slotV, List.getElem?_cons_succ]
theorem nc_int {i : Int} : nc (.int i) = some (.int i) := rfl
theorem nc_bl {b : Bool} : nc (.bl b) = some (.bl b) := rfl
theorem nc_str {b : Str} : nc (.str b) = some (.str b) := rfl
theorem nc_tup {b : List W} : nc (.tup b) = some (.tup b) := rfl
theorem nc_frl {b : List W} : nc (.frl b) = some (.frl b) := rfl
theorem nc_ref {b : Nat} : nc (.ref b) = some (.ref b) := rfl
theorem nc_non : nc .non = some .non := rfl
theorem nc_or {c : Prop} [Decidable c] {a b : W} (ha : nc a = some a) (hb : nc b = some b) : nc (if c then a else b) = some (if c then a else b) := by split <;> assumption
section
variable {C : CT} {s : Env} {h : Hw}
/-- arguments, step by step -/
theorem evl :
    (∀ (C : CT) (s : Env) (h : Hw) (es : List Ex) (i : Nat), evL C (.var i :: es) s h = (evE C (.var i) s h).bind fun z h1 => (evL C es s h1).bind fun zs h2 => .ok (z :: zs) h2) ∧
    (∀ (C : CT) (s : Env) (h : Hw) (es : List Ex) , evL C (.non :: es) s h = (evE C (.non) s h).bind fun z h1 => (evL C es s h1).bind fun zs h2 => .ok (z :: zs) h2) ∧
    (∀ (C : CT) (s : Env) (h : Hw) (es : List Ex) (b : Bool), evL C (.bl b :: es) s h = (evE C (.bl b) s h).bind fun z h1 => (evL C es s h1).bind fun zs h2 => .ok (z :: zs) h2) ∧
    (∀ (C : CT) (s : Env) (h : Hw) (es : List Ex) (i : Int), evL C (.int i :: es) s h = (evE C (.int i) s h).bind fun z h1 => (evL C es s h1).bind fun zs h2 => .ok (z :: zs) h2) ∧
    (∀ (C : CT) (s : Env) (h : Hw) (es : List Ex) (x : Str), evL C (.str x :: es) s h = (evE C (.str x) s h).bind fun z h1 => (evL C es s h1).bind fun zs h2 => .ok (z :: zs) h2) ∧
    (∀ (C : CT) (s : Env) (h : Hw) (es : List Ex) (o : Bop) (a b : Ex), evL C (.bin o a b :: es) s h = (evE C (.bin o a b) s h).bind fun z h1 => (evL C es s h1).bind fun zs h2 => .ok (z :: zs) h2) ∧
    (∀ (C : CT) (s : Env) (h : Hw) (es : List Ex) (a : Ex), evL C (.neg a :: es) s h = (evE C (.neg a) s h).bind fun z h1 => (evL C es s h1).bind fun zs h2 => .ok (z :: zs) h2) ∧
    (∀ (C : CT) (s : Env) (h : Hw) (es : List Ex) (o : Cop) (a b : Ex), evL C (.cmp o a b :: es) s h = (evE C (.cmp o a b) s h).bind fun z h1 => (evL C es s h1).bind fun zs h2 => .ok (z :: zs) h2) ∧
    (∀ (C : CT) (s : Env) (h : Hw) (es : List Ex) (o p : Cop) (a b c : Ex), evL C (.chn o p a b c :: es) s h = (evE C (.chn o p a b c) s h).bind fun z h1 => (evL C es s h1).bind fun zs h2 => .ok (z :: zs) h2) ∧
    (∀ (C : CT) (s : Env) (h : Hw) (es : List Ex) (xs : List Ex), evL C (.and xs :: es) s h = (evE C (.and xs) s h).bind fun z h1 => (evL C es s h1).bind fun zs h2 => .ok (z :: zs) h2) ∧
    (∀ (C : CT) (s : Env) (h : Hw) (es : List Ex) (xs : List Ex), evL C (.or xs :: es) s h = (evE C (.or xs) s h).bind fun z h1 => (evL C es s h1).bind fun zs h2 => .ok (z :: zs) h2) ∧
    (∀ (C : CT) (s : Env) (h : Hw) (es : List Ex) (a : Ex), evL C (.not a :: es) s h = (evE C (.not a) s h).bind fun z h1 => (evL C es s h1).bind fun zs h2 => .ok (z :: zs) h2) ∧
    (∀ (C : CT) (s : Env) (h : Hw) (es : List Ex) (c a b : Ex), evL C (.ife c a b :: es) s h = (evE C (.ife c a b) s h).bind fun z h1 => (evL C es s h1).bind fun zs h2 => .ok (z :: zs) h2) ∧
    (∀ (C : CT) (s : Env) (h : Hw) (es : List Ex) (xs : List Ex), evL C (.tup xs :: es) s h = (evE C (.tup xs) s h).bind fun z h1 => (evL C es s h1).bind fun zs h2 => .ok (z :: zs) h2) ∧
    (∀ (C : CT) (s : Env) (h : Hw) (es : List Ex) (xs : List Ex), evL C (.lst xs :: es) s h = (evE C (.lst xs) s h).bind fun z h1 => (evL C es s h1).bind fun zs h2 => .ok (z :: zs) h2) ∧
    (∀ (C : CT) (s : Env) (h : Hw) (es : List Ex) (xs : List Ex), evL C (.dct xs :: es) s h = (evE C (.dct xs) s h).bind fun z h1 => (evL C es s h1).bind fun zs h2 => .ok (z :: zs) h2) ∧
    (∀ (C : CT) (s : Env) (h : Hw) (es : List Ex) (a i : Ex), evL C (.idx a i :: es) s h = (evE C (.idx a i) s h).bind fun z h1 => (evL C es s h1).bind fun zs h2 => .ok (z :: zs) h2) ∧
    (∀ (C : CT) (s : Env) (h : Hw) (es : List Ex) (a : Ex) (lo hi : Option Ex), evL C (.slc a lo hi :: es) s h = (evE C (.slc a lo hi) s h).bind fun z h1 => (evL C es s h1).bind fun zs h2 => .ok (z :: zs) h2) ∧
    (∀ (C : CT) (s : Env) (h : Hw) (es : List Ex) (f : Nat) (xs : List Ex), evL C (.call f xs :: es) s h = (evE C (.call f xs) s h).bind fun z h1 => (evL C es s h1).bind fun zs h2 => .ok (z :: zs) h2) ∧
    (∀ (C : CT) (s : Env) (h : Hw) (es : List Ex) (b : Bi) (xs : List Ex), evL C (.bi b xs :: es) s h = (evE C (.bi b xs) s h).bind fun z h1 => (evL C es s h1).bind fun zs h2 => .ok (z :: zs) h2) ∧
    (∀ (C : CT) (s : Env) (h : Hw) (es : List Ex) (m : Me) (o : Ex) (xs : List Ex), evL C (.me m o xs :: es) s h = (evE C (.me m o xs) s h).bind fun z h1 => (evL C es s h1).bind fun zs h2 => .ok (z :: zs) h2) ∧
    (∀ (C : CT) (s : Env) (h : Hw) (es : List Ex) (elt : Ex) (tg : Tg) (k : ItK) (its ifs : List Ex) (own : List Nat), evL C (.comp elt tg k its ifs own :: es) s h = (evE C (.comp elt tg k its ifs own) s h).bind fun z h1 => (evL C es s h1).bind fun zs h2 => .ok (z :: zs) h2) ∧
    (∀ (C : CT) (s : Env) (h : Hw) (es : List Ex) (d e : Ex), evL C (.upd d e :: es) s h = (evE C (.upd d e) s h).bind fun z h1 => (evL C es s h1).bind fun zs h2 => .ok (z :: zs) h2) ∧
    (∀ (C : CT) (s : Env) (h : Hw) (es : List Ex) (a : Ex), evL C (.sset a :: es) s h = (evE C (.sset a) s h).bind fun z h1 => (evL C es s h1).bind fun zs h2 => .ok (z :: zs) h2) ∧
    (∀ (C : CT) (s : Env) (h : Hw) (es : List Ex) (i : Nat) (xs : List Ex), evL C (.callv i xs :: es) s h = (evE C (.callv i xs) s h).bind fun z h1 => (evL C es s h1).bind fun zs h2 => .ok (z :: zs) h2) ∧
    (∀ (C : CT) (s : Env) (h : Hw) (es : List Ex) (f : Nat) (xs : List Ex) (np : Nat) (caps : List Nat) (body : Ex), evL C (.callC f xs np caps body :: es) s h = (evE C (.callC f xs np caps body) s h).bind fun z h1 => (evL C es s h1).bind fun zs h2 => .ok (z :: zs) h2) ∧
    (∀ (C : CT) (s : Env) (h : Hw) (es : List Ex) (f : Nat) (xs : List Ex) (g : Nat) (ys : List Ex), evL C (.callM f xs g ys :: es) s h = (evE C (.callM f xs g ys) s h).bind fun z h1 => (evL C es s h1).bind fun zs h2 => .ok (z :: zs) h2) := by
  refine ⟨?_, ?_, ?_, ?_, ?_, ?_, ?_, ?_, ?_, ?_, ?_, ?_, ?_, ?_, ?_, ?_, ?_, ?_, ?_, ?_, ?_, ?_, ?_, ?_, ?_, ?_, ?_⟩ <;> (intros; simp only [evL])
/-- the expressions, step by step -/
theorem evs :
    (∀ (α β : Type) (a : α) (h : Hw) (f : α → Hw → R β), (R.ok a h).bind f = f a h) ∧
    (∀ (C : CT) (s : Env) (h : Hw) (i : Nat), evE C (.var i) s h = match slotV s i with | some w => .ok w h | none => .err) ∧
    (∀ (C : CT) (s : Env) (h : Hw), evE C .non s h = .ok .non h) ∧
    (∀ (C : CT) (s : Env) (h : Hw) (b : Bool), evE C (.bl b) s h = .ok (.bl b) h) ∧
    (∀ (C : CT) (s : Env) (h : Hw), evE C (.int 0) s h = .ok (nW 0) h) ∧
    (∀ (C : CT) (s : Env) (h : Hw), evE C (.int 1) s h = .ok (nW 1) h) ∧
    (∀ (C : CT) (s : Env) (h : Hw), evE C (.int 2) s h = .ok (nW 2) h) ∧
    (∀ (C : CT) (s : Env) (h : Hw), evE C (.int 3) s h = .ok (nW 3) h) ∧
    (∀ (C : CT) (s : Env) (h : Hw), evE C (.int 4) s h = .ok (nW 4) h) ∧
    (∀ (C : CT) (s : Env) (h : Hw), evE C (.int 5) s h = .ok (nW 5) h) ∧
    (∀ (C : CT) (s : Env) (h : Hw), evE C (.int 6) s h = .ok (nW 6) h) ∧
    (∀ (C : CT) (s : Env) (h : Hw), evE C (.int 8) s h = .ok (nW 8) h) ∧
    (∀ (C : CT) (s : Env) (h : Hw), evE C (.int 9) s h = .ok (nW 9) h) ∧
    (∀ (C : CT) (s : Env) (h : Hw), evE C (.int 10) s h = .ok (nW 10) h) ∧
    (∀ (C : CT) (s : Env) (h : Hw) (x : Str), evE C (.str x) s h = .ok (.str x) h) ∧
    (∀ (C : CT) (s : Env) (h : Hw) (o : Bop) (a b : Ex), evE C (.bin o a b) s h = (evE C a s h).bind fun x h1 => (evE C b s h1).bind fun y h2 => binOp o x y h2) ∧
    (∀ (C : CT) (s : Env) (h : Hw) (a : Ex), evE C (.neg a) s h = (evE C a s h).bind fun x h1 => match x with | .int i => .ok (.int (-i)) h1 | _ => .err) ∧
    (∀ (C : CT) (s : Env) (h : Hw) (o : Cop) (a b : Ex), evE C (.cmp o a b) s h = (evE C a s h).bind fun x h1 => (evE C b s h1).bind fun y h2 => match cmpOp o x y h2 with | some k => .ok (.bl k) h2 | none => .err) ∧
    (∀ (C : CT) (s : Env) (h : Hw) (o p : Cop) (a b c : Ex), evE C (.chn o p a b c) s h = (evE C a s h).bind fun x h1 => (evE C b s h1).bind fun y h2 => match cmpOp o x y h2 with
      | some true => (evE C c s h2).bind fun z h3 => (match cmpOp p y z h3 with | some k => .ok (.bl k) h3 | none => .err)
      | some false => .ok (.bl false) h2
      | none => .err) ∧
    (∀ (C : CT) (s : Env) (h : Hw) (es : List Ex), evE C (.and es) s h = evAnd C es s h) ∧
    (∀ (C : CT) (s : Env) (h : Hw) (es : List Ex), evE C (.or es) s h = evOr C es s h) ∧
    (∀ (C : CT) (s : Env) (h : Hw) (a : Ex), evE C (.not a) s h = (evE C a s h).bind fun x h1 => match tru h1 x with | some k => .ok (.bl (!k)) h1 | none => .err) ∧
    (∀ (C : CT) (s : Env) (h : Hw) (c a b : Ex), evE C (.ife c a b) s h = (evE C c s h).bind fun x h1 => match tru h1 x with | some true => evE C a s h1 | some false => evE C b s h1 | none => .err) ∧
    (∀ (C : CT) (s : Env) (h : Hw) (es : List Ex), evE C (.tup es) s h = (evL C es s h).bind fun ws h1 => bif szOk ws.length then .ok (.tup ws) h1 else .err) ∧
    (∀ (C : CT) (s : Env) (h : Hw) (es : List Ex), evE C (.lst es) s h = (evL C es s h).bind fun ws h1 => bif szOk ws.length then alloc (.lst ws) h1 else .err) ∧
    (∀ (C : CT) (s : Env) (h : Hw) (a i : Ex), evE C (.idx a i) s h = (evE C a s h).bind fun x h1 => (evE C i s h1).bind fun y h2 => idxOp x y h2) ∧
    (∀ (C : CT) (s : Env) (h : Hw) (a : Ex) (lo hi : Option Ex), evE C (.slc a lo hi) s h = (evE C a s h).bind fun x h1 => (evO C lo s h1).bind fun l h2 => (evO C hi s h2).bind fun u h3 => slcOp x l u h3) ∧
    (∀ (C : CT) (s : Env) (h : Hw) (f : Nat) (es : List Ex), evE C (.call f es) s h = (evL C es s h).bind fun ws h1 => C f ws h1) ∧
    (∀ (C : CT) (s : Env) (h : Hw) (b : Bi) (es : List Ex), evE C (.bi b es) s h = (evL C es s h).bind fun ws h1 => biOp b ws h1) ∧
    (∀ (C : CT) (s : Env) (h : Hw) (m : Me) (o : Ex) (es : List Ex), evE C (.me m o es) s h = (evE C o s h).bind fun x h1 => bif recvOk m x h1 then (evL C es s h1).bind fun ws h2 => meOp m x ws h2 else .err) ∧
    (∀ (C : CT) (s : Env) (h : Hw) (d e : Ex), evE C (.upd d e) s h = (evE C d s h).bind fun x h1 => bif isDct x h1 then (evE C e s h1).bind fun y h2 => updOp x y h2 else .err) ∧
    (∀ (C : CT) (s : Env) (h : Hw) (a : Ex), evE C (.sset a) s h = (evE C a s h).bind fun x h1 => ssetOp x h1) ∧
    (∀ (C : CT) (s : Env) (h : Hw) (i : Nat) (es : List Ex), evE C (.callv i es) s h = match cloOf s i with | some cs => (evL C es s h).bind fun ws h1 => C.v cs ws h1 | none => .err) ∧
    (∀ (C : CT) (s : Env) (h : Hw), evL C [] s h = .ok [] h) ∧
    (∀ (C : CT) (s : Env) (h : Hw), evO C none s h = .ok none h) ∧
    (∀ (C : CT) (s : Env) (h : Hw) (e : Ex), evO C (some e) s h = (evE C e s h).bind fun x h1 => match x with | .int i => .ok (some i) h1 | _ => .err) ∧
    (∀ (C : CT) (s : Env) (h : Hw) (e : Ex), evAnd C [e] s h = evE C e s h) ∧
    (∀ (C : CT) (s : Env) (h : Hw) (e f : Ex) (es : List Ex), evAnd C (e :: f :: es) s h = (evE C e s h).bind fun x h1 => match tru h1 x with | some true => evAnd C (f :: es) s h1 | some false => .ok x h1 | none => .err) ∧
    (∀ (C : CT) (s : Env) (h : Hw) (e : Ex), evOr C [e] s h = evE C e s h) ∧
    (∀ (C : CT) (s : Env) (h : Hw) (e f : Ex) (es : List Ex), evOr C (e :: f :: es) s h = (evE C e s h).bind fun x h1 => match tru h1 x with | some false => evOr C (f :: es) s h1 | some true => .ok x h1 | none => .err) ∧
    (∀ (C : CT) (s : Env) (h : Hw), evIfs C [] s h = .ok true h) ∧
    (∀ (C : CT) (s : Env) (h : Hw) (e : Ex) (es : List Ex), evIfs C (e :: es) s h = (evE C e s h).bind fun x h1 => match tru h1 x with | some true => evIfs C es s h1 | some false => .ok false h1 | none => .err) ∧
    (∀ (b : Bool) (h : Hw), tru h (.bl b) = some b) ∧
    (∀ (w : W) (s : Env), slotV (some w :: s) 0 = nc w) ∧
    (∀ (w : Option W) (s : Env) (i : Nat), slotV (w :: s) (i + 1) = slotV s i) ∧
    (∀ (i : Int), nc (.int i) = some (.int i)) ∧
    (∀ (b : Bool), nc (.bl b) = some (.bl b)) ∧
    (∀ (b : Str), nc (.str b) = some (.str b)) ∧
    (∀ (b : List W), nc (.tup b) = some (.tup b)) ∧
    (∀ (b : List W), nc (.frl b) = some (.frl b)) ∧
    (∀ (b : Nat), nc (.ref b) = some (.ref b)) ∧
    (nc .non = some .non) ∧
    (∀ (α : Type) (a b : α), (bif true then a else b) = a) ∧
    (∀ (α : Type) (a b : α), (bif false then a else b) = b) ∧
    (∀ (i j : Nat) (h : Hw), binOp .add (nW i) (nW j) h = .ok (nW (i + j)) h) ∧
    (∀ (i j : Nat) (h : Hw), cmpOp .eq (nW i) (nW j) h = some (decide (i = j))) ∧
    (∀ (i j : Nat) (h : Hw), cmpOp .ne (nW i) (nW j) h = some (!decide (i = j))) ∧
    (∀ (i j : Nat) (h : Hw), cmpOp .lt (nW i) (nW j) h = some (decide (i < j))) ∧
    (∀ (i j : Nat) (h : Hw), cmpOp .le (nW i) (nW j) h = some (decide (i ≤ j))) ∧
    (∀ (i j : Nat) (h : Hw), cmpOp .gt (nW i) (nW j) h = some (decide (j < i))) ∧
    (∀ (i j : Nat) (h : Hw), cmpOp .ge (nW i) (nW j) h = some (decide (j ≤ i))) ∧
    (∀ (a b : Bool) (h : Hw), cmpOp .ne (.bl a) (.bl b) h = some (!(a == b))) ∧
    (∀ (h : Hw), cmpOp .iss .non .non h = some true) ∧
    (∀ (h : Hw), cmpOp .isnt .non .non h = some false) ∧
    (∀ (i : Int) (h : Hw), cmpOp .iss (.int i) .non h = some false) ∧
    (∀ (i : Int) (h : Hw), cmpOp .isnt (.int i) .non h = some true) ∧
    (∀ (i : Nat) (h : Hw), cmpOp .iss (.ref i) .non h = some false) ∧
    (∀ (i : Nat) (h : Hw), cmpOp .isnt (.ref i) .non h = some true) ∧
    (∀ (i : List W) (h : Hw), cmpOp .iss (.tup i) .non h = some false) ∧
    (∀ (i : List W) (h : Hw), cmpOp .isnt (.tup i) .non h = some true) ∧
    (∀ (a b : W) (h : Hw), idxOp (.tup [a, b]) (nW 0) h = .ok a h) ∧
    (∀ (a b : W) (h : Hw), idxOp (.tup [a, b]) (nW 1) h = .ok b h) ∧
    (∀ (a b c : W) (h : Hw), idxOp (.tup [a, b, c]) (nW 0) h = .ok a h) ∧
    (∀ (a b c : W) (h : Hw), idxOp (.tup [a, b, c]) (nW 1) h = .ok b h) ∧
    (∀ (a b c : W) (h : Hw), idxOp (.tup [a, b, c]) (nW 2) h = .ok c h) ∧
    (∀ (i : Int) (h : Hw), biOp .int [.int i] h = .ok (.int i) h) ∧
    (∀ (x : W) (s : Env) (v : Option W), List.set (v :: s) 0 (some x) = some x :: s) ∧
    (∀ (x v : Option W) (s : Env) (i : Nat), List.set (v :: s) (i + 1) x = v :: List.set s i x) ∧
    (∀ (i : Nat) (w : W) (s : Env) (h : Hw), asg (.nm i) w s h = some (s.set i (some w))) ∧
    (∀ (ts : List Tg) (xs : List W) (s : Env) (h : Hw), asg (.tp ts) (.tup xs) s h = asgs ts xs s h) ∧
    (∀ (s : Env) (h : Hw), asgs [] [] s h = some s) ∧
    (∀ (t : Tg) (ts : List Tg) (x : W) (xs : List W) (s : Env) (h : Hw), asgs (t :: ts) (x :: xs) s h = match asg t x s h with | some s' => asgs ts xs s' h | none => none) ∧
    (∀ (s : Env), wipeW s [] = s) ∧
    (∀ (s : Env) (v : Nat) (vs : List Nat), wipeW s (v :: vs) = (wipeW s vs).set v none) ∧
    (∀ (x : Option W) (s : Env), List.set (x :: s) 0 none = none :: s) := by
  refine ⟨fun _ _ _ _ _ => rfl, fun _ _ _ _ => rfl, fun _ _ _ => rfl, fun _ _ _ _ => rfl, fun _ _ _ => rfl, fun _ _ _ => rfl, fun _ _ _ => rfl, fun _ _ _ => rfl, fun _ _ _ => rfl, fun _ _ _ => rfl, fun _ _ _ => rfl, fun _ _ _ => rfl, fun _ _ _ => rfl, fun _ _ _ => rfl, fun _ _ _ _ => rfl,
    fun _ _ _ _ _ _ => rfl, fun _ _ _ _ => rfl, fun _ _ _ _ _ _ => rfl, fun _ _ _ _ _ _ _ _ => rfl, fun _ _ _ _ => rfl, fun _ _ _ _ => rfl, fun _ _ _ _ => rfl, fun _ _ _ _ _ _ => rfl, fun _ _ _ _ => rfl, fun _ _ _ _ => rfl, fun _ _ _ _ _ => rfl, fun _ _ _ _ _ _ => rfl, fun _ _ _ _ _ => rfl, fun _ _ _ _ _ => rfl, fun _ _ _ _ _ _ => rfl, fun _ _ _ _ _ => rfl, fun _ _ _ _ => rfl, fun _ _ _ _ _ => rfl,
    fun _ _ _ => rfl, fun _ _ _ => rfl, fun _ _ _ _ => rfl, fun _ _ _ _ => rfl, fun _ _ _ _ _ _ => rfl, fun _ _ _ _ => rfl, fun _ _ _ _ _ _ => rfl, fun _ _ _ => rfl, fun _ _ _ _ _ => rfl, fun _ _ => rfl, fun _ _ => slot0, fun _ _ _ => slotS, fun _ => rfl, fun _ => rfl, fun _ => rfl, fun _ => rfl, fun _ => rfl, fun _ => rfl, rfl, fun _ _ _ => rfl, fun _ _ _ => rfl,
    fun _ _ _ => rfl, fun i j _ => ?_, fun i j _ => ?_, fun i j _ => ?_, fun i j _ => ?_, fun i j _ => ?_, fun i j _ => ?_, fun a b _ => ?_, fun _ => rfl, fun _ => rfl, fun _ _ => rfl, fun _ _ => rfl, fun _ _ => rfl, fun _ _ => rfl, fun _ _ => rfl, fun _ _ => rfl,
    fun _ _ _ => rfl, fun _ _ _ => rfl, fun _ _ _ _ => rfl, fun _ _ _ _ => rfl, fun _ _ _ _ => rfl, fun _ _ => rfl, fun _ _ _ => rfl, fun _ _ _ _ => rfl, fun _ _ _ _ => rfl, fun _ _ _ _ => rfl, fun _ _ => rfl, fun _ _ _ _ _ _ => rfl, fun _ => rfl, fun _ _ _ => rfl, fun _ _ => rfl⟩
  · show some (((i : Int)) == (j : Int)) = _
    congr 1
    by_cases e : i = j
    · subst e; simp
    · rw [decide_eq_false e]; simp; omega
  · show some (!(((i : Int)) == (j : Int))) = _
    congr 2
    by_cases e : i = j
    · subst e; simp
    · rw [decide_eq_false e]; simp; omega
  · show some (decide ((i : Int) < (j : Int))) = _
    simp
  · show some (decide ((i : Int) ≤ (j : Int))) = _
    simp
  · show some (decide ((j : Int) < (i : Int))) = _
    simp
  · show some (decide ((j : Int) ≤ (i : Int))) = _
    simp
  · cases a <;> cases b <;> rfl
end
end TL.WP
namespace TL.WP
open PySem
/-! ### statements -/
def seqK (C : CT) (wf : Nat) (ts : List St) (Q : Env × Fl → Hw → Prop) : Env × Fl → Hw → Prop := fun p h => match p.2 with
  | .nx => wp (exL C wf ts p.1 h) Q
  | _ => Q p h
def outK (Q : W → Hw → Prop) : Env × Fl → Hw → Prop := fun p h => match p.2 with
  | .rt w => Q w h
  | .nx => Q .non h
  | _ => False
def loopK (I : Env → Hw → Prop) (Q : Env × Fl → Hw → Prop) : Env × Fl → Hw → Prop := fun p h => match p.2 with
  | .nx => I p.1 h
  | .ct => I p.1 h
  | .bk => Q (p.1, .nx) h
  | .rt w => Q (p.1, .rt w) h
/-- the body of a loop, one turn -/
def turnSt (C : CT) (wf : Nat) (tg : Tg) (body : List St) (x : W) (s : Env) (h : Hw) : R (Env × Fl) := match asg tg x s h with
  | some s3 => exL C wf body s3 h
  | none => .err
/-- one turn of a comprehension -/
def turnE (C : CT) (tg : Tg) (ifs : List Ex) (elt : Ex) (s0 : Env) (x : W) (h : Hw) : R (Option W) := match asg tg x s0 h with
  | some s2 => (evIfs C ifs s2 h).bind fun c h3 => bif c then (evE C elt s2 h3).bind fun w h4 => .ok (some w) h4 else .ok none h3
  | none => .err
section
variable {C : CT} {wf : Nat} {s : Env} {h : Hw} {Q : Env × Fl → Hw → Prop} {ts : List St}
theorem wp_exL (t : St) : wp (exL C wf (t :: ts) s h) Q = wp (exS C wf t s h) (seqK C wf ts Q) := by
  rw [show exL C wf (t :: ts) s h = (exS C wf t s h).bind (fun p h1 => match p.2 with
    | .nx => exL C wf ts p.1 h1
    | _ => .ok p h1) from rfl, wp_bind]
  congr 1
  funext p h1
  unfold seqK
  cases p.2 <;> rfl
/-- the statements, step by step -/
theorem sts :
    (∀ (C : CT) (wf : Nat) (s : Env) (h : Hw) (Q : Env × Fl → Hw → Prop), wp (exL C wf [] s h) Q = Q (s, .nx) h) ∧
    (∀ (C : CT) (wf : Nat) (s : Env) (h : Hw) (Q : Env × Fl → Hw → Prop) (ts : List St) (i : Nat) (e : Ex), wp (exL C wf (.set i e :: ts) s h) Q = wp (evE C e s h) fun w h1 => wp (exL C wf ts (s.set i (some w)) h1) Q) ∧
    (∀ (C : CT) (wf : Nat) (s : Env) (h : Hw) (Q : Env × Fl → Hw → Prop) (ts : List St) (tg : Tg) (e : Ex), wp (exL C wf (.setT tg e :: ts) s h) Q = wp (evE C e s h) fun w h1 => match asg tg w s h1 with | some s' => wp (exL C wf ts s' h1) Q | none => False) ∧
    (∀ (C : CT) (wf : Nat) (s : Env) (h : Hw) (Q : Env × Fl → Hw → Prop) (ts : List St) (a i e : Ex), wp (exL C wf (.setI a i e :: ts) s h) Q = wp (evE C e s h) fun v h1 => wp (evE C a s h1) fun x h2 => wp (evE C i s h2) fun y h3 => match setOp x y v h3 with | some h4 => wp (exL C wf ts s h4) Q | none => False) ∧
    (∀ (C : CT) (wf : Nat) (s : Env) (h : Hw) (Q : Env × Fl → Hw → Prop) (ts : List St) (e : Ex), wp (exL C wf (.ex e :: ts) s h) Q = wp (evE C e s h) fun _ h1 => wp (exL C wf ts s h1) Q) ∧
    (∀ (C : CT) (wf : Nat) (s : Env) (h : Hw) (Q : Env × Fl → Hw → Prop) (ts : List St) (c : Ex) (a b : List St), wp (exL C wf (.ite c a b :: ts) s h) Q = wp (evE C c s h) fun x h1 => match tru h1 x with | some k => (bif k then wp (exL C wf a s h1) (seqK C wf ts Q) else wp (exL C wf b s h1) (seqK C wf ts Q)) | none => False) ∧
    (∀ (C : CT) (wf : Nat) (s : Env) (h : Hw) (Q : Env × Fl → Hw → Prop) (ts : List St) (tg : Tg) (k : ItK) (its : List Ex) (body : List St), wp (exL C wf (.loop tg k its body :: ts) s h) Q = wp (evL C its s h) fun ws h1 => match iterOf k ws h1 with | some (xs, gs) => wp (loopS gs (turnSt C wf tg body) xs s h1) (seqK C wf ts Q) | none => False) ∧
    (∀ (C : CT) (wf : Nat) (s : Env) (h : Hw) (Q : Env × Fl → Hw → Prop) (ts : List St) (c : Ex) (body : List St), wp (exL C wf (.whl c body :: ts) s h) Q = wp (whlS (evT C c) (exL C wf body) wf s h) (seqK C wf ts Q)) ∧
    (∀ (C : CT) (wf : Nat) (s : Env) (h : Hw) (Q : Env × Fl → Hw → Prop) (ts : List St) (e : Ex), wp (exL C wf (.ret e :: ts) s h) Q = wp (evE C e s h) fun w h1 => Q (s, .rt w) h1) ∧
    (∀ (C : CT) (wf : Nat) (s : Env) (h : Hw) (Q : Env × Fl → Hw → Prop) (ts : List St), wp (exL C wf (.cont :: ts) s h) Q = Q (s, .ct) h) ∧
    (∀ (C : CT) (wf : Nat) (s : Env) (h : Hw) (Q : Env × Fl → Hw → Prop) (ts : List St), wp (exL C wf (.brk :: ts) s h) Q = Q (s, .bk) h) ∧
    (∀ (C : CT) (wf : Nat) (s : Env) (h : Hw) (Q : Env × Fl → Hw → Prop) (ts : List St) (o : Bop) (i : Nat) (e : Ex), wp (exL C wf (.aug o i e :: ts) s h) Q = match s[i]? with | some (some x) => wp (evE C e s h) (fun y h1 => wp (augOp o x y h1) fun z h2 => wp (exL C wf ts (s.set i (some z)) h2) Q) | _ => False) ∧
    (∀ (C : CT) (wf : Nat) (s : Env) (h : Hw) (Q : Env × Fl → Hw → Prop) (ts : List St), seqK C wf ts Q (s, .nx) h = wp (exL C wf ts s h) Q) ∧
    (∀ (C : CT) (wf : Nat) (s : Env) (h : Hw) (Q : Env × Fl → Hw → Prop) (ts : List St) (w : W), seqK C wf ts Q (s, .rt w) h = Q (s, .rt w) h) ∧
    (∀ (C : CT) (wf : Nat) (s : Env) (h : Hw) (Q : Env × Fl → Hw → Prop) (ts : List St), seqK C wf ts Q (s, .ct) h = Q (s, .ct) h) ∧
    (∀ (C : CT) (wf : Nat) (s : Env) (h : Hw) (Q : Env × Fl → Hw → Prop) (ts : List St), seqK C wf ts Q (s, .bk) h = Q (s, .bk) h) ∧
    (∀ (s : Env) (h : Hw) (Q : W → Hw → Prop) (w : W), outK Q (s, .rt w) h = Q w h) ∧
    (∀ (s : Env) (h : Hw) (Q : W → Hw → Prop), outK Q (s, .nx) h = Q .non h) ∧
    (∀ (s : Env) (h : Hw) (I : Env → Hw → Prop) (Q : Env × Fl → Hw → Prop), loopK I Q (s, .nx) h = I s h) ∧
    (∀ (s : Env) (h : Hw) (I : Env → Hw → Prop) (Q : Env × Fl → Hw → Prop), loopK I Q (s, .ct) h = I s h) ∧
    (∀ (s : Env) (h : Hw) (I : Env → Hw → Prop) (Q : Env × Fl → Hw → Prop), loopK I Q (s, .bk) h = Q (s, .nx) h) ∧
    (∀ (s : Env) (h : Hw) (I : Env → Hw → Prop) (Q : Env × Fl → Hw → Prop) (w : W), loopK I Q (s, .rt w) h = Q (s, .rt w) h) ∧
    (∀ (α : Type) (a : α) (h : Hw) (Q : α → Hw → Prop), wp (.ok a h) Q = Q a h) ∧
    (∀ (α β : Type) (r : R α) (f : α → Hw → R β) (Q : β → Hw → Prop), wp (r.bind f) Q = wp r fun a h => wp (f a h) Q) := by
  refine ⟨fun _ _ _ _ _ => rfl, fun C wf s h Q ts i e => ?_, fun C wf s h Q ts tg e => ?_, fun C wf s h Q ts a i e => ?_, fun C wf s h Q ts e => ?_, fun C wf s h Q ts c a b => ?_, fun C wf s h Q ts tg k its body => ?_, fun C wf s h Q ts c body => ?_, fun C wf s h Q ts e => ?_, fun C wf s h Q ts => ?_, fun C wf s h Q ts => ?_, fun C wf s h Q ts o i e => ?_,
    fun _ _ _ _ _ _ => rfl, fun _ _ _ _ _ _ _ => rfl, fun _ _ _ _ _ _ => rfl, fun _ _ _ _ _ _ => rfl, fun _ _ _ _ => rfl, fun _ _ _ => rfl, fun _ _ _ _ => rfl, fun _ _ _ _ => rfl, fun _ _ _ _ => rfl, fun _ _ _ _ _ => rfl, fun _ _ _ _ => rfl, fun _ _ _ _ _ => wp_bind⟩
  · rw [wp_exL]; simp only [exS, wp_bind]; rfl
  · rw [wp_exL]; simp only [exS, wp_bind]
    congr 1; funext w h1
    cases asg tg w s h1 <;> rfl
  · rw [wp_exL]; simp only [exS, wp_bind]
    congr 1; funext v h1; congr 1; funext x h2; congr 1; funext y h3
    cases setOp x y v h3 <;> rfl
  · rw [wp_exL]; simp only [exS, wp_bind]; rfl
  · rw [wp_exL]; simp only [exS, evT, wp_bind]
    congr 1; funext x h1
    cases tru h1 x with
    | none => rfl
    | some k => cases k <;> rfl
  · rw [wp_exL]; simp only [exS, wp_bind]
    congr 1; funext ws h1
    cases iterOf k ws h1 with
    | none => rfl
    | some p => rfl
  · rw [wp_exL]; simp only [exS]
  · rw [wp_exL]; simp only [exS, wp_bind]; rfl
  · rw [wp_exL]; simp only [exS]; rfl
  · rw [wp_exL]; simp only [exS]; rfl
  · rw [wp_exL]; simp only [exS]
    cases e1 : s[i]? with
    | none => rfl
    | some o1 =>
      cases o1 with
      | none => rfl
      | some x => simp only [wp_bind]; rfl
theorem ev_comp {elt : Ex} {tg : Tg} {k : ItK} {its ifs : List Ex} {own : List Nat} : evE C (.comp elt tg k its ifs own) s h = (evL C its s h).bind fun ws h1 => match iterOf k ws h1 with
    | some (xs, gs) => bif szOk xs.length then (loopC gs (turnE C tg ifs elt (wipeW s own)) xs h1).bind fun ys h5 => alloc (.lst ys) h5 else .err
    | none => .err := rfl
/-! ### loops -/
theorem wp_loopS {α : Type} {emb : α → W} {gs : List (Nat × List W)} {f : W → Env → Hw → R (Env × Fl)} (I : List α → Env → Hw → Prop) (l : List α) (h0 : I [] s h)
    (hg : ∀ d s h, I d s h → okG gs h = true) (step : ∀ d a t, l = d ++ a :: t → ∀ s h, I d s h → wp (f (emb a) s h) (loopK (I (d ++ [a])) Q)) (fin : ∀ s h, I l s h → Q (s, .nx) h) : wp (loopS gs f (l.map emb) s h) Q := by
  have go : ∀ (t d : List α) (s : Env) (h : Hw), l = d ++ t → I d s h → wp (loopS gs f (t.map emb) s h) Q := by
    intro t
    induction t with
    | nil =>
      intro d s h e i
      rw [List.append_nil] at e
      subst e
      show wp (bif okG gs h then .ok (s, .nx) h else .err) Q
      rw [hg _ _ _ i]
      exact fin s h i
    | cons a t ih =>
      intro d s h e i
      rw [List.map_cons]
      unfold loopS
      rw [hg _ _ _ i, cond_true, wp_bind]
      refine wp_mono (step d a t e s h i) fun p h1 z => ?_
      have e2 : l = (d ++ [a]) ++ t := by rw [e, List.append_assoc]; rfl
      unfold loopK at z
      cases hp : p.2 with
      | nx => rw [hp] at z; exact ih _ _ _ e2 z
      | ct => rw [hp] at z; exact ih _ _ _ e2 z
      | bk => rw [hp] at z; exact z
      | rt w => rw [hp] at z; exact z
  exact go l [] s h rfl h0
theorem wp_loop_nil {gs : List (Nat × List W)} {f : W → Env → Hw → R (Env × Fl)} (g : okG gs h = true) (q : Q (s, .nx) h) : wp (loopS gs f [] s h) Q := by
  show wp (bif okG gs h then .ok (s, .nx) h else .err) Q
  rw [g]; exact q
theorem wp_loop_cons {gs : List (Nat × List W)} {f : W → Env → Hw → R (Env × Fl)} {x : W} {xs : List W} (g : okG gs h = true) (q : wp (f x s h) (loopK (fun s1 h1 => wp (loopS gs f xs s1 h1) Q) Q)) : wp (loopS gs f (x :: xs) s h) Q := by
  unfold loopS
  rw [g, cond_true, wp_bind]
  refine wp_mono q fun p h1 z => ?_
  unfold loopK at z
  cases hp : p.2 with
  | nx => rw [hp] at z; exact z
  | ct => rw [hp] at z; exact z
  | bk => rw [hp] at z; exact z
  | rt w => rw [hp] at z; exact z
theorem wp_whl {c : Ex} {body : List St} (I : Nat → Env → Hw → Prop) (n : Nat) (hn : n < wf) (h0 : I n s h)
    (step : ∀ n s h, I n s h → wp (evE C c s h) fun x h1 => match tru h1 x with | some k => (bif k then ∃ m, n = m + 1 ∧ wp (exL C wf body s h1) (loopK (I m) Q) else Q (s, .nx) h1) | none => False) : wp (whlS (evT C c) (exL C wf body) wf s h) Q := by
  have go : ∀ (f n : Nat) (s : Env) (h : Hw), n < f → I n s h → wp (whlS (evT C c) (exL C wf body) f s h) Q := by
    intro f
    induction f with
    | zero => intro n s h z; exact absurd z (Nat.not_lt_zero _)
    | succ f ih =>
      intro n s h z i
      unfold whlS
      rw [wp_bind]
      unfold evT
      rw [wp_bind]
      refine wp_mono (step n s h i) fun x h1 y => ?_
      cases ht : tru h1 x with
      | none => rw [ht] at y; exact y.elim
      | some k =>
        rw [ht] at y
        rw [wp_ok]
        cases k with
        | false => exact y
        | true =>
          obtain ⟨m, rfl, y⟩ := y
          rw [cond_true, wp_bind]
          refine wp_mono y fun p h2 z2 => ?_
          unfold loopK at z2
          cases hp : p.2 with
          | nx => rw [hp] at z2; exact ih m _ _ (by omega) z2
          | ct => rw [hp] at z2; exact ih m _ _ (by omega) z2
          | bk => rw [hp] at z2; exact z2
          | rt w => rw [hp] at z2; exact z2
  exact go wf n s h hn h0
end
section
variable {α : Type} {emb : α → W} {gs : List (Nat × List W)} {f : W → Hw → R (Option W)} {h : Hw} {l : List α}
theorem loopC_pure {β : Type} (r : β → W) (g : α → Option β) (hg : okG gs h = true) (e : ∀ a ∈ l, f (emb a) h = .ok ((g a).map r) h) : loopC gs f (l.map emb) h = .ok ((l.filterMap g).map r) h := by
  induction l with
  | nil => show (bif okG gs h then R.ok [] h else .err) = _; rw [hg]; rfl
  | cons a l ih =>
    rw [List.map_cons]
    unfold loopC
    rw [hg, cond_true, e a List.mem_cons_self]
    show (loopC gs f (l.map emb) h).bind _ = _
    rw [ih fun b m => e b (List.mem_cons_of_mem _ m), ok_bind, List.filterMap_cons]
    cases g a <;> rfl
theorem fm_bif {β : Type} (g : α → β) (p : α → Bool) : ∀ l : List α, (l.filterMap fun a => bif p a then some (g a) else none) = (l.filter p).map g
  | [] => rfl
  | a :: l => by
    rw [List.filterMap_cons, List.filter_cons]
    cases p a with
    | false => exact fm_bif g p l
    | true => simp [fm_bif g p l]
theorem loopC_map {β : Type} (r : β → W) (g : α → β) (hg : okG gs h = true) (e : ∀ a ∈ l, f (emb a) h = .ok (some (r (g a))) h) : loopC gs f (l.map emb) h = .ok ((l.map g).map r) h := by
  have := loopC_pure (emb := emb) (f := f) (l := l) r (fun a => some (g a)) hg e
  rw [List.filterMap_eq_map'] at this
  exact this
theorem loopC_filter {β : Type} (r : β → W) (g : α → β) (p : α → Bool) (hg : okG gs h = true) (e : ∀ a ∈ l, f (emb a) h = .ok (bif p a then some (r (g a)) else none) h) : loopC gs f (l.map emb) h = .ok (((l.filter p).map g).map r) h := by
  have := loopC_pure (emb := emb) (f := f) (l := l) r (fun a => bif p a then some (g a) else none) hg fun a m => by
    rw [e a m]
    cases p a <;> rfl
  rw [this]
  congr 2
  clear this e hg
  induction l with
  | nil => rfl
  | cons a l ih =>
    rw [List.filterMap_cons, List.filter_cons]
    cases p a with
    | false => exact ih
    | true => simp [ih]
/-- turns that make objects of their own -/
theorem wp_loopC {Q : List W → Hw → Prop} (I : List α → List W → Hw → Prop) (h0 : I [] [] h) (hg : ∀ d ys h, I d ys h → okG gs h = true)
    (step : ∀ d a t, l = d ++ a :: t → ∀ ys h, I d ys h → wp (f (emb a) h) fun o h1 => I (d ++ [a]) (ys ++ o.toList) h1) (fin : ∀ ys h, I l ys h → Q ys h) : wp (loopC gs f (l.map emb) h) Q := by
  have go : ∀ (t d : List α) (ys : List W) (h : Hw), l = d ++ t → I d ys h → wp (loopC gs f (t.map emb) h) fun zs h1 => Q (ys ++ zs) h1 := by
    intro t
    induction t with
    | nil =>
      intro d ys h e i
      rw [List.append_nil] at e
      subst e
      show wp (bif okG gs h then .ok [] h else .err) _
      rw [hg _ _ _ i]
      show Q (ys ++ []) h
      rw [List.append_nil]
      exact fin _ _ i
    | cons a t ih =>
      intro d ys h e i
      rw [List.map_cons]
      unfold loopC
      rw [hg _ _ _ i, cond_true, wp_bind]
      obtain ⟨o, h1, e1, z⟩ := wp_get (step d a t e ys h i)
      rw [e1]
      show wp (R.ok o h1) _
      rw [wp_ok, wp_bind]
      refine wp_mono (ih (d ++ [a]) (ys ++ o.toList) h1 (by rw [e, List.append_assoc]; rfl) z) fun zs h2 q => ?_
      rw [wp_ok]
      cases o with
      | none => simpa using q
      | some w => simpa using q
  have := go l [] [] h rfl h0
  exact this
/-- turns that leave nothing -/
theorem wp_loopC_own {S : Option (Nat × Nat)} {h0 : Hw} {L : List (Nat × HW)} {Q : List W → Hw → Prop} {β : Type} (r : β → W) (g : α → Option β) (O : Own S h0 h L) (hg : ∀ h, Own S h0 h L → okG gs h = true)
    (step : ∀ a ∈ l, ∀ h, Own S h0 h L → wp (f (emb a) h) fun o h1 => o = (g a).map r ∧ ∃ L', Own S h0 h1 (L' ++ L)) (fin : ∀ h, Own S h0 h L → Q ((l.filterMap g).map r) h) : wp (loopC gs f (l.map emb) h) Q := by
  refine wp_loopC (l := l) (fun d ys h => ys = (d.filterMap g).map r ∧ Own S h0 h L) ⟨rfl, O⟩ (fun d ys h i => hg h i.2) (fun d a t e ys h i => ?_) (fun ys h i => by rw [i.1]; exact fin h i.2)
  refine wp_mono (step a (by rw [e]; simp) h i.2) fun o h1 ⟨z, L', O'⟩ => ⟨?_, O'.sub (List.sublist_append_right _ _)⟩
  rw [i.1, z, List.filterMap_append, List.map_append]
  congr 1
  cases ga : g a with
  | none => simp [ga]
  | some b => simp [ga]
end
/-! ### calls -/
section
variable {tb : List Fn} {wf k f : Nat} {fn : Fn} {ws : List W} {h : Hw}
theorem call_closed (e : tb[f]? = some fn) (hl : Nat.beq ws.length fn.np = true) (h1 : fn.lam.isNone = true) (h2 : fn.clo = false) (nr : W.noRefs ws = true) : callF tb wf (k + 1) f ws h = graft h (runF (callF tb wf k) wf fn ws Hw.nil) := by
  show (match tb[f]? with
      | some fn => bif Nat.beq ws.length fn.np && (fn.lam.isNone && !fn.clo) then (bif W.noRefs ws then graft h (runF (callF tb wf k) wf fn ws Hw.nil) else runF (callF tb wf k) wf fn ws h) else .err
      | none => .err) = _
  rw [e]
  simp only [hl, h1, h2, nr]
  rfl
theorem call_open (e : tb[f]? = some fn) (hl : Nat.beq ws.length fn.np = true) (h1 : fn.lam.isNone = true) (h2 : fn.clo = false) (nr : W.noRefs ws = false) : callF tb wf (k + 1) f ws h = runF (callF tb wf k) wf fn ws h := by
  show (match tb[f]? with
      | some fn => bif Nat.beq ws.length fn.np && (fn.lam.isNone && !fn.clo) then (bif W.noRefs ws then graft h (runF (callF tb wf k) wf fn ws Hw.nil) else runF (callF tb wf k) wf fn ws h) else .err
      | none => .err) = _
  rw [e]
  simp only [hl, h1, h2, nr]
  rfl
theorem wp_runF {C : CT} {K : W → Hw → Prop} : wp (runF C wf fn ws h) K = wp (exL C wf fn.body (ws.map some ++ List.replicate (fn.ns - fn.np) none) h) (outK K) := by
  unfold runF
  rw [wp_bind]
  congr 1
  funext p h1
  unfold outK
  obtain ⟨s, fl⟩ := p
  cases fl <;> rfl
theorem graft_val {r : R W} {v : W} (nr : v.noRef = true) (q : wp r fun w _ => w = v) : graft h r = .ok v h := by
  obtain ⟨w, g, e, rfl⟩ := wp_get q
  rw [e]
  show (bif w.noRef then R.ok w h else _) = _
  rw [nr]; rfl
theorem call_val {v : W} (e : tb[f]? = some fn) (hl : Nat.beq ws.length fn.np = true) (h1 : fn.lam.isNone = true) (h2 : fn.clo = false) (nr : W.noRefs ws = true) (nv : v.noRef = true)
    (q : wp (exL (callF tb wf k) wf fn.body (ws.map some ++ List.replicate (fn.ns - fn.np) none) Hw.nil) (outK fun w _ => w = v)) : callF tb wf (k + 1) f ws h = .ok v h := by
  rw [call_closed e hl h1 h2 nr]
  exact graft_val nv (by rw [wp_runF]; exact q)
theorem app_n (h g : Hw) : ∀ i, (Hw.app h g i).n = h.n + i
  | 0 => rfl
  | i + 1 => by
    unfold Hw.app
    split <;> (show (Hw.app h g i).n + 1 = _; rw [app_n h g i]; rfl)
theorem app_old (h g : Hw) (r : Nat) (hr : r < h.n) : ∀ i, (Hw.app h g i).get r = h.get r
  | 0 => rfl
  | i + 1 => by
    have n1 := app_n h g i
    unfold Hw.app
    split <;> (rw [Hw.new_ne _ _ (by omega)]; exact app_old h g r hr i)
theorem app_got (h g : Hw) {r : Nat} {o : HW} (e : g.get r = some o) : ∀ i, r < i → (Hw.app h g i).get (h.n + r) = some (o.up h.n)
  | 0, z => absurd z (Nat.not_lt_zero _)
  | i + 1, z => by
    have n1 := app_n h g i
    unfold Hw.app
    by_cases c : r = i
    · subst c
      rw [e]
      have := Hw.new_same (Hw.app h g r) (o.up h.n)
      rw [n1] at this
      exact this
    · split <;> (rw [Hw.new_ne _ _ (by omega)]; exact app_got h g e i (by omega))
theorem Own.graft {g : Hw} {L : List (Nat × HW)} (O : Own none Hw.nil g L) (h : Hw) : Own none h (h.app g g.n) (L.map fun p => (h.n + p.1, p.2.up h.n)) := by
  refine ⟨by rw [app_n]; omega, fun r hr _ => app_old h g r hr _, fun p m => ?_, ?_, fun p e => (by cases e)⟩
  · obtain ⟨q, mq, rfl⟩ := List.mem_map.mp m
    obtain ⟨_, b, c⟩ := O.own q mq
    exact ⟨Nat.le_add_right _ _, by rw [app_n]; exact Nat.add_lt_add_left b _, app_got h g c _ b⟩
  · rw [List.map_map]
    have := O.nd
    refine List.pairwise_iff_getElem.mpr fun i j hi hj hlt => ?_
    rw [List.length_map] at hi hj
    have n1 := List.pairwise_iff_getElem.mp O.nd i j (by rw [List.length_map]; exact hi) (by rw [List.length_map]; exact hj) hlt
    rw [List.getElem_map, List.getElem_map] at n1 ⊢
    simp only [Function.comp]
    omega
mutual
theorem up_id : ∀ (w : W) (k : Nat), w.noRef = true → w.up k = w
  | .non, _, _ => rfl
  | .bl _, _, _ => rfl
  | .int _, _, _ => rfl
  | .str _, _, _ => rfl
  | .tup xs, k, e => by
    simp only [W.noRef] at e
    simp only [W.up, ups_id xs k e]
  | .frl xs, k, e => by
    simp only [W.noRef] at e
    simp only [W.up, ups_id xs k e]
  | .ref _, _, e => by simp only [W.noRef] at e; cases e
  | .clo _, _, e => by simp only [W.noRef] at e; cases e
theorem ups_id : ∀ (ws : List W) (k : Nat), W.noRefs ws = true → W.ups k ws = ws
  | [], _, _ => rfl
  | w :: ws, k, e => by
    simp only [W.noRefs, Bool.and_eq_true] at e
    simp only [W.ups, up_id w k e.1, ups_id ws k e.2]
end
theorem call_lst {xs : List W} (e : tb[f]? = some fn) (hl : Nat.beq ws.length fn.np = true) (h1 : fn.lam.isNone = true) (h2 : fn.clo = false) (nr : W.noRefs ws = true) (nx : W.noRefs xs = true)
    (q : wp (exL (callF tb wf k) wf fn.body (ws.map some ++ List.replicate (fn.ns - fn.np) none) Hw.nil) (outK fun w g => ∃ r L, w = .ref r ∧ Own none Hw.nil g ((r, .lst xs) :: L)))
    {K : W → Hw → Prop} (c : ∀ r h', Own none h h' [(r, .lst xs)] → K (.ref r) h') : wp (callF tb wf (k + 1) f ws h) K := by
  rw [call_closed e hl h1 h2 nr]
  rw [← wp_runF] at q
  obtain ⟨w, g, eq, r, L, rfl, O⟩ := wp_get q
  rw [eq]
  show K (.ref (r + h.n)) (h.app g g.n)
  have O2 := (O.graft h).sub (L' := [(h.n + r, .lst xs)]) (by
    rw [List.map_cons]
    simp only [HW.up, ups_id xs _ nx]
    exact List.Sublist.cons_cons _ (List.nil_sublist _))
  rw [Nat.add_comm] at O2
  exact c _ _ O2
end
end TL.WP
namespace TL.WP
open PySem
/-! ### webs -/
structure Web where
  n : Nat
  roads : List (Nat × Nat)
  turns : List (List Nat)
def prW (p : Nat × Nat) : W := .tup [nW p.1, nW p.2]
def natsW (t : List Nat) : W := .tup (t.map nW)
def intsW (t : List Int) : W := .tup (t.map W.int)
def roadsW (l : List (Nat × Nat)) : W := .tup (l.map prW)
def turnsW (l : List (List Nat)) : W := .tup (l.map natsW)
def webW (G : Web) : W := .tup [nW G.n, roadsW G.roads, turnsW G.turns]
theorem noRefs_map {α : Type} {f : α → W} (hf : ∀ a, (f a).noRef = true) : ∀ l : List α, W.noRefs (l.map f) = true
  | [] => rfl
  | a :: l => by rw [List.map_cons]; simp only [W.noRefs, hf a, noRefs_map hf l]; rfl
theorem nr_int (i : Int) : (W.int i).noRef = true := rfl
theorem nr_pr (p : Nat × Nat) : (prW p).noRef = true := rfl
theorem nr_nats (t : List Nat) : (natsW t).noRef = true := noRefs_map (fun _ => rfl) t
theorem nr_ints (t : List Int) : (intsW t).noRef = true := noRefs_map (fun _ => rfl) t
theorem nr_roads (l : List (Nat × Nat)) : (roadsW l).noRef = true := noRefs_map nr_pr l
theorem nr_turns (l : List (List Nat)) : (turnsW l).noRef = true := noRefs_map nr_nats l
theorem nr_web (G : Web) : (webW G).noRef = true := by
  show (W.noRefs [nW G.n, roadsW G.roads, turnsW G.turns]) = true
  simp only [W.noRefs, nr_roads, nr_turns]; rfl
theorem nr_cons {w : W} {ws : List W} (a : w.noRef = true) (b : W.noRefs ws = true) : W.noRefs (w :: ws) = true := by simp only [W.noRefs, a, b]; rfl
/-! ### places -/
theorem atI_nat {α : Type} (xs : List α) (k : Nat) : L2.atI xs (k : Int) = xs[k]? := by
  unfold L2.atI L2.ixN
  rw [if_pos (Int.natCast_nonneg k)]
  by_cases h : k < xs.length
  · rw [if_pos (by omega)]; rfl
  · rw [if_neg (by omega), List.getElem?_eq_none (by omega)]; rfl
theorem atI_last {α : Type} (xs : List α) : L2.atI xs (-1) = xs.getLast? := by
  unfold L2.atI L2.ixN
  rw [if_neg (by decide)]
  cases xs with
  | nil => rfl
  | cons a l =>
    rw [if_pos (by simp only [List.length_cons]; omega), List.getLast?_eq_getElem?]
    show (a :: l)[(-1 + ((a :: l).length : Int)).toNat]? = _
    congr 1
    simp only [List.length_cons]
    omega
theorem ixN_nat {n k : Nat} (h : k < n) : L2.ixN n (k : Int) = some k := by
  unfold L2.ixN
  rw [if_pos (Int.natCast_nonneg k), if_pos (by omega)]; rfl
section
variable {h : Hw} {xs : List W} {w : W} {r k : Nat}
theorem idx_tup (e : xs[k]? = some w) : idxOp (.tup xs) (nW k) h = .ok w h := by
  show (match L2.atI xs (k : Int) with | some w => R.ok w h | none => .err) = _
  rw [atI_nat, e]
theorem idx_frl (e : xs[k]? = some w) : idxOp (.frl xs) (nW k) h = .ok w h := by
  show (match L2.atI xs (k : Int) with | some w => R.ok w h | none => .err) = _
  rw [atI_nat, e]
theorem idx_ref (g : h.get r = some (.lst xs)) (e : xs[k]? = some w) : idxOp (.ref r) (nW k) h = .ok w h := by
  simp only [idxOp, g, atI_nat, e]
theorem idx_last (g : h.get r = some (.lst xs)) (e : xs.getLast? = some w) : idxOp (.ref r) (.int (-1)) h = .ok w h := by
  simp only [idxOp, g, atI_last, e]
theorem idx_last1 (g : h.get r = some (.lst xs)) (e : xs.getLast? = some w) : idxOp (.ref r) (.int (-((1 : Nat) : Int))) h = .ok w h := idx_last g e
theorem idx_dct {kvs : List (L2.Key × W)} (g : h.get r = some (.dct kvs)) {y : W} {z : L2.Key} (e : keyOf y = some z) (f : kFind kvs z = some w) : idxOp (.ref r) y h = .ok w h := by
  simp only [idxOp, g, e, f]
theorem set_lst {v : W} (g : h.get r = some (.lst xs)) (e : k < xs.length) : setOp (.ref r) (nW k) v h = some (h.set r (.lst (xs.set k v))) := by
  simp only [setOp, g, ixN_nat e]
theorem idx_roads {l : List (Nat × Nat)} {p : Nat × Nat} (e : l[k]? = some p) : idxOp (roadsW l) (nW k) h = .ok (prW p) h := idx_tup (by rw [List.getElem?_map, e]; rfl)
theorem idx_turns {l : List (List Nat)} {t : List Nat} (e : l[k]? = some t) : idxOp (turnsW l) (nW k) h = .ok (natsW t) h := idx_tup (by rw [List.getElem?_map, e]; rfl)
theorem idx_nats {l : List Nat} {t : Nat} (e : l[k]? = some t) : idxOp (natsW l) (nW k) h = .ok (nW t) h := idx_tup (by rw [List.getElem?_map, e]; rfl)
theorem idx_ints {l : List Int} {t : Int} (e : l[k]? = some t) : idxOp (intsW l) (nW k) h = .ok (.int t) h := idx_tup (by rw [List.getElem?_map, e]; rfl)
end
/-! ### walks -/
theorem rngs_map : ∀ (n a : Nat), rngs (a : Int) n = (List.range' a n).map nW
  | 0, _ => rfl
  | n + 1, a => by
    rw [List.range'_succ, List.map_cons, ← rngs_map n (a + 1)]
    rfl
theorem rngs0 (n : Nat) : rngs 0 n = (List.range n).map nW := by rw [List.range_eq_range']; exact rngs_map n 0
theorem enums_map {α : Type} (emb : α → W) : ∀ (l : List α) (k : Nat), enums k (l.map emb) = (l.zipIdx k).map fun q => W.tup [nW q.2, emb q.1]
  | [], _ => rfl
  | a :: l, k => by rw [List.map_cons, List.zipIdx_cons, List.map_cons, ← enums_map emb l (k + 1)]; rfl
theorem rngOk_nat {k : Nat} (h : k ≤ 1000000) : rngOk (k : Int) = true := by
  unfold rngOk
  exact Nat.ble_eq_true_of_le (by omega)
theorem szOk_of {k : Nat} (h : k ≤ 16777216) : szOk k = true := Nat.ble_eq_true_of_le h
section
variable {h : Hw} {xs : List W} {r k : Nat}
theorem it_ref (g : h.get r = some (.lst xs)) : iterOf .seq [.ref r] h = some (xs, [(r, xs)]) := by simp only [iterOf, seqOf, grdOf, g]
theorem it_enm_ref (g : h.get r = some (.lst xs)) : iterOf .enm [.ref r] h = some (enums 0 xs, [(r, xs)]) := by simp only [iterOf, seqOf, grdOf, g]
theorem it_rng1 (hk : k ≤ 1000000) : iterOf .rng1 [nW k] h = some ((List.range k).map nW, []) := by
  show (bif rngOk (k : Int) then some (rngs 0 (k : Int).toNat, []) else none) = _
  rw [rngOk_nat hk, Int.toNat_natCast, rngs0]; rfl
theorem it_rng2 {j : Nat} (hk : k ≤ 1000000) (hj : j ≤ 1000000) : iterOf .rng2 [nW j, nW k] h = some ((List.range' j (k - j)).map nW, []) := by
  show (bif rngOk (j : Int) && rngOk (k : Int) then some (rngs j ((k : Int) - (j : Int)).toNat, []) else none) = _
  rw [rngOk_nat hk, rngOk_nat hj, show ((k : Int) - (j : Int)).toNat = k - j by omega, rngs_map]; rfl
theorem lrng1 (hk : k ≤ 1000000) : biOp .lrng1 [nW k] h = alloc (.lst ((List.range k).map nW)) h := by
  show (bif rngOk (k : Int) && szOk (k : Int).toNat then (R.ok (W.ref h.n) (h.new (.lst (rngs 0 (k : Int).toNat))) : R W) else .err) = _
  rw [rngOk_nat hk, Int.toNat_natCast, szOk_of (by omega), rngs0]; rfl
theorem beqs_id {α : Type} {emb : α → W} (hf : ∀ a, (emb a).beq (emb a) = true) : ∀ l : List α, W.beqs (l.map emb) (l.map emb) = true
  | [] => rfl
  | a :: l => by rw [List.map_cons]; simp only [W.beqs, hf a, beqs_id hf l]; rfl
theorem beq_nat (k : Nat) : (nW k).beq (nW k) = true := by simp [W.beq]
theorem beq_int (k : Int) : (W.int k).beq (W.int k) = true := by simp [W.beq]
theorem beq_ref (k : Nat) : (W.ref k).beq (W.ref k) = true := by simp only [W.beq]; exact Nat.beq_refl k
theorem beq_pr (p : Nat × Nat) : (prW p).beq (prW p) = true := by simp [W.beq, W.beqs, prW]
theorem okG0 : okG [] h = true := rfl
theorem okG1 (g : h.get r = some (.lst xs)) (e : W.beqs xs xs = true) : okG [(r, xs)] h = true := by simp only [okG, List.all_cons, List.all_nil, g, e]; rfl
end
/-! ### sums, members -/
theorem intsOf_nat : ∀ l : List Nat, intsOf (l.map nW) = some (l.map fun k : Nat => (k : Int))
  | [] => rfl
  | a :: l => by rw [List.map_cons]; simp only [intsOf, intsOf_nat l]; rfl
theorem intsOf_int : ∀ l : List Int, intsOf (l.map W.int) = some l
  | [] => rfl
  | a :: l => by rw [List.map_cons]; simp only [intsOf, intsOf_int l]
theorem sum_cast : ∀ l : List Nat, (l.map fun k : Nat => (k : Int)).sum = (l.sum : Nat)
  | [] => rfl
  | a :: l => by rw [List.map_cons, List.sum_cons, List.sum_cons, sum_cast l]; omega
section
variable {h : Hw} {xs : List W} {r k : Nat}
theorem sum_ref {l : List Nat} (g : h.get r = some (.lst (l.map nW))) : biOp .sum [.ref r] h = .ok (nW l.sum) h := by
  simp only [biOp, seqOf, g, intsOf_nat, sum_cast]
theorem sum_refI {l : List Int} (g : h.get r = some (.lst (l.map W.int))) : biOp .sum [.ref r] h = .ok (.int l.sum) h := by
  simp only [biOp, seqOf, g, intsOf_int]
theorem sum_nats {l : List Nat} : biOp .sum [natsW l] h = .ok (nW l.sum) h := by
  simp only [biOp, natsW, seqOf, intsOf_nat, sum_cast]
theorem sum_ints {l : List Int} : biOp .sum [intsW l] h = .ok (.int l.sum) h := by
  simp only [biOp, intsW, seqOf, intsOf_int]
theorem len_ref (g : h.get r = some (.lst xs)) : biOp .len [.ref r] h = .ok (nW xs.length) h := by simp only [biOp, g]
theorem tuple_ref (g : h.get r = some (.lst xs)) : biOp .tuple [.ref r] h = .ok (.tup xs) h := by simp only [biOp, seqOf, g]
theorem list_ref (g : h.get r = some (.lst xs)) : biOp .list [.ref r] h = alloc (.lst xs) h := by simp only [biOp, seqOf, g]; rfl
theorem list_tup : biOp .list [.tup xs] h = alloc (.lst xs) h := rfl
/-! data of lists of whole numbers -/
theorem optAll_map {α β : Type} {f : α → Option β} {g : α → β} (e : ∀ a, f a = some (g a)) : ∀ l : List α, optAll (l.map f) = some (l.map g)
  | [] => rfl
  | a :: l => by rw [List.map_cons, e a]; simp only [optAll, optAll_map e l]; rfl
theorem toD_ints (f : Nat) (l : List Int) : optAll ((l.map W.int).map (toD (f + 1) h)) = some (l.map PyData.int) := by
  rw [List.map_map]
  exact optAll_map (fun a => rfl) l
theorem toD_nats (f : Nat) (l : List Nat) : optAll ((l.map nW).map (toD (f + 1) h)) = some (l.map fun k : Nat => PyData.int (k : Int)) := by
  rw [List.map_map]
  exact optAll_map (fun a => rfl) l
theorem lay_all {ds : List PyData} (e : ∀ d ∈ ds, d.canLay0 = true) : PyData.canLayAll0 ds = true := by
  induction ds with
  | nil => rfl
  | cons d ds ih => simp only [PyData.canLayAll0, e d List.mem_cons_self, ih fun x m => e x (List.mem_cons_of_mem _ m)]; rfl
theorem depth_all {ds : List PyData} {m : Nat} (e : ∀ d ∈ ds, d.depth ≤ m) : PyData.depthAll ds ≤ m := by
  induction ds with
  | nil => exact Nat.zero_le _
  | cons d ds ih =>
    simp only [PyData.depthAll]
    exact Nat.max_le.mpr ⟨e d List.mem_cons_self, ih fun x z => e x (List.mem_cons_of_mem _ z)⟩
theorem shaped_list {ds : List PyData} {m : Nat} (hm : m ≤ 60) (e : ∀ d ∈ ds, d.canLay0 = true ∧ d.depth ≤ m) : SeqAt.shaped (.list ds) = true := by
  unfold SeqAt.shaped
  rw [Bool.and_eq_true]
  refine ⟨lay_all fun d z => (e d z).1, decide_eq_true ?_⟩
  show PyData.depthAll ds + 1 ≤ 64
  have := depth_all fun d z => (e d z).2
  omega
theorem shaped_tuple {ds : List PyData} {m : Nat} (hm : m ≤ 60) (e : ∀ d ∈ ds, d.canLay0 = true ∧ d.depth ≤ m) : SeqAt.shaped (.tuple ds) = true := by
  unfold SeqAt.shaped
  rw [Bool.and_eq_true]
  refine ⟨lay_all fun d z => (e d z).1, decide_eq_true ?_⟩
  show PyData.depthAll ds + 1 ≤ 64
  have := depth_all fun d z => (e d z).2
  omega
theorem eqvAll_ints : ∀ l m : List Int, PyData.eqvAll (l.map PyData.int) (m.map PyData.int) = decide (l = m)
  | [], [] => rfl
  | [], b :: m => rfl
  | a :: l, [] => rfl
  | a :: l, b :: m => by
    rw [List.map_cons, List.map_cons]
    simp only [PyData.eqvAll, PyData.eqv, eqvAll_ints l m]
    by_cases x : a = b
    · subst x; by_cases y : l = m <;> simp [y]
    · simp [x]
theorem dat_ref {ds : List PyData} (g : h.get r = some (.lst xs)) (e : optAll (xs.map (toD 39 h)) = some ds) : dat h (.ref r) = some (.list ds) := by
  show toD 40 h (.ref r) = _
  simp only [toD, g, e]
theorem eqW_lists {l m : List Int} {q : Nat} (g1 : h.get r = some (.lst (l.map W.int))) (g2 : h.get q = some (.lst (m.map W.int))) : eqW h (.ref r) (.ref q) = some (decide (l = m)) := by
  show (match dat h (.ref r), dat h (.ref q) with
    | some d, some e => bif SeqAt.shaped d && SeqAt.shaped e then some (PyData.eqv d e) else none
    | _, _ => none) = _
  rw [dat_ref g1 (toD_ints 38 l), dat_ref g2 (toD_ints 38 m)]
  have s : ∀ l : List Int, SeqAt.shaped (.list (l.map PyData.int)) = true := fun l => shaped_list (m := 0) (by decide) fun d z => by
    obtain ⟨i, _, rfl⟩ := List.mem_map.mp z
    exact ⟨rfl, Nat.le_refl _⟩
  simp only [s, PyData.eqv, eqvAll_ints]
  rfl
theorem nats_ints (l : List Nat) : l.map nW = (l.map fun k : Nat => (k : Int)).map W.int := by rw [List.map_map]; rfl
theorem cast_inj {l m : List Nat} : (l.map fun k : Nat => (k : Int)) = (m.map fun k : Nat => (k : Int)) ↔ l = m := by
  refine ⟨fun e => ?_, fun e => by rw [e]⟩
  exact (List.map_inj_right fun _ _ e => Int.ofNat.inj e).mp e
theorem eqW_nats {l m : List Nat} {q : Nat} (g1 : h.get r = some (.lst (l.map nW))) (g2 : h.get q = some (.lst (m.map nW))) : eqW h (.ref r) (.ref q) = some (decide (l = m)) := by
  rw [nats_ints] at g1 g2
  rw [eqW_lists g1 g2]
  congr 1
  simp only [cast_inj]
theorem cmp_eq {x y : W} {b : Bool} (e : eqW h x y = some b) : cmpOp .eq x y h = some b := e
theorem cmp_ne {x y : W} {b : Bool} (e : eqW h x y = some b) : cmpOp .ne x y h = some (!b) := by
  show notO (eqW h x y) = _
  rw [e]; rfl
/-- k in a list -/
theorem any_nat (k : Nat) : ∀ l : List Nat, ((l.map fun k : Nat => PyData.int (k : Int)).any fun z => PyData.eqv z (.int (k : Int))) = decide (k ∈ l)
  | [] => rfl
  | a :: l => by
    rw [List.map_cons, List.any_cons, any_nat k l]
    simp only [PyData.eqv, List.mem_cons]
    by_cases e : a = k
    · subst e; simp
    · have : ¬ k = a := fun z => e z.symm
      simp [e, this]
      omega
theorem in_list {l : List Nat} (g : h.get r = some (.lst (l.map nW))) : inOp (nW k) (.ref r) h = some (decide (k ∈ l)) := by
  have s : SeqAt.shaped (.list (l.map fun k : Nat => PyData.int (k : Int))) = true := shaped_list (m := 0) (by decide) fun d z => by
    obtain ⟨i, _, rfl⟩ := List.mem_map.mp z
    exact ⟨rfl, Nat.le_refl _⟩
  have e := toD_nats (h := h) 38 l
  have d1 : dat h (nW k) = some (.int (k : Int)) := rfl
  simp only [inOp, g, e, d1, s, any_nat]
  rfl
theorem in_nats {l : List Nat} : inOp (nW k) (natsW l) h = some (decide (k ∈ l)) := by
  have e : optAll ((l.map nW).map flatW) = some (l.map fun k : Nat => L2.V.int (k : Int)) := by
    rw [List.map_map]; exact optAll_map (fun a => rfl) l
  have f : flatW (nW k) = some (.int (k : Int)) := rfl
  simp only [inOp, natsW, e, f]
  congr 1
  induction l with
  | nil => rfl
  | cons a l ih =>
    rw [List.map_cons]
    unfold L2.inV at ih ⊢
    rw [List.any_cons, ih]
    · simp only [List.mem_cons]
      show ((a : Int) == (k : Int) || _) = _
      by_cases e : a = k
      · subst e; simp
      · have : ¬ k = a := fun z => e z.symm
        simp [e, this]
        omega
    · rw [List.map_map]; exact optAll_map (fun a => rfl) l
theorem cmp_in {x y : W} {b : Bool} (e : inOp x y h = some b) : cmpOp .isin x y h = some b := e
theorem cmp_notin {x y : W} {b : Bool} (e : inOp x y h = some b) : cmpOp .notin x y h = some (!b) := by
  show notO (inOp x y h) = _
  rw [e]; rfl
end
/-- what webs are made of -/
theorem wbs :
    (∀ (G : Web), nc (webW G) = some (webW G)) ∧
    (∀ (G : List (Nat × Nat)), nc (roadsW G) = some (roadsW G)) ∧
    (∀ (G : List (List Nat)), nc (turnsW G) = some (turnsW G)) ∧
    (∀ (G : List Nat), nc (natsW G) = some (natsW G)) ∧
    (∀ (G : List Int), nc (intsW G) = some (intsW G)) ∧
    (∀ (G : Nat × Nat), nc (prW G) = some (prW G)) ∧
    (∀ (G : Web) (h : Hw), idxOp (webW G) (nW 0) h = .ok (nW G.n) h) ∧
    (∀ (G : Web) (h : Hw), idxOp (webW G) (nW 1) h = .ok (roadsW G.roads) h) ∧
    (∀ (G : Web) (h : Hw), idxOp (webW G) (nW 2) h = .ok (turnsW G.turns) h) ∧
    (∀ (p : Nat × Nat) (h : Hw), idxOp (prW p) (nW 0) h = .ok (nW p.1) h) ∧
    (∀ (p : Nat × Nat) (h : Hw), idxOp (prW p) (nW 1) h = .ok (nW p.2) h) ∧
    (∀ (ts : List Tg) (p : Nat × Nat) (s : Env) (h : Hw), asg (.tp ts) (prW p) s h = asgs ts [nW p.1, nW p.2] s h) ∧
    (∀ (l : List (Nat × Nat)) (h : Hw), biOp .len [roadsW l] h = .ok (nW l.length) h) ∧
    (∀ (l : List Nat) (h : Hw), biOp .len [natsW l] h = .ok (nW l.length) h) ∧
    (∀ (l : List Int) (h : Hw), biOp .len [intsW l] h = .ok (nW l.length) h) ∧
    (∀ (l : List (Nat × Nat)) (h : Hw), iterOf .seq [roadsW l] h = some (l.map prW, [])) ∧
    (∀ (l : List (List Nat)) (h : Hw), iterOf .seq [turnsW l] h = some (l.map natsW, [])) ∧
    (∀ (l : List Nat) (h : Hw), iterOf .seq [natsW l] h = some (l.map nW, [])) ∧
    (∀ (l : List Int) (h : Hw), iterOf .seq [intsW l] h = some (l.map W.int, [])) ∧
    (∀ (p : Nat × Nat) (h : Hw), iterOf .seq [prW p] h = some ([p.1, p.2].map nW, [])) ∧
    (∀ (l : List (Nat × Nat)) (h : Hw), iterOf .enm [roadsW l] h = some (l.zipIdx.map fun q => W.tup [nW q.2, prW q.1], [])) ∧
    (∀ (l : List (List Nat)) (h : Hw), iterOf .enm [turnsW l] h = some (l.zipIdx.map fun q => W.tup [nW q.2, natsW q.1], [])) ∧
    (∀ (l : List Nat) (h : Hw), iterOf .enm [natsW l] h = some (l.zipIdx.map fun q => W.tup [nW q.2, nW q.1], [])) ∧
    (∀ (l : List Int) (h : Hw), iterOf .enm [intsW l] h = some (l.zipIdx.map fun q => W.tup [nW q.2, W.int q.1], [])) ∧
    (szOk ([] : List W).length = true) ∧
    (∀ (a : W), szOk [a].length = true) ∧
    (∀ (a b : W), szOk [a, b].length = true) ∧
    (∀ (a b c : W), szOk [a, b, c].length = true) ∧
    (∀ (a b c d : W), szOk [a, b, c, d].length = true) ∧
    (∀ (a b c d e : W), szOk [a, b, c, d, e].length = true) := by
  refine ⟨fun _ => rfl, fun _ => rfl, fun _ => rfl, fun _ => rfl, fun _ => rfl, fun _ => rfl, fun _ _ => rfl, fun _ _ => rfl, fun _ _ => rfl, fun _ _ => rfl, fun _ _ => rfl, fun _ _ _ _ => rfl, fun _ _ => ?_, fun _ _ => ?_, fun _ _ => ?_, fun _ _ => rfl, fun _ _ => rfl, fun _ _ => rfl, fun _ _ => rfl, fun _ _ => rfl,
    fun l h => ?_, fun l h => ?_, fun l h => ?_, fun l h => ?_, rfl, fun _ => rfl, fun _ _ => rfl, fun _ _ _ => rfl, fun _ _ _ _ => rfl, fun _ _ _ _ _ => rfl⟩
  · simp only [biOp, roadsW, List.length_map]
  · simp only [biOp, natsW, List.length_map]
  · simp only [biOp, intsW, List.length_map]
  · show some (enums 0 (l.map prW), []) = _
    rw [enums_map]
  · show some (enums 0 (l.map natsW), []) = _
    rw [enums_map]
  · show some (enums 0 (l.map nW), []) = _
    rw [enums_map]
  · show some (enums 0 (l.map W.int), []) = _
    rw [enums_map]
/-- the start of a call -/
theorem frm :
    (∀ (α β : Type) (f : α → β), List.map f [] = []) ∧
    (∀ (α β : Type) (f : α → β) (a : α) (l : List α), List.map f (a :: l) = f a :: List.map f l) ∧
    (∀ (s : TL.Env), s ++ [] = s) ∧
    (∀ (s : TL.Env), [] ++ s = s) ∧
    (∀ (a : Option W) (s t : TL.Env), (a :: s) ++ t = a :: (s ++ t)) ∧
    (∀ (a : Option W), List.replicate 0 a = []) ∧
    (∀ (a : Option W) (n : Nat), List.replicate (n + 1) a = a :: List.replicate n a) ∧
    (∀ (a : Nat), a - 0 = a) ∧
    (∀ (a b : Nat), (a + 1) - (b + 1) = a - b) := ⟨fun _ _ _ => rfl, fun _ _ _ _ _ => rfl, fun _ => List.append_nil _, fun _ => rfl, fun _ _ _ => rfl, fun _ => rfl, fun _ _ => rfl, fun _ => rfl, fun _ _ => Nat.add_sub_add_right _ _ _⟩
def ev := And.intro evs (And.intro evl wbs)
theorem cmps : ∀ (C : CT) (s : TL.Env) (h : Hw) (elt : Ex) (tg : Tg) (k : ItK) (its ifs : List Ex) (own : List Nat), evE C (.comp elt tg k its ifs own) s h = (evL C its s h).bind fun ws h1 => match iterOf k ws h1 with
    | some (xs, gs) => bif szOk xs.length then (loopC gs (turnE C tg ifs elt (wipeW s own)) xs h1).bind fun ys h5 => alloc (.lst ys) h5 else .err
    | none => .err := fun _ _ _ _ _ _ _ _ _ => rfl
def go := And.intro ev (And.intro sts (And.intro frm cmps))
/-- any two whole numbers -/
theorem cmpI :
    (∀ (i j : Int) (h : Hw), cmpOp .eq (.int i) (.int j) h = some (decide (i = j))) ∧
    (∀ (i j : Int) (h : Hw), cmpOp .ne (.int i) (.int j) h = some (!decide (i = j))) ∧
    (∀ (i j : Int) (h : Hw), cmpOp .lt (.int i) (.int j) h = some (decide (i < j))) ∧
    (∀ (i j : Int) (h : Hw), cmpOp .le (.int i) (.int j) h = some (decide (i ≤ j))) ∧
    (∀ (i j : Int) (h : Hw), cmpOp .gt (.int i) (.int j) h = some (decide (j < i))) ∧
    (∀ (i j : Int) (h : Hw), cmpOp .ge (.int i) (.int j) h = some (decide (j ≤ i))) := by
  refine ⟨fun i j _ => ?_, fun i j _ => ?_, fun _ _ _ => rfl, fun _ _ _ => rfl, fun _ _ _ => rfl, fun _ _ _ => rfl⟩
  · show some (i == j) = _
    rfl
  · show some (!(i == j)) = _
    rfl
theorem addI {i j : Int} {h : Hw} : binOp .add (.int i) (.int j) h = .ok (.int (i + j)) h := rfl
theorem subI {i j : Int} {h : Hw} : binOp .sub (.int i) (.int j) h = .ok (.int (i - j)) h := rfl
theorem subN {i j : Nat} {h : Hw} (e : j ≤ i) : binOp .sub (nW i) (nW j) h = .ok (nW (i - j)) h := by
  show R.ok (W.int ((i : Int) - (j : Int))) h = _
  rw [← Int.ofNat_sub e]
theorem mulN {i j : Nat} {h : Hw} (e : i ≤ 1000000000000 ∨ j ≤ 1000000000000) : binOp .mul (nW i) (nW j) h = .ok (nW (i * j)) h := by
  show (bif small (i : Int) || small (j : Int) then R.ok (W.int ((i : Int) * (j : Int))) h else .err) = _
  have : (small (i : Int) || small (j : Int)) = true := by
    rw [Bool.or_eq_true]
    rcases e with e | e
    · exact .inl (Nat.ble_eq_true_of_le (by omega))
    · exact .inr (Nat.ble_eq_true_of_le (by omega))
  rw [this]
  show R.ok (W.int ((i : Int) * (j : Int))) h = _
  congr 2
theorem rep_ref {r k : Nat} {xs : List W} {h : Hw} (g : h.get r = some (.lst xs)) (hk : k ≤ 1000) (hx : xs.length ≤ 1000) : binOp .mul (.ref r) (nW k) h = alloc (.lst (List.replicate k xs).flatten) h := by
  show (match h.get r with
    | some (.lst xs) => bif Nat.ble (k : Int).natAbs 4611686018427387904 && szOk (xs.length * (k : Int).toNat) then R.ok (W.ref h.n) (h.new (HW.lst (List.replicate (k : Int).toNat xs).flatten)) else .err
    | _ => .err) = _
  rw [g]
  have h1 : xs.length * k ≤ 1000 * 1000 := Nat.mul_le_mul hx hk
  simp only [Int.toNat_natCast]
  rw [szOk_of (by omega), show Nat.ble (k : Int).natAbs 4611686018427387904 = true from Nat.ble_eq_true_of_le (by omega)]
  rfl
theorem rep_one {α : Type} (a : α) : ∀ k, (List.replicate k [a]).flatten = List.replicate k a
  | 0 => rfl
  | k + 1 => by rw [List.replicate_succ, List.flatten_cons, rep_one a k]; rfl
theorem cat_ref {r q : Nat} {xs ys : List W} {h : Hw} (g1 : h.get r = some (.lst xs)) (g2 : h.get q = some (.lst ys)) (e : xs.length + ys.length ≤ 16777216) : binOp .add (.ref r) (.ref q) h = alloc (.lst (xs ++ ys)) h := by
  simp only [binOp, g1, g2, szOk_of e]
  rfl
end TL.WP
/-! Tables of numbers: a list of lists. -/
namespace TL.WP
open PySem
theorem Own.perm {S : Option (Nat × Nat)} {h0 h : Hw} {L L' : List (Nat × HW)} (O : Own S h0 h L) (p : L.Perm L') : Own S h0 h L' := ⟨O.le, O.eq, fun q m => O.own q (p.mem_iff.mpr m), (p.map _).nodup_iff.mp O.nd, O.src⟩
def rowO (n : Nat) (f : Nat → Nat) : HW := .lst ((List.range n).map fun w => nW (f w))
def rowsO (n : Nat) (f : Nat → Nat → Nat) (rs : List Nat) : List (Nat × HW) := rs.zipIdx.map fun q => (q.1, rowO n (f q.2))
def matO (n : Nat) (f : Nat → Nat → Nat) (r : Nat) (rs : List Nat) : List (Nat × HW) := (r, .lst (rs.map W.ref)) :: rowsO n f rs
def updF (f : Nat → Nat → Nat) (v w x : Nat) : Nat → Nat → Nat := fun i j => if i = v ∧ j = w then x else f i j
section
variable {S : Option (Nat × Nat)} {h0 h : Hw} {L : List (Nat × HW)} {n r v w a : Nat} {rs : List Nat} {f : Nat → Nat → Nat}
theorem matO_nil : matO n f r rs ++ [] = matO n f r rs := List.append_nil _
theorem rows_at (e : rs[v]? = some a) : (rowsO n f rs)[v]? = some (a, rowO n (f v)) := by
  unfold rowsO
  rw [List.getElem?_map, List.getElem?_zipIdx, e]
  simp
theorem Own.row (O : Own S h0 h (matO n f r rs ++ L)) (e : rs[v]? = some a) : h.get a = some (rowO n (f v)) :=
  O.at (v + 1) (by
    rw [List.getElem?_append_left]
    · unfold matO; rw [List.getElem?_cons_succ]; exact rows_at e
    · have := (List.getElem?_eq_some_iff.mp e).1
      unfold matO rowsO
      rw [List.length_cons, List.length_map, List.length_zipIdx]; omega)
theorem set_range {α : Type} (g : Nat → α) (n w : Nat) (x : α) : ((List.range n).map g).set w x = (List.range n).map fun j => if j = w then x else g j := by
  apply List.ext_getElem?
  intro i
  rw [List.getElem?_set, List.getElem?_map, List.getElem?_map, List.length_map, List.length_range]
  by_cases hi : i < n
  · rw [List.getElem?_range hi]
    by_cases e : w = i
    · subst e; simp [hi]
    · have : ¬ i = w := fun z => e z.symm
      simp [e, this]
  · rw [List.getElem?_eq_none (by rw [List.length_range]; omega)]
    by_cases e : w = i
    · subst e; simp [hi]
    · simp [e]
theorem Own.setRow (O : Own S h0 h (matO n f r rs ++ L)) (e : rs[v]? = some a) (w x : Nat) : Own S h0 (h.set a (.lst (((List.range n).map fun w => nW (f v w)).set w (nW x)))) (matO n (updF f v w x) r rs ++ L) := by
  have hv := (List.getElem?_eq_some_iff.mp e).1
  have e1 : (matO n f r rs ++ L)[v + 1]? = some (a, rowO n (f v)) := by
    rw [List.getElem?_append_left]
    · unfold matO; rw [List.getElem?_cons_succ]; exact rows_at e
    · unfold matO rowsO
      rw [List.length_cons, List.length_map, List.length_zipIdx]; omega
  have := O.set (v + 1) e1 (.lst (((List.range n).map fun w => nW (f v w)).set w (nW x)))
  have z : (matO n f r rs ++ L).set (v + 1) (a, .lst (((List.range n).map fun w => nW (f v w)).set w (nW x))) = matO n (updF f v w x) r rs ++ L := by
    rw [set_range]
    unfold matO
    rw [List.cons_append, List.set_cons_succ, List.cons_append]
    congr 1
    rw [List.set_append_left _ _ (by unfold rowsO; rw [List.length_map, List.length_zipIdx]; exact hv)]
    congr 1
    apply List.ext_getElem?
    intro i
    unfold rowsO
    rw [List.getElem?_set, List.getElem?_map, List.getElem?_map, List.getElem?_zipIdx, List.length_map, List.length_zipIdx]
    split
    · rename_i ei
      subst ei
      rw [e]
      simp only [Option.map_some, rowO, Nat.zero_add]
      congr 4
      funext j
      unfold updF
      by_cases q : j = w <;> simp [q]
    · rename_i ei
      cases q : rs[i]? with
      | none => rfl
      | some b =>
        simp only [Option.map_some, rowO, Nat.zero_add]
        congr 4
        funext j
        unfold updF
        have : ¬ i = v := fun z => ei z.symm
        simp [this]
  rw [z] at this
  exact this
theorem Own.idxRow (O : Own S h0 h (matO n f r rs ++ L)) (e : rs[v]? = some a) : idxOp (.ref r) (nW v) h = .ok (.ref a) h := idx_ref (O.at 0 rfl) (by rw [List.getElem?_map, e]; rfl)
theorem Own.idxAt (O : Own S h0 h (matO n f r rs ++ L)) (e : rs[v]? = some a) (hw : w < n) : idxOp (.ref a) (nW w) h = .ok (nW (f v w)) h := idx_ref (O.row e) (by rw [List.getElem?_map, List.getElem?_range hw]; rfl)
theorem Own.setAt (O : Own S h0 h (matO n f r rs ++ L)) (e : rs[v]? = some a) (hw : w < n) (x : Nat) : ∃ h1, setOp (.ref a) (nW w) (nW x) h = some h1 ∧ Own S h0 h1 (matO n (updF f v w x) r rs ++ L) :=
  ⟨_, set_lst (O.row e) (by rw [List.length_map, List.length_range]; exact hw), O.setRow e w x⟩
theorem row_at (hw : w < n) : ((List.range n).map fun w => nW (f v w))[w]? = some (nW (f v w)) := by
  rw [List.getElem?_map, List.getElem?_range hw]; rfl
end
/-- a call's table -/
theorem call_mat {tb : List Fn} {wf k f : Nat} {fn : Fn} {ws : List W} {h : Hw} {n : Nat} {F : Nat → Nat → Nat} (e : tb[f]? = some fn) (hl : Nat.beq ws.length fn.np = true) (h1 : fn.lam.isNone = true) (h2 : fn.clo = false) (nr : W.noRefs ws = true)
    (q : wp (exL (callF tb wf k) wf fn.body (ws.map some ++ List.replicate (fn.ns - fn.np) none) Hw.nil) (outK fun w g => ∃ r rs L, w = .ref r ∧ rs.length = n ∧ Own none Hw.nil g (matO n F r rs ++ L)))
    {K : W → Hw → Prop} (c : ∀ r rs h', rs.length = n → Own none h h' (matO n F r rs) → K (.ref r) h') : wp (callF tb wf (k + 1) f ws h) K := by
  rw [call_closed e hl h1 h2 nr]
  rw [← wp_runF] at q
  obtain ⟨w, g, eq, r, rs, L, rfl, hn, O⟩ := wp_get q
  rw [eq]
  show K (.ref (r + h.n)) (h.app g g.n)
  have O2 := (O.sub (List.sublist_append_left _ _)).graft h
  refine c _ (rs.map (· + h.n)) _ (by rw [List.length_map]; exact hn) ?_
  have z : (matO n F r rs).map (fun p => (h.n + p.1, p.2.up h.n)) = matO n F (r + h.n) (rs.map (· + h.n)) := by
    have u : ∀ rs : List Nat, W.ups h.n (rs.map W.ref) = (rs.map (· + h.n)).map W.ref := by
      intro rs
      induction rs with
      | nil => rfl
      | cons a l ih => rw [List.map_cons]; simp only [W.ups, W.up, ih]; rfl
    unfold matO
    rw [List.map_cons]
    simp only [HW.up, u]
    rw [Nat.add_comm]
    congr 1
    unfold rowsO
    rw [List.map_map, List.zipIdx_map, List.map_map]
    apply List.map_congr_left
    intro q _
    simp only [Function.comp, rowO, HW.up]
    rw [ups_id _ _ (noRefs_map (fun _ => rfl) _), Nat.add_comm]
    rfl
  rw [z] at O2
  exact O2
theorem sz_map {α : Type} {f : α → W} {l : List α} (e : l.length ≤ 1000000) : szOk (l.map f).length = true := by rw [List.length_map]; exact szOk_of (by omega)
theorem sz_rng {f : Nat → W} {n : Nat} (e : n ≤ 1000) : szOk ((List.range n).map f).length = true := sz_map (by rw [List.length_range]; omega)
theorem rep_rng {α : Type} (a : α) (n : Nat) : List.replicate n a = (List.range n).map fun _ => a := by
  apply List.ext_getElem?
  intro i
  rw [List.getElem?_replicate, List.getElem?_map]
  by_cases hi : i < n
  · rw [List.getElem?_range hi]; simp [hi]
  · rw [List.getElem?_eq_none (by rw [List.length_range]; omega)]; simp [hi]
theorem rows_const (n : Nat) (f : Nat → Nat) (rs : List Nat) : rs.map (fun r => (r, rowO n f)) = rowsO n (fun _ => f) rs := by
  unfold rowsO
  apply List.ext_getElem?
  intro i
  rw [List.getElem?_map, List.getElem?_map, List.getElem?_zipIdx]
  cases rs[i]? <;> rfl
theorem refs_zip (rs : List Nat) : rs.map W.ref = rs.zipIdx.map fun q => W.ref q.1 := by
  apply List.ext_getElem?
  intro i
  rw [List.getElem?_map, List.getElem?_map, List.getElem?_zipIdx]
  cases rs[i]? <;> rfl
theorem zip_at {α : Type} {l : List α} {q : α × Nat} (m : q ∈ l.zipIdx) : l[q.2]? = some q.1 := List.mem_zipIdx_iff_getElem?.mp m
theorem zip_range {α β : Type} (l : List α) (F : Nat → β) : (l.zipIdx.map fun q => F q.2) = (List.range l.length).map F := by
  apply List.ext_getElem?
  intro i
  rw [List.getElem?_map, List.getElem?_map, List.getElem?_zipIdx]
  by_cases hi : i < l.length
  · rw [List.getElem?_range hi, List.getElem?_eq_getElem hi]; simp
  · rw [List.getElem?_eq_none (by omega), List.getElem?_eq_none (by rw [List.length_range]; omega)]; rfl
theorem asg_ref {ts : List Tg} {r : Nat} {xs : List W} {s : Env} {h : Hw} (g : h.get r = some (.lst xs)) : asg (.tp ts) (.ref r) s h = asgs ts xs s h := by simp only [asg, g]
theorem call_some {tb : List Fn} {wf k f : Nat} {fn : Fn} {ws : List W} {h : Hw} {P : W → Prop} (e : tb[f]? = some fn) (hl : Nat.beq ws.length fn.np = true) (h1 : fn.lam.isNone = true) (h2 : fn.clo = false) (nr : W.noRefs ws = true)
    (q : wp (exL (callF tb wf k) wf fn.body (ws.map some ++ List.replicate (fn.ns - fn.np) none) Hw.nil) (outK fun w _ => w.noRef = true ∧ P w)) : ∃ w, callF tb wf (k + 1) f ws h = .ok w h ∧ w.noRef = true ∧ P w := by
  rw [call_closed e hl h1 h2 nr]
  rw [← wp_runF] at q
  obtain ⟨w, g, eq, nv, p⟩ := wp_get q
  rw [eq]
  refine ⟨w, ?_, nv, p⟩
  show (bif w.noRef then R.ok w h else _) = _
  rw [nv]; rfl
/-- the sums of a table's rows -/
theorem rowSums {S : Option (Nat × Nat)} {h0 h : Hw} {L : List (Nat × HW)} {n r : Nat} {rs : List Nat} {f : Nat → Nat → Nat} {F : W → Hw → R (Option W)} (O : Own S h0 h (matO n f r rs ++ L)) (hl : rs.length = n)
    (e : ∀ a v, rs[v]? = some a → biOp .sum [.ref a] h = .ok (nW ((List.range n).map (f v)).sum) h → F (.ref a) h = .ok (some (nW ((List.range n).map (f v)).sum)) h) :
    loopC [(r, rs.map W.ref)] F (rs.map W.ref) h = .ok (((List.range n).map fun v => ((List.range n).map (f v)).sum).map nW) h := by
  have g : okG [(r, rs.map W.ref)] h = true := okG1 (O.at 0 rfl) (beqs_id beq_ref rs)
  have := loopC_map (emb := fun q : Nat × Nat => W.ref q.1) (f := F) (l := rs.zipIdx) nW (fun q => ((List.range n).map (f q.2)).sum) g fun q m => by
    refine e q.1 q.2 (zip_at m) ?_
    refine sum_ref ?_
    rw [O.row (zip_at m)]
    unfold rowO
    rw [List.map_map]; rfl
  rw [← refs_zip, zip_range rs (fun v => ((List.range n).map (f v)).sum), hl] at this
  exact this
end TL.WP
/-! Dicts whose values are all True; appending, taking. -/
namespace TL.WP
open PySem
def keysD (l : List Nat) : List (L2.Key × W) := l.map fun v : Nat => ((Sum.inl (v : Int) : L2.Key), W.bl true)
def dctO (l : List Nat) : HW := .dct (keysD l)
theorem kFind_keys (k : Nat) : ∀ l : List Nat, (kFind (keysD l) (.inl (k : Int))).isSome = decide (k ∈ l)
  | [] => rfl
  | a :: l => by
    have ih := kFind_keys k l
    unfold keysD at ih ⊢
    rw [List.map_cons]
    unfold kFind
    by_cases e : a = k
    · subst e; simp
    · have h1 : ¬ ((Sum.inl (a : Int) : L2.Key) = Sum.inl (k : Int)) := fun z => e (by have := Sum.inl.inj z; omega)
      have h2 : ¬ k = a := fun z => e z.symm
      rw [if_neg h1, ih]
      simp [h2]
theorem kPut_keys {k : Nat} {l : List Nat} (e : k ∉ l) : kPut (keysD l) (.inl (k : Int)) (.bl true) = keysD (l ++ [k]) := by
  unfold kPut
  rw [if_neg]
  · unfold keysD; rw [List.map_append]; rfl
  · intro z
    rw [List.any_eq_true] at z
    obtain ⟨p, m, q⟩ := z
    obtain ⟨v, mv, rfl⟩ := List.mem_map.mp m
    have q := of_decide_eq_true q
    simp only at q
    have := Sum.inl.inj q
    have : v = k := by omega
    exact e (this ▸ mv)
section
variable {h : Hw} {r k : Nat} {l : List Nat}
theorem in_dct (g : h.get r = some (dctO l)) : inOp (nW k) (.ref r) h = some (decide (k ∈ l)) := by
  have e : h.get r = some (.dct (keysD l)) := g
  simp only [inOp, e]
  show some (kFind (keysD l) (.inl (k : Int))).isSome = _
  rw [kFind_keys]
theorem set_dct (g : h.get r = some (dctO l)) (e : k ∉ l) (z : l.length ≤ 1000000) : setOp (.ref r) (nW k) (.bl true) h = some (h.set r (dctO (l ++ [k]))) := by
  have e1 : h.get r = some (.dct (keysD l)) := g
  simp only [setOp, e1]
  show (bif Nat.ble ((keysD l).length + 1) 16777216 then some (h.set r (.dct (kPut (keysD l) (.inl (k : Int)) (.bl true)))) else none) = _
  rw [kPut_keys e, show Nat.ble ((keysD l).length + 1) 16777216 = true from Nat.ble_eq_true_of_le (by unfold keysD; rw [List.length_map]; omega)]
  rfl
end
def allocD (kvs : List (L2.Key × W)) (h : Hw) : R W := .ok (.ref h.n) ((h.new (.dct [])).set h.n (.dct kvs))
theorem wp_allocD {S : Option (Nat × Nat)} {h0 h : Hw} {L : List (Nat × HW)} {kvs : List (L2.Key × W)} {K : W → Hw → Prop} (O : Own S h0 h L) (q : ∀ r h', Own S h0 h' ((r, .dct kvs) :: L) → K (.ref r) h') : wp (allocD kvs h) K :=
  q _ _ ((O.new (.dct [])).set 0 rfl (.dct kvs))
section
variable {C : CT} {s : TL.Env} {h : Hw}
theorem dcts :
    (∀ (C : CT) (s : TL.Env) (h : Hw), evE C (.dct []) s h = allocD [] h) ∧
    (∀ (C : CT) (s : TL.Env) (h : Hw) (i : Nat) (b : Bool), evE C (.dct [.var i, .bl b]) s h = match slotV s i with
      | some w => (match keyOf w with
        | some k => allocD [(k, .bl b)] h
        | none => .err)
      | none => .err) ∧
    (∀ (i : Nat), keyOf (nW i) = some (.inl (i : Int))) := by
  refine ⟨fun C s h => ?_, fun C s h i b => ?_, fun _ => rfl⟩
  · simp only [evE, evD, ok_bind, Hw.new_same]
    rfl
  · simp only [evE, evD]
    cases slotV s i with
    | none => rfl
    | some w =>
      simp only [ok_bind]
      cases keyOf w with
      | none => rfl
      | some k =>
        simp only [ok_bind, Hw.new_same]
        rfl
/-- a list grows -/
theorem app_lst {r : Nat} {xs : List W} {w : W} (g : h.get r = some (.lst xs)) (z : xs.length ≤ 1000000) : meOp .append (.ref r) [w] h = .ok .non (h.set r (.lst (xs ++ [w]))) := by
  simp only [meOp, g]
  rw [show Nat.ble (xs.length + 1) 16777216 = true from Nat.ble_eq_true_of_le (by omega)]
  rfl
theorem recv_lst {r : Nat} {xs : List W} {m : Me} (g : h.get r = some (.lst xs)) : recvOk m (.ref r) h = true := by simp only [recvOk, g]
end
theorem in_ints {h : Hw} {k : Int} {l : List Int} : inOp (.int k) (intsW l) h = some (decide (k ∈ l)) := by
  have e : optAll ((l.map W.int).map flatW) = some (l.map fun k => L2.V.int k) := by
    rw [List.map_map]; exact optAll_map (fun a => rfl) l
  have f : flatW (.int k) = some (.int k) := rfl
  simp only [inOp, intsW, e, f]
  congr 1
  clear e f
  induction l with
  | nil => rfl
  | cons a l ih =>
    rw [List.map_cons]
    unfold L2.inV at ih ⊢
    rw [List.any_cons, ih]
    simp only [List.mem_cons]
    show (a == k || _) = _
    by_cases e : a = k
    · subst e; simp
    · have : ¬ k = a := fun z => e z.symm
      simp [e, this]
/-- a tree, or none -/
def optW : Option (List Int) → W
  | none => .non
  | some t => intsW t
theorem nc_opt (t : Option (List Int)) : nc (optW t) = some (optW t) := by cases t <;> rfl
theorem nr_opt (t : Option (List Int)) : (optW t).noRef = true := by
  cases t with
  | none => rfl
  | some t => exact nr_ints t
/-! sorted -/
theorem insS_map {α β : Type} {le : β → β → Bool} {le' : α → α → Bool} {f : α → β} (e : ∀ a b, le (f a) (f b) = le' a b) (x : α) : ∀ l : List α, insS le (f x) (l.map f) = (insS le' x l).map f
  | [] => rfl
  | y :: l => by
    rw [List.map_cons]
    unfold insS
    rw [e, insS_map e x l]
    cases le' x y <;> rfl
theorem isort_map {α β : Type} {le : β → β → Bool} {le' : α → α → Bool} {f : α → β} (e : ∀ a b, le (f a) (f b) = le' a b) : ∀ l : List α, isort le (l.map f) = (isort le' l).map f
  | [] => rfl
  | y :: l => by
    rw [List.map_cons]
    show insS le (f y) (isort le (l.map f)) = _
    rw [isort_map e l, insS_map e]; rfl
def srt (l : List Nat) : List Nat := isort (fun a b => decide (a ≤ b)) l
theorem insS_perm {α : Type} (le : α → α → Bool) (x : α) : ∀ l : List α, (insS le x l).Perm (x :: l)
  | [] => List.Perm.refl _
  | y :: l => by
    unfold insS
    cases le x y
    · exact ((insS_perm le x l).cons y).trans (List.Perm.swap _ _ _)
    · exact List.Perm.refl _
theorem isort_perm {α : Type} (le : α → α → Bool) : ∀ l : List α, (isort le l).Perm l
  | [] => List.Perm.refl _
  | y :: l => (insS_perm le y _).trans ((isort_perm le l).cons y)
theorem srt_perm (l : List Nat) : (srt l).Perm l := isort_perm _ l
theorem insS_sorted (x : Nat) : ∀ l : List Nat, l.Pairwise (· ≤ ·) → (insS (fun a b => decide (a ≤ b)) x l).Pairwise (· ≤ ·)
  | [], _ => List.pairwise_singleton _ _
  | y :: l, p => by
    unfold insS
    obtain ⟨p1, p2⟩ := List.pairwise_cons.mp p
    by_cases c : x ≤ y
    · simp only [c, decide_true, cond_true]
      exact List.pairwise_cons.mpr ⟨fun z m => by
        cases m with
        | head => exact c
        | tail _ m => exact Nat.le_trans c (p1 z m), p⟩
    · simp only [c, decide_false, cond_false]
      refine List.pairwise_cons.mpr ⟨fun z m => ?_, insS_sorted x l p2⟩
      have := (insS_perm _ x l).mem_iff.mp m
      cases this with
      | head => omega
      | tail _ m => exact p1 z m
theorem srt_sorted : ∀ l : List Nat, (srt l).Pairwise (· ≤ ·)
  | [] => List.Pairwise.nil
  | y :: l => insS_sorted y _ (srt_sorted l)
theorem zip_map2 {α : Type} (l : List α) (f : α → W) (g : α → PyData) : (l.map f).zip (l.map g) = l.map fun a => (f a, g a) := by
  induction l with
  | nil => rfl
  | cons a l ih => simp [ih]
theorem sorted_ref {h : Hw} {r : Nat} {l : List Nat} (g : h.get r = some (.lst (l.map nW))) : biOp .sorted [.ref r] h = alloc (.lst ((srt l).map nW)) h := by
  have e : optAll ((l.map nW).map (dat h)) = some (l.map fun k : Nat => PyData.int (k : Int)) := toD_nats 39 l
  have so : sortOk (l.map fun k : Nat => PyData.int (k : Int)) = true := by
    unfold sortOk
    rw [Bool.and_eq_true, Bool.and_eq_true, Bool.or_eq_true]
    refine ⟨⟨?_, .inr ?_⟩, ?_⟩
    · rw [List.all_eq_true]
      intro d m
      rw [List.all_eq_true]
      intro d2 m2
      obtain ⟨a, _, rfl⟩ := List.mem_map.mp m
      obtain ⟨b, _, rfl⟩ := List.mem_map.mp m2
      rfl
    · rw [List.all_eq_true]
      intro d m
      obtain ⟨a, _, rfl⟩ := List.mem_map.mp m
      rfl
    · rw [List.all_eq_true]
      intro d m
      obtain ⟨a, _, rfl⟩ := List.mem_map.mp m
      rfl
  simp only [biOp, seqOf, g, e, so]
  rw [zip_map2, isort_map (le' := fun a b : Nat => decide (a ≤ b)) (f := fun a : Nat => (nW a, PyData.int (a : Int))) fun a b => ?_]
  · rw [List.map_map]; rfl
  · have := congrFun (congrFun (PySem.W.dataLe_int (fun b : Int => b)) (a : Int)) (b : Int)
    have z : PySem.W.dataLe false Prod.snd (nW a, PyData.int (a : Int)) (nW b, PyData.int (b : Int)) = PySem.W.dataLe false (fun b : Int => PyData.int b) (a : Int) (b : Int) := rfl
    rw [z, this]
    simp
theorem it_zip {h : Hw} {a : List Nat} {b : List Int} : iterOf .zip [natsW a, intsW b] h = some ((a.zip b).map fun q => W.tup [nW q.1, .int q.2], []) := by
  have z : ∀ (a : List Nat) (b : List Int), zip2 (a.map nW) (b.map W.int) = (a.zip b).map fun q => W.tup [nW q.1, .int q.2] := by
    intro a
    induction a with
    | nil => intro b; rfl
    | cons x a ih =>
      intro b
      cases b with
      | nil => rfl
      | cons y b => rw [List.map_cons, List.map_cons]; simp only [zip2, ih]; rfl
  show some (zip2 (a.map nW) (b.map W.int), [] ++ []) = _
  rw [z]; rfl
end TL.WP
/-! The source of drawn numbers. -/
namespace TL.WP
open PySem
section
variable {c : Nat} {l m t x : Int} {w : W}
theorem kf_cells : kFind (dS c l m t) (.inr "cells") = some (.ref c) := by kernel_rfl
theorem kf_left : kFind (dS c l m t) (.inr "left") = some (.int l) := by kernel_rfl
theorem kf_mixed : kFind (dS c l m t) (.inr "mixed") = some (.int m) := by kernel_rfl
theorem kf_turn : kFind (dS c l m t) (.inr "turn") = some (.int t) := by kernel_rfl
theorem kp_left : kPut (dS c l m t) (.inr "left") (.int x) = dS c x m t := by kernel_rfl
theorem kp_mixed : kPut (dS c l m t) (.inr "mixed") (.int x) = dS c l x t := by kernel_rfl
theorem kp_turn : kPut (dS c l m t) (.inr "turn") (.int x) = dS c l m x := by kernel_rfl
end
/-- only these two objects may be otherwise -/
def Fr (r c : Nat) (h h' : Hw) : Prop := h'.n = h.n ∧ ∀ x, x ≠ r → x ≠ c → h'.get x = h.get x
theorem Fr.rfl {r c : Nat} {h : Hw} : Fr r c h h := ⟨Eq.refl _, fun _ _ _ => Eq.refl _⟩
theorem Fr.set {r c : Nat} {h h' : Hw} (f : Fr r c h h') {q : Nat} (o : HW) (e : q = r ∨ q = c) : Fr r c h (h'.set q o) := ⟨f.1, fun x h1 h2 => by
  rw [Hw.set_ne _ _ (by rcases e with rfl | rfl <;> (intro z; first | exact h1 z.symm | exact h2 z.symm))]
  exact f.2 x h1 h2⟩
theorem Own.src' {h0 h h' : Hw} {L : List (Nat × HW)} {p : Nat × Nat} (O : Own (some p) h0 h L) (f : Fr p.1 p.2 h h') (s : Src h' p) : Own (some p) h0 h' L := by
  obtain ⟨a, b, _⟩ := O.src p rfl
  refine ⟨by rw [f.1]; exact O.le, fun r hr z => ?_, fun q m => ?_, O.nd, fun q e => by cases e; exact ⟨a, b, s⟩⟩
  · obtain ⟨z1, z2⟩ := z p rfl
    rw [f.2 r z1 z2]
    exact O.eq r hr z
  · obtain ⟨x, y, z⟩ := O.own q m
    exact ⟨x, by rw [f.1]; exact y, by rw [f.2 q.1 (by omega) (by omega)]; exact z⟩
theorem erase_map {α β : Type} (f : α → β) : ∀ (l : List α) (k : Nat), (l.map f).eraseIdx k = (l.eraseIdx k).map f
  | [], _ => rfl
  | a :: l, 0 => rfl
  | a :: l, k + 1 => by rw [List.map_cons, List.eraseIdx_cons_succ, List.eraseIdx_cons_succ, List.map_cons, erase_map f l k]
theorem erase_perm {α : Type} : ∀ {l : List α} {k : Nat} {a : α}, l[k]? = some a → (a :: l.eraseIdx k).Perm l
  | [], k, a, e => by simp at e
  | b :: l, 0, a, e => by
    simp at e
    subst e
    exact List.Perm.refl _
  | b :: l, k + 1, a, e => by
    rw [List.getElem?_cons_succ] at e
    rw [List.eraseIdx_cons_succ]
    exact (List.Perm.swap _ _ _).trans ((erase_perm e).cons b)
section
variable {h : Hw} {r c : Nat} {cs : List Int} {l m t x : Int} {w : W}
theorem SH.idx (sh : SH h r c cs l m t) {k : Str} (f : kFind (dS c l m t) (.inr k) = some w) : idxOp (.ref r) (.str k) h = .ok w h := idx_dct sh.d (z := .inr k) rfl f
theorem SH.put (sh : SH h r c cs l m t) {k : Str} {l' m' t' : Int} (f : kPut (dS c l m t) (.inr k) w = dS c l' m' t') : setOp (.ref r) (.str k) w h = some (h.set r (.dct (dS c l' m' t'))) ∧ SH (h.set r (.dct (dS c l' m' t'))) r c cs l' m' t' := by
  refine ⟨?_, sh.ne, Hw.set_same _ _ _, by rw [Hw.set_ne _ _ sh.ne]; exact sh.s⟩
  simp only [setOp, sh.d, keyOf, f]
  rfl
theorem pop_last {xs : List W} {w : W} (g : h.get r = some (.lst (xs ++ [w]))) : meOp .pop (.ref r) [] h = .ok w (h.set r (.lst xs)) := by
  simp only [meOp, g]
  have : (xs ++ [w])[(xs ++ [w]).length - 1]? = some w := by simp
  simp only [this, List.dropLast_concat]
theorem pop_at {xs : List W} {w : W} {k : Nat} (g : h.get r = some (.lst xs)) (e : xs[k]? = some w) (z : k ≤ 1000000) : meOp .pop (.ref r) [nW k] h = .ok w (h.set r (.lst (xs.eraseIdx k))) := by
  simp only [meOp, g, ixN_nat (List.getElem?_eq_some_iff.mp e).1, e, rngOk_nat z]
  rfl
theorem fdivI {i : Int} {j : Nat} (h1 : 1 ≤ j) (h2 : j < 1073741824) : binOp .fdiv (.int i) (nW j) h = .ok (.int (i.fdiv j)) h := by
  show (bif ((j : Int) == 0) || Nat.ble 1073741824 (j : Int).natAbs then R.err else R.ok (W.int (i.fdiv j)) h) = _
  have a : ((j : Int) == 0) = false := by simp; omega
  have b : Nat.ble 1073741824 (j : Int).natAbs = false := by
    cases z : Nat.ble 1073741824 (j : Int).natAbs with
    | false => rfl
    | true => exfalso; have := Nat.le_of_ble_eq_true z; omega
  rw [a, b]; rfl
theorem fmodI {i : Int} {j : Nat} (h1 : 1 ≤ j) : binOp .mod (.int i) (nW j) h = .ok (.int (i.fmod j)) h := by
  show (bif ((j : Int) == 0) then R.err else R.ok (W.int (i.fmod j)) h) = _
  have a : ((j : Int) == 0) = false := by simp; omega
  rw [a]; rfl
theorem fmodN {i j : Nat} (h1 : 1 ≤ j) : binOp .mod (nW i) (nW j) h = .ok (nW (i % j)) h := by
  rw [fmodI h1]
  congr 2
  exact (Int.fmod_eq_emod_of_nonneg _ (by omega)).trans (Int.natCast_emod _ _).symm
theorem fdivN {i j : Nat} (h1 : 1 ≤ j) (h2 : j < 1073741824) : binOp .fdiv (nW i) (nW j) h = .ok (nW (i / j)) h := by
  rw [fdivI h1 h2]
  congr 2
  rw [Int.fdiv_eq_ediv_of_nonneg _ (by omega)]
  exact (Int.natCast_ediv _ _).symm
theorem mulC {i j : Int} (e : small j = true) : binOp .mul (.int i) (.int j) h = .ok (.int (i * j)) h := by
  show (bif small i || small j then R.ok (W.int (i * j)) h else .err) = _
  rw [e, Bool.or_true]; rfl
theorem evs2 :
    (∀ (C : CT) (s : TL.Env) (h : Hw), evE C (.int 69069) s h = .ok (.int 69069) h) ∧
    (∀ (C : CT) (s : TL.Env) (h : Hw), evE C (.int 31) s h = .ok (.int 31) h) ∧
    (∀ (C : CT) (s : TL.Env) (h : Hw), evE C (.int 11) s h = .ok (.int 11) h) ∧
    (∀ (C : CT) (s : TL.Env) (h : Hw), evE C (.int 16) s h = .ok (nW 16) h) ∧
    (∀ (C : CT) (s : TL.Env) (h : Hw), evE C (.int 17) s h = .ok (.int 17) h) ∧
    (∀ (C : CT) (s : TL.Env) (h : Hw), evE C (.int 104729) s h = .ok (.int 104729) h) ∧
    (∀ (C : CT) (s : TL.Env) (h : Hw), evE C (.int 998244353) s h = .ok (nW 998244353) h) ∧
    (∀ (C : CT) (s : TL.Env) (h : Hw), evE C (.int 2147483629) s h = .ok (nW 2147483629) h) ∧
    (∀ (C : CT) (s : TL.Env) (h : Hw), evE C (.int 2147483647) s h = .ok (nW 2147483647) h) ∧
    (∀ (i j : Nat) (h : Hw), biOp .max2 [nW i, nW j] h = .ok (nW (max i j)) h) ∧
    (∀ (i j : Nat) (h : Hw), biOp .min2 [nW i, nW j] h = .ok (nW (min i j)) h) ∧
    (∀ (i : Int) (h : Hw), biOp .abs [.int i] h = .ok (.int (if i < 0 then -i else i)) h) := by
  refine ⟨fun _ _ _ => rfl, fun _ _ _ => rfl, fun _ _ _ => rfl, fun _ _ _ => rfl, fun _ _ _ => rfl, fun _ _ _ => rfl, fun _ _ _ => rfl, fun _ _ _ => rfl, fun _ _ _ => rfl, fun i j h => ?_, fun i j h => ?_, fun _ _ => rfl⟩
  · show R.ok (W.int (if (j : Int) > (i : Int) then (j : Int) else (i : Int))) h = _
    congr 2
    split <;> omega
  · show R.ok (W.int (if (j : Int) < (i : Int) then (j : Int) else (i : Int))) h = _
    congr 2
    split <;> omega
end
end TL.WP
/-! Webs, in plain Lean. -/
namespace TL.WP
/-- a road's ends are crossings -/
def Web.Ok (G : Web) : Prop := 1 ≤ G.n ∧ G.n ≤ 1000 ∧ G.roads.length ≤ 1000 ∧ ∀ p ∈ G.roads, p.1 < G.n ∧ p.2 < G.n
/-- how many roads join two crossings -/
def jn : List (Nat × Nat) → Nat → Nat → Nat
  | [], _, _ => 0
  | p :: l, v, w => (if p.1 ≠ p.2 ∧ ((p.1 = v ∧ p.2 = w) ∨ (p.2 = v ∧ p.1 = w)) then 1 else 0) + jn l v w
theorem jn_app : ∀ (l m : List (Nat × Nat)) (v w : Nat), jn (l ++ m) v w = jn l v w + jn m v w
  | [], m, v, w => by simp [jn]
  | p :: l, m, v, w => by rw [List.cons_append]; simp only [jn, jn_app l m v w]; omega
theorem jn_one {p : Nat × Nat} (l : List (Nat × Nat)) (e : p.1 = p.2) : jn (l ++ [p]) = jn l := by
  funext v w
  rw [jn_app]
  simp [jn, e]
theorem jn_two {p : Nat × Nat} (l : List (Nat × Nat)) (e : p.1 ≠ p.2) : updF (updF (jn l) p.1 p.2 (jn l p.1 p.2 + 1)) p.2 p.1 (updF (jn l) p.1 p.2 (jn l p.1 p.2 + 1) p.2 p.1 + 1) = jn (l ++ [p]) := by
  obtain ⟨a, b⟩ := p
  simp only at e
  funext v w
  rw [jn_app]
  unfold updF
  simp only [jn]
  by_cases h1 : v = a <;> by_cases h2 : w = b <;> by_cases h3 : v = b <;> by_cases h4 : w = a <;> (try subst h1) <;> (try subst h2) <;> (try subst h3) <;> (try subst h4) <;> simp_all <;> omega
/-- the roads at a crossing that lead to another one -/
def ways (G : Web) (v : Nat) : Nat := ((List.range G.n).map fun w => jn G.roads v w).sum
end TL.WP
namespace TL.WP
def gi (p : List Int) (v : Nat) : Int := p.getD v 0
theorem gi_at {p : List Int} {v : Nat} (h : v < p.length) : p[v]? = some (gi p v) := by unfold gi; rw [List.getD_eq_getElem?_getD, List.getElem?_eq_getElem h]; rfl
/-- the crossings where a heap is not steady -/
def unst (G : Web) (home : Nat) (p : List Int) : List Nat := (List.range G.n).filter fun v => (!decide (v = home)) && decide ((ways G v : Int) ≤ gi p v)
/-- the roads from a crossing to some -/
def rto (G : Web) (v : Nat) (some : List Nat) : Nat := (some.map fun w => jn G.roads v w).sum
def burnS (G : Web) (p : List Int) (found : List Nat) : List Nat := ((List.range G.n).filter fun v => !decide (v ∈ found)).filter fun v => decide ((ways G v : Int) ≤ gi p v + (rto G v found : Nat))
/-- what burns: found, of it just now late -/
def burnL (G : Web) (p : List Int) : Nat → List Nat → List Nat → List Nat
  | 0, found, _ => found
  | k + 1, found, late => if late = [] then found else burnL G p k (found ++ burnS G p found) (burnS G p found)
def burn (G : Web) (home : Nat) (p : List Int) : List Nat := burnL G p G.n [home] [home]
def comes (G : Web) (home : Nat) (p : List Int) : Bool := decide (unst G home p = []) && decide ((burn G home p).length = G.n)
def waysL (G : Web) : List Nat := (List.range G.n).map (ways G)
theorem waysL_at {G : Web} {v : Nat} (h : v < G.n) : (waysL G)[v]? = some (ways G v) := by unfold waysL; rw [List.getElem?_map, List.getElem?_range h]; rfl
theorem burnS_mem {G : Web} {p : List Int} {found : List Nat} {v : Nat} : v ∈ burnS G p found ↔ (v < G.n ∧ v ∉ found) ∧ (ways G v : Int) ≤ gi p v + (rto G v found : Nat) := by
  unfold burnS
  rw [List.mem_filter, List.mem_filter, List.mem_range]
  simp
theorem burnS_nodup (G : Web) (p : List Int) (found : List Nat) : (burnS G p found).Nodup := (List.nodup_range.filter _).filter _
theorem nodup_len : ∀ {n : Nat} {l : List Nat}, l.Nodup → (∀ x ∈ l, x < n) → l.length ≤ n
  | 0, [], _, _ => Nat.le_refl _
  | 0, a :: l, _, h => absurd (h a List.mem_cons_self) (Nat.not_lt_zero _)
  | n + 1, l, nd, h => by
    by_cases m : n ∈ l
    · have := nodup_len (n := n) (nd.erase n) fun x z => by
        have z := (nd.mem_erase_iff).mp z
        have := h x z.2
        have := z.1
        omega
      rw [List.length_erase_of_mem m] at this
      omega
    · have := nodup_len (n := n) nd fun x z => by
        have := h x z
        have : x ≠ n := fun e => m (e ▸ z)
        omega
      omega
end TL.WP
namespace TL.WP
def gn (l : List Nat) (v : Nat) : Nat := l.getD v 0
theorem gn_at {p : List Nat} {v : Nat} (h : v < p.length) : p[v]? = some (gn p v) := by unfold gn; rw [List.getD_eq_getElem?_getD, List.getElem?_eq_getElem h]; rfl
def relab (lots : List Nat) (a b : Nat) : List Nat := lots.map fun x => if x = a then b else x
def endsOf (G : Web) (r : Nat) : Nat × Nat := G.roads.getD r (0, 0)
theorem ends_at {G : Web} {r : Nat} (h : r < G.roads.length) : G.roads[r]? = some (endsOf G r) := by unfold endsOf; rw [List.getD_eq_getElem?_getD, List.getElem?_eq_getElem h]; rfl
theorem ends_ok {G : Web} (ok : G.Ok) {r : Nat} (h : r < G.roads.length) : (endsOf G r).1 < G.n ∧ (endsOf G r).2 < G.n := ok.2.2.2 _ (List.mem_of_getElem? (ends_at h))
/-- the lots that roads join -/
def joinRun (G : Web) : List Nat → List Nat → Option (List Nat)
  | lots, [] => some lots
  | lots, r :: t => if gn lots (endsOf G r).1 = gn lots (endsOf G r).2 then none else joinRun G (relab lots (gn lots (endsOf G r).1) (gn lots (endsOf G r).2)) t
def treeGo (G : Web) : Option Int → List Nat → List Int → Bool
  | _, _, [] => true
  | prev, lots, x :: t => decide (0 ≤ x ∧ x < (G.roads.length : Int)) && ((match prev with | none => true | some y => decide (y < x)) &&
    (!decide (gn lots (endsOf G x.toNat).1 = gn lots (endsOf G x.toNat).2) && treeGo G (some x) (relab lots (gn lots (endsOf G x.toNat).1) (gn lots (endsOf G x.toNat).2)) t))
theorem treeGo_cons (G : Web) (prev : Option Int) (lots : List Nat) (x : Int) (t : List Int) : treeGo G prev lots (x :: t) = (decide (0 ≤ x ∧ x < (G.roads.length : Int)) && ((match prev with | none => true | some y => decide (y < x)) &&
    (!decide (gn lots (endsOf G x.toNat).1 = gn lots (endsOf G x.toNat).2) && treeGo G (some x) (relab lots (gn lots (endsOf G x.toNat).1) (gn lots (endsOf G x.toNat).2)) t))) := rfl
def treeB (G : Web) (t : List Int) : Bool := decide (t.length = G.n - 1) && treeGo G none (List.range G.n) t
theorem relab_length (lots : List Nat) (a b : Nat) : (relab lots a b).length = lots.length := List.length_map _
theorem sum_add2 (f g : Nat → Nat) : ∀ l : List Nat, (l.map fun w => f w + g w).sum = (l.map f).sum + (l.map g).sum
  | [] => rfl
  | a :: l => by simp only [List.map_cons, List.sum_cons, sum_add2 f g l]; omega
theorem sum_one {c : Nat → Nat} {u : Nat} (h : ∀ w, c w ≤ if w = u then 1 else 0) : ∀ n, ((List.range n).map c).sum ≤ if u < n then 1 else 0
  | 0 => by simp
  | n + 1 => by
    rw [List.range_succ, List.map_append, List.sum_append]
    simp only [List.map_cons, List.map_nil, List.sum_cons, List.sum_nil]
    have ih := sum_one h n
    have h1 := h n
    by_cases c : n = u
    · rw [if_pos c] at h1
      rw [if_neg (show ¬ u < n by omega)] at ih
      rw [if_pos (show u < n + 1 by omega)]
      omega
    · rw [if_neg c] at h1
      by_cases d : u < n
      · rw [if_pos d] at ih
        rw [if_pos (show u < n + 1 by omega)]
        omega
      · rw [if_neg d] at ih
        rw [if_neg (show ¬ u < n + 1 by omega)]
        omega
theorem jn_row (v n : Nat) : ∀ l : List (Nat × Nat), ((List.range n).map fun w => jn l v w).sum ≤ l.length
  | [] => by
    have : ∀ n, ((List.range n).map fun w => jn [] v w).sum = 0 := by
      intro n
      induction n with
      | zero => rfl
      | succ n ih => rw [List.range_succ, List.map_append, List.sum_append, ih]; rfl
    rw [this]
    exact Nat.zero_le _
  | p :: l => by
    have ih := jn_row v n l
    have e : (fun w => jn (p :: l) v w) = fun w => (if p.1 ≠ p.2 ∧ ((p.1 = v ∧ p.2 = w) ∨ (p.2 = v ∧ p.1 = w)) then 1 else 0) + jn l v w := rfl
    rw [e, sum_add2 _ (fun w => jn l v w), List.length_cons]
    have := sum_one (c := fun w => if p.1 ≠ p.2 ∧ ((p.1 = v ∧ p.2 = w) ∨ (p.2 = v ∧ p.1 = w)) then 1 else 0) (u := if p.1 = v then p.2 else p.1) (fun w => by
      by_cases z : p.1 ≠ p.2 ∧ ((p.1 = v ∧ p.2 = w) ∨ (p.2 = v ∧ p.1 = w))
      · rw [if_pos z]
        rcases z.2 with z2 | z2
        · rw [if_pos z2.1, if_pos z2.2.symm]; exact Nat.le_refl _
        · rw [if_neg (show ¬ p.1 = v from fun a => z.1 (a.trans z2.1.symm)), if_pos z2.2.symm]; exact Nat.le_refl _
      · rw [if_neg z]; exact Nat.zero_le _) n
    have h1 : ∀ (a : Prop) [Decidable a], (if a then 1 else 0) ≤ 1 := fun a _ => by split <;> omega
    have := Nat.le_trans this (h1 _)
    omega
end TL.WP
/-! Lists of lists; places in lists. -/
namespace TL.WP
open PySem
def llO (r : Nat) (rs : List Nat) (T : List (List Nat)) : List (Nat × HW) := (r, .lst (rs.map W.ref)) :: (rs.zip T).map fun q => (q.1, HW.lst (q.2.map nW))
section
variable {S : Option (Nat × Nat)} {h0 h : Hw} {L : List (Nat × HW)} {r v a : Nat} {rs : List Nat} {T : List (List Nat)} {t : List Nat}
theorem ll_at (e : rs[v]? = some a) (e2 : T[v]? = some t) : (llO r rs T ++ L)[v + 1]? = some (a, HW.lst (t.map nW)) := by
  have h1 := (List.getElem?_eq_some_iff.mp e).1
  have h2 := (List.getElem?_eq_some_iff.mp e2).1
  rw [List.getElem?_append_left]
  · unfold llO
    rw [List.getElem?_cons_succ, List.getElem?_map, (List.getElem?_zip_eq_some (z := (a, t))).mpr ⟨e, e2⟩]
    rfl
  · unfold llO
    rw [List.length_cons, List.length_map, List.length_zip]; omega
theorem Own.llRow (O : Own S h0 h (llO r rs T ++ L)) (e : rs[v]? = some a) (e2 : T[v]? = some t) : h.get a = some (.lst (t.map nW)) := O.at (v + 1) (ll_at e e2)
theorem Own.llIdx (O : Own S h0 h (llO r rs T ++ L)) (e : rs[v]? = some a) : idxOp (.ref r) (nW v) h = .ok (.ref a) h := idx_ref (O.at 0 rfl) (by rw [List.getElem?_map, e]; rfl)
theorem Own.llSet (O : Own S h0 h (llO r rs T ++ L)) (e : rs[v]? = some a) (e2 : T[v]? = some t) (u : List Nat) : Own S h0 (h.set a (.lst (u.map nW))) (llO r rs (T.set v u) ++ L) := by
  have h1 := (List.getElem?_eq_some_iff.mp e).1
  have h2 := (List.getElem?_eq_some_iff.mp e2).1
  have := O.set (v + 1) (ll_at e e2) (.lst (u.map nW))
  have z : (llO r rs T ++ L).set (v + 1) (a, .lst (u.map nW)) = llO r rs (T.set v u) ++ L := by
    unfold llO
    rw [List.cons_append, List.set_cons_succ, List.cons_append]
    congr 1
    rw [List.set_append_left _ _ (by rw [List.length_map, List.length_zip]; omega)]
    congr 1
    apply List.ext_getElem?
    intro i
    rw [List.getElem?_set, List.length_map, List.length_zip, List.getElem?_map, List.getElem?_map]
    by_cases c : v = i
    · subst c
      rw [if_pos rfl, if_pos (by omega), (List.getElem?_zip_eq_some (z := (a, u))).mpr ⟨e, List.getElem?_set_self h2⟩]
      rfl
    · rw [if_neg c]
      congr 1
      simp only [List.zip, List.getElem?_zipWith, List.getElem?_set_ne c]
  rw [z] at this
  exact this
end
theorem Own.setM2 {S : Option (Nat × Nat)} {h0 h : Hw} {A B : List (Nat × HW)} {x : Nat × HW} {r : Nat} {o : HW} (O : Own S h0 h (A ++ x :: (r, o) :: B)) (o' : HW) : Own S h0 (h.set r o') (A ++ x :: (r, o') :: B) := by
  have := O.set (A.length + 1) (r := r) (o := o) (by rw [List.getElem?_append_right (by omega)]; simp) o'
  rw [List.set_append_right _ _ (by omega), show A.length + 1 - A.length = 1 by omega] at this
  exact this
/-! places -/
theorem first_nat (k : Nat) : ∀ (l : List Nat) (i : Nat), k ∈ l → firstD (.int (k : Int)) (l.map fun k : Nat => PyData.int (k : Int)) i = some (i + l.idxOf k)
  | a :: l, i, m => by
    rw [List.map_cons]
    unfold firstD
    by_cases e : a = k
    · subst e
      simp [PyData.eqv, List.idxOf_cons]
    · have h1 : ((a : Int) == (k : Int)) = false := by simp; omega
      have h2 : (a == k) = false := by simp [e]
      simp only [PyData.eqv, h1, cond_false]
      have m2 : k ∈ l := by
        cases m with
        | head => exact absurd rfl e
        | tail _ m => exact m
      rw [first_nat k l (i + 1) m2, List.idxOf_cons, h2]
      simp only [cond_false]
      congr 1
      omega
theorem index_ref {h : Hw} {r k : Nat} {l : List Nat} (g : h.get r = some (.lst (l.map nW))) (m : k ∈ l) : meOp .index (.ref r) [nW k] h = .ok (nW (l.idxOf k)) h := by
  have s : SeqAt.shaped (.list (l.map fun k : Nat => PyData.int (k : Int))) = true := shaped_list (m := 0) (by decide) fun d z => by
    obtain ⟨i, _, rfl⟩ := List.mem_map.mp z
    exact ⟨rfl, Nat.le_refl _⟩
  have e := toD_nats (h := h) 38 l
  have d1 : dat h (nW k) = some (.int (k : Int)) := rfl
  have f := first_nat k l 0 m
  rw [Nat.zero_add] at f
  simp only [meOp, g, e, d1, s, f]
  rfl
def insA (l : List Nat) (i x : Nat) : List Nat := l.take i ++ [x] ++ l.drop i
theorem insA_perm (l : List Nat) (i x : Nat) : (insA l i x).Perm (x :: l) := by
  unfold insA
  have h1 : (l.take i ++ [x] ++ l.drop i).Perm ([x] ++ l.take i ++ l.drop i) := List.Perm.append_right _ List.perm_append_comm
  have h2 : [x] ++ l.take i ++ l.drop i = x :: l := by rw [List.append_assoc, List.take_append_drop]; rfl
  rw [h2] at h1
  exact h1
theorem insert_ref {h : Hw} {r i x : Nat} {l : List Nat} (g : h.get r = some (.lst (l.map nW))) (z : l.length ≤ 1000000) (zi : i ≤ 1000000) : meOp .insert (.ref r) [nW i, nW x] h = .ok .non (h.set r (.lst ((insA l i x).map nW))) := by
  simp only [meOp, g]
  rw [show (Nat.ble ((l.map nW).length + 1) 16777216 && rngOk (i : Int) && decide (0 ≤ (i : Int))) = true by
    rw [rngOk_nat zi, show Nat.ble ((l.map nW).length + 1) 16777216 = true from Nat.ble_eq_true_of_le (by rw [List.length_map]; omega)]; simp]
  unfold insA
  rw [List.map_append, List.map_append, List.map_take, List.map_drop, Int.toNat_natCast]
  rfl
theorem lists_zip {rs : List Nat} {T : List (List Nat)} (e : rs.length = T.length) : rs.map W.ref = (rs.zip T).map fun q => W.ref q.1 := by
  rw [show (fun q : Nat × List Nat => W.ref q.1) = W.ref ∘ Prod.fst from rfl, ← List.map_map, List.map_fst_zip (by omega)]
/-- all lists of a list, copied -/
def zipO (rs : List Nat) (T : List (List Nat)) : List (Nat × HW) := (rs.zip T).map fun q => (q.1, HW.lst (q.2.map nW))
theorem zipO_app {rs : List Nat} {T : List (List Nat)} (e : rs.length = T.length) (a : Nat) (t : List Nat) : zipO (rs ++ [a]) (T ++ [t]) = zipO rs T ++ [(a, HW.lst (t.map nW))] := by
  unfold zipO
  rw [List.zip_append e, List.map_append]; rfl
theorem drops :
    (∀ (l : List St), List.drop 0 l = l) ∧
    (∀ (t : St) (l : List St) (n : Nat), List.drop (n + 1) (t :: l) = List.drop n l) := ⟨fun _ => rfl, fun _ _ _ => rfl⟩
/-- each list as a tuple -/
theorem tupRows {S : Option (Nat × Nat)} {h0 h : Hw} {L : List (Nat × HW)} {r : Nat} {rs : List Nat} {T : List (List Nat)} {F : W → Hw → R (Option W)} (O : Own S h0 h (llO r rs T ++ L)) (hl : rs.length = T.length)
    (e : ∀ a (t : List Nat), h.get a = some (.lst (t.map nW)) → F (.ref a) h = .ok (some (natsW t)) h) :
    loopC [(r, rs.map W.ref)] F (rs.map W.ref) h = .ok (T.map natsW) h := by
  have g : okG [(r, rs.map W.ref)] h = true := okG1 (O.at 0 rfl) (beqs_id beq_ref rs)
  have := loopC_map (emb := fun q : Nat × List Nat => W.ref q.1) (f := F) (l := rs.zip T) natsW (fun q => q.2) g fun q m => by
    refine e q.1 q.2 ?_
    obtain ⟨i, hi⟩ := List.getElem?_of_mem m
    obtain ⟨h1, h2⟩ := List.getElem?_zip_eq_some.mp hi
    exact O.llRow h1 h2
  rw [← lists_zip hl] at this
  rw [this]
  congr 2
  exact List.map_snd_zip (by omega)
/-! dicts, slices -/
theorem wp_dct {C : CT} {s : TL.Env} {S : Option (Nat × Nat)} {h0 h : Hw} {L : List (Nat × HW)} {es : List Ex} {kvs : List (L2.Key × W)} {K : W → Hw → Prop} (O : Own S h0 h L) (e : ∀ h1, Own S h0 h1 ((h.n, .dct []) :: L) → evD C es s h1 = .ok kvs h1) (hk : kvs.length ≤ 15)
    (q : ∀ r h', Own S h0 h' ((r, .dct (kvs.foldl (fun d p => kPut d p.1 p.2) [])) :: L) → K (.ref r) h') : wp (evE C (.dct es) s h) K := by
  have O1 := O.new (.dct [])
  have e1 := e _ O1
  simp only [evE, e1, ok_bind, Hw.new_same]
  rw [show Nat.ble kvs.length 15 = true from Nat.ble_eq_true_of_le hk, cond_true, wp_ok]
  exact q _ _ (O1.set 0 rfl _)
theorem dcts2 :
    (∀ (C : CT) (s : TL.Env) (h : Hw), evD C [] s h = .ok [] h) ∧
    (∀ (C : CT) (s : TL.Env) (h : Hw) (k v : Ex) (r : List Ex), evD C (k :: v :: r) s h = (evE C k s h).bind fun x h1 => match keyOf x with
      | some x => (evE C v s h1).bind fun y h2 => (evD C r s h2).bind fun r h3 => .ok ((x, y) :: r) h3
      | none => .err) := ⟨fun _ _ _ => rfl, fun _ _ _ _ _ _ => rfl⟩
theorem slc_from {h : Hw} {t : List Nat} {k : Nat} (e : k ≤ t.length) : slcOp (natsW t) (some (k : Int)) none h = .ok (natsW (t.drop k)) h := by
  show R.ok (W.tup (cutW (t.map nW) (some (k : Int)) none)) h = _
  unfold cutW natsW
  rw [HT.sIx_nat, HT.sIx_none, List.length_map, Nat.min_eq_left e, List.map_drop]
  congr 2
  exact List.take_of_length_le (by rw [List.length_drop, List.length_map]; omega)
theorem slc_to {h : Hw} {t : List Nat} {k : Nat} (e : k ≤ t.length) : slcOp (natsW t) none (some (k : Int)) h = .ok (natsW (t.take k)) h := by
  show R.ok (W.tup (cutW (t.map nW) none (some (k : Int)))) h = _
  unfold cutW natsW
  rw [HT.sIx_nat, HT.sIx_none, List.length_map, Nat.min_eq_left e, List.map_take, List.drop_zero, Nat.sub_zero]
theorem cat_nats {h : Hw} {a b : List Nat} (e : a.length + b.length ≤ 1000000) : binOp .add (natsW a) (natsW b) h = .ok (natsW (a ++ b)) h := by
  show (bif szOk ((a.map nW).length + (b.map nW).length) then R.ok (W.tup (a.map nW ++ b.map nW)) h else .err) = _
  rw [szOk_of (by rw [List.length_map, List.length_map]; omega), ← List.map_append]; rfl
theorem eqvAll_nats : ∀ l m : List Nat, PyData.eqvAll (l.map fun k : Nat => PyData.int (k : Int)) (m.map fun k : Nat => PyData.int (k : Int)) = decide (l = m)
  | [], [] => rfl
  | [], b :: m => rfl
  | a :: l, [] => rfl
  | a :: l, b :: m => by
    rw [List.map_cons, List.map_cons]
    simp only [PyData.eqvAll, PyData.eqv, eqvAll_nats l m]
    by_cases x : a = b
    · subst x; by_cases y : l = m <;> simp [y]
    · have : ¬ ((a : Int) = (b : Int)) := by omega
      simp [x, this]
theorem eqW_tnats {h : Hw} {l m : List Nat} : eqW h (natsW l) (natsW m) = some (decide (l = m)) := by
  have d : ∀ l : List Nat, dat h (natsW l) = some (.tuple (l.map fun k : Nat => PyData.int (k : Int))) := fun l => by
    have e := toD_nats (h := h) 38 l
    show toD 40 h (.tup (l.map nW)) = _
    simp only [toD, e]
  have s : ∀ l : List Nat, SeqAt.shaped (.tuple (l.map fun k : Nat => PyData.int (k : Int))) = true := fun l => shaped_tuple (m := 0) (by decide) fun d z => by
    obtain ⟨i, _, rfl⟩ := List.mem_map.mp z
    exact ⟨rfl, Nat.le_refl _⟩
  show (match dat h (natsW l), dat h (natsW m) with
    | some d, some e => bif SeqAt.shaped d && SeqAt.shaped e then some (PyData.eqv d e) else none
    | _, _ => none) = _
  rw [d, d]
  simp only [s, PyData.eqv, eqvAll_nats]
  rfl
/-- a dict on the first numbers -/
def tabD (f : Nat → Nat) (n : Nat) : List (L2.Key × W) := (List.range n).map fun e : Nat => ((Sum.inl (e : Int) : L2.Key), nW (f e))
theorem kFind_tab {f : Nat → Nat} {n k : Nat} (h : k < n) : kFind (tabD f n) (.inl (k : Int)) = some (nW (f k)) := by
  have z : ∀ (l : List Nat), k ∈ l → kFind (l.map fun e : Nat => ((Sum.inl (e : Int) : L2.Key), nW (f e))) (.inl (k : Int)) = some (nW (f k)) := by
    intro l
    induction l with
    | nil => intro m; cases m
    | cons a l ih =>
      intro m
      rw [List.map_cons]
      unfold kFind
      by_cases e : a = k
      · subst e; simp
      · rw [if_neg fun z => e (by have := Sum.inl.inj z; omega)]
        cases m with
        | head => exact absurd rfl e
        | tail _ m => exact ih m
  exact z _ (List.mem_range.mpr h)
theorem kPut_tab {f : Nat → Nat} {n : Nat} : kPut (tabD f n) (.inl (n : Int)) (nW (f n)) = tabD f (n + 1) := by
  unfold kPut
  rw [if_neg]
  · unfold tabD; rw [List.range_succ, List.map_append]; rfl
  · intro z
    rw [List.any_eq_true] at z
    obtain ⟨p, m, q⟩ := z
    obtain ⟨v, mv, rfl⟩ := List.mem_map.mp m
    have q := of_decide_eq_true q
    simp only at q
    have := Sum.inl.inj q
    have := List.mem_range.mp mv
    omega
theorem upd_ref {h : Hw} {r q : Nat} {xs ys : List (L2.Key × W)} (g1 : h.get r = some (.dct xs)) (g2 : h.get q = some (.dct ys)) (ne : r ≠ q) (z : xs.length + ys.length ≤ 1000000) : updOp (.ref r) (.ref q) h = .ok .non (h.set r (.dct (ys.foldl (fun d p => kPut d p.1 p.2) xs))) := by
  simp only [updOp, g1, g2]
  have : Nat.beq r q = false := by
    cases e : Nat.beq r q with
    | false => rfl
    | true => exact absurd (Nat.eq_of_beq_eq_true e) ne
  rw [this, szOk_of (by omega)]
  rfl
theorem isDct_ref {h : Hw} {r : Nat} {xs : List (L2.Key × W)} (g1 : h.get r = some (.dct xs)) : isDct (.ref r) h = true := by simp only [isDct, g1]
theorem ne_nil {h : Hw} {t : List Nat} : cmpOp .ne (natsW t) (.tup []) h = some (!decide (t = [])) := cmp_ne (eqW_tnats (m := []))
theorem eq_nil {h : Hw} {t : List Nat} : cmpOp .eq (natsW t) (.tup []) h = some (decide (t = [])) := cmp_eq (eqW_tnats (m := []))
theorem cat_roads {h : Hw} {a : List (Nat × Nat)} {w : W} (p : Nat × Nat) (ew : w = .tup [prW p]) (e : a.length ≤ 1000000) : binOp .add (roadsW a) w h = .ok (roadsW (a ++ [p])) h := by
  subst ew
  show (bif szOk ((a.map prW).length + 1) then R.ok (W.tup (a.map prW ++ [prW p])) h else .err) = _
  rw [szOk_of (by rw [List.length_map]; omega)]
  unfold roadsW
  rw [List.map_append]; rfl
theorem cat_nats1 {h : Hw} {a : List Nat} {x : Nat} (e : a.length ≤ 900000) : binOp .add (natsW a) (.tup [nW x]) h = .ok (natsW (a ++ [x])) h := cat_nats (b := [x]) (by rw [List.length_singleton]; omega)
end TL.WP
/-! The text of small data. -/
namespace TL.WP
open PySem
def Few (x : Str) (N : Nat) : Prop := x.length ≤ N ∧ PyData.strOk x = true
theorem Few.mono {x : Str} {N M : Nat} (f : Few x N) (h : N ≤ M) : Few x M := ⟨Nat.le_trans f.1 h, f.2⟩
theorem Few.app {x y : Str} {N M : Nat} (f : Few x N) (g : Few y M) : Few (x ++ y) (N + M) := by
  refine ⟨by rw [PySem.strLen_append]; exact Nat.add_le_add f.1 g.1, ?_⟩
  show (x.cps ++ y.cps).all _ = true
  rw [Array.all_append, Bool.and_eq_true]
  exact ⟨f.2, g.2⟩
theorem few_text {B : Nat} : ∀ (ts : List Str) (k : Nat) (acc : Str) (N : Nat), Few acc N → (∀ t ∈ ts, Few t B) → Few (textFrom k acc ts) (N + ts.length * (B + 2))
  | [], _, acc, N, f, _ => f.mono (Nat.le_add_right _ _)
  | t :: ts, k, acc, N, f, h => by
    have sep : Few ((if k > 0 then ", " else "" : String) : Str) 2 := by
      split
      · exact ⟨by decide, by decide +kernel⟩
      · exact ⟨by decide, by decide +kernel⟩
    have := few_text ts (k + 1) (acc ++ (if k > 0 then ", " else "" : String) ++ t) (N + 2 + B) ((f.app sep).app (h t List.mem_cons_self)) fun u m => h u (List.mem_cons_of_mem _ m)
    refine Few.mono this ?_
    rw [List.length_cons, Nat.add_mul]
    omega
theorem few_list {B : Nat} {ts : List Str} (h : ∀ t ∈ ts, Few t B) : Few (listText ts) (2 + ts.length * (B + 2)) := by
  have a : Few ("[" : Str) 1 := ⟨by decide, by decide +kernel⟩
  have b : Few ("]" : Str) 1 := ⟨by decide, by decide +kernel⟩
  exact Few.mono ((few_text ts 0 "[" 1 a h).app b) (by omega)
theorem few_join {B : Nat} : ∀ (ts : List Str), (∀ t ∈ ts, Few t B) → Few (Str.join ", " ts) (ts.length * (B + 2))
  | [], _ => Few.mono (N := 0) ⟨Nat.le_of_eq rfl, by decide +kernel⟩ (Nat.zero_le _)
  | [x], h => (h x List.mem_cons_self).mono (by simp)
  | x :: y :: r, h => by
    have sep : Few (", " : Str) 2 := ⟨by decide, by decide +kernel⟩
    have ih := few_join (y :: r) fun u m => h u (List.mem_cons_of_mem _ m)
    have := ((h x List.mem_cons_self).app sep).app ih
    refine Few.mono this ?_
    rw [List.length_cons (a := x), Nat.add_mul]
    omega
theorem few_tuple {B : Nat} {ts : List Str} (h : ∀ t ∈ ts, Few t B) : Few (tupleText ts) (3 + ts.length * (B + 2)) := by
  have a : Few ("(" : Str) 1 := ⟨by decide, by decide +kernel⟩
  have b : Few ((if ts.length == 1 then ",)" else ")" : String) : Str) 2 := by
    split
    · exact ⟨by decide, by decide +kernel⟩
    · exact ⟨by decide, by decide +kernel⟩
  exact Few.mono ((a.app (few_join ts h)).app b) (by omega)
theorem few_int {i : Nat} (h : i < 64) : Few (PyData.shown (.int (i : Int))) 4 := by
  have : ∀ i : _root_.Fin 64, (PyData.shown (.int ((i.val : Nat) : Int))).length ≤ 4 ∧ PyData.strOk (PyData.shown (.int ((i.val : Nat) : Int))) = true := by decide +kernel
  exact this ⟨i, h⟩
/-- data that are small -/
inductive Tny : Nat → PyData → Prop
  | non (n : Nat) : Tny n .none
  | int (n : Nat) {i : Nat} : i < 64 → Tny n (.int (i : Int))
  | lst {n : Nat} {xs : List PyData} : xs.length ≤ 100 → (∀ x ∈ xs, Tny n x) → Tny (n + 1) (.list xs)
  | tup {n : Nat} {xs : List PyData} : xs.length ≤ 100 → (∀ x ∈ xs, Tny n x) → Tny (n + 1) (.tuple xs)
def bndT : Nat → Nat
  | 0 => 4
  | n + 1 => 3 + 100 * (bndT n + 2)
theorem shownAll_map : ∀ xs : List PyData, PyData.shownAll xs = xs.map PyData.shown
  | [] => rfl
  | x :: xs => by simp only [PyData.shownAll, shownAll_map xs, List.map_cons]
theorem showableAll_of : ∀ {xs : List PyData}, (∀ x ∈ xs, x.showable = true) → PyData.showableAll xs = true
  | [], _ => rfl
  | x :: xs, h => by simp only [PyData.showableAll, h x List.mem_cons_self, showableAll_of fun y m => h y (List.mem_cons_of_mem _ m)]; rfl
theorem b4 : ∀ n, 4 ≤ bndT n := fun n => by cases n <;> simp only [bndT] <;> omega
theorem tny_ok {n : Nat} {d : PyData} (t : Tny n d) : d.showable = true ∧ d.depth ≤ n ∧ d.canLay0 = true ∧ Few d.shown (bndT n) := by
  have all : ∀ {n : Nat} {xs : List PyData}, xs.length ≤ 100 → (∀ x ∈ xs, x.showable = true ∧ x.depth ≤ n ∧ x.canLay0 = true ∧ Few x.shown (bndT n)) → (PyData.showableAll xs = true ∧ PyData.depthAll xs ≤ n ∧ PyData.canLayAll0 xs = true ∧ (∀ t ∈ PyData.shownAll xs, Few t (bndT n)) ∧ (PyData.shownAll xs).length * (bndT n + 2) ≤ 100 * (bndT n + 2)) := fun hl ih => by
    refine ⟨showableAll_of fun x m => (ih x m).1, depth_all fun x m => (ih x m).2.1, lay_all fun x m => (ih x m).2.2.1, fun t m => ?_, ?_⟩
    · rw [shownAll_map] at m
      obtain ⟨x, mx, rfl⟩ := List.mem_map.mp m
      exact (ih x mx).2.2.2
    · rw [shownAll_map, List.length_map]
      exact Nat.mul_le_mul_right _ hl
  induction t with
  | non n => exact ⟨rfl, Nat.zero_le _, rfl, Few.mono (N := 4) ⟨by decide, by decide +kernel⟩ (b4 n)⟩
  | @int n i hi =>
    refine ⟨?_, Nat.zero_le _, rfl, (few_int hi).mono (b4 n)⟩
    have : ∀ i : _root_.Fin 64, PyData.showable (.int ((i.val : Nat) : Int)) = true := by decide +kernel
    exact this ⟨i, hi⟩
  | lst hl h ih =>
    obtain ⟨a, b, c, d, e⟩ := all hl ih
    exact ⟨a, Nat.succ_le_succ b, c, (few_list d).mono (by simp only [bndT]; omega)⟩
  | tup hl h ih =>
    obtain ⟨a, b, c, d, e⟩ := all hl ih
    exact ⟨a, Nat.succ_le_succ b, c, (few_tuple d).mono (by simp only [bndT]; omega)⟩
theorem repr_ok {h : Hw} {w : W} {d : PyData} (t : Tny 3 d) (e : dat h w = some d) : biOp .repr [w] h = .ok (.str d.shown) h := by
  obtain ⟨a, b, _, f⟩ := tny_ok t
  simp only [biOp, e]
  rw [a, show Nat.ble d.depth 60 = true from Nat.ble_eq_true_of_le (by omega), szOk_of (Nat.le_trans f.1 (by decide))]
  rfl
theorem eqS {h : Hw} {d : PyData} (t : Tny 3 d) : eqW h (.str d.shown) (.str d.shown) = some true := by
  obtain ⟨_, _, _, f⟩ := tny_ok t
  have s : SeqAt.shaped (.str d.shown) = true := by
    unfold SeqAt.shaped
    rw [Bool.and_eq_true]
    exact ⟨f.2, rfl⟩
  show (match some (PyData.str d.shown), some (PyData.str d.shown) with
    | some d, some e => bif SeqAt.shaped d && SeqAt.shaped e then some (PyData.eqv d e) else none
    | _, _ => none) = _
  simp only [s, PyData.eqv, beq_self_eq_true]
  rfl
theorem eqv_self : ∀ {n : Nat} {d : PyData}, Tny n d → PyData.eqv d d = true := by
  intro n d t
  have all : ∀ xs : List PyData, (∀ x ∈ xs, PyData.eqv x x = true) → PyData.eqvAll xs xs = true := by
    intro xs
    induction xs with
    | nil => intro _; rfl
    | cons x xs ih => intro h; simp only [PyData.eqvAll, h x List.mem_cons_self, ih fun y m => h y (List.mem_cons_of_mem _ m)]; rfl
  induction t with
  | non => rfl
  | int => simp only [PyData.eqv, beq_self_eq_true]
  | lst hl h ih => simp only [PyData.eqv]; exact all _ ih
  | tup hl h ih => simp only [PyData.eqv]; exact all _ ih
theorem eqW_same {h : Hw} {r q : Nat} {d : PyData} (t : Tny 3 d) (e1 : dat h (.ref r) = some d) (e2 : dat h (.ref q) = some d) : eqW h (.ref r) (.ref q) = some true := by
  obtain ⟨_, dp, ly, _⟩ := tny_ok t
  have s : SeqAt.shaped d = true := by
    unfold SeqAt.shaped
    rw [Bool.and_eq_true]
    exact ⟨ly, decide_eq_true (by omega)⟩
  show (match dat h (.ref r), dat h (.ref q) with
    | some d, some e => bif SeqAt.shaped d && SeqAt.shaped e then some (PyData.eqv d e) else none
    | _, _ => none) = _
  rw [e1, e2]
  simp only [s, eqv_self t]
  rfl
/-! tuples cut and laid together -/
theorem slc_fromA {h : Hw} {t : List Nat} {k : Nat} : slcOp (natsW t) (some (k : Int)) none h = .ok (natsW (t.drop k)) h := by
  by_cases e : k ≤ t.length
  · exact slc_from e
  · show R.ok (W.tup (cutW (t.map nW) (some (k : Int)) none)) h = _
    unfold cutW natsW
    rw [HT.sIx_nat, HT.sIx_none, List.length_map, Nat.min_eq_right (by omega), Nat.sub_self, List.take_zero, List.drop_eq_nil_of_le (by omega)]; rfl
theorem slc_toA {h : Hw} {t : List Nat} {k : Nat} : slcOp (natsW t) none (some (k : Int)) h = .ok (natsW (t.take k)) h := by
  by_cases e : k ≤ t.length
  · exact slc_to e
  · show R.ok (W.tup (cutW (t.map nW) none (some (k : Int)))) h = _
    unfold cutW natsW
    rw [HT.sIx_nat, HT.sIx_none, List.length_map, Nat.min_eq_right (by omega), List.drop_zero, Nat.sub_zero, List.take_of_length_le (l := t) (by omega), List.take_of_length_le (l := t.map nW) (by rw [List.length_map]; exact Nat.le_refl _)]
theorem slc_last {h : Hw} {t : List Nat} : slcOp (natsW t) none (some (-((1 : Nat) : Int))) h = .ok (natsW (t.take (t.length - 1))) h := by
  show R.ok (W.tup (cutW (t.map nW) none (some (-((1 : Nat) : Int))))) h = _
  unfold cutW natsW
  have : HT.sIx (t.map nW).length (t.map nW).length (some (-((1 : Nat) : Int))) = t.length - 1 := by
    show (if (-((1 : Nat) : Int)) < 0 then ((-((1 : Nat) : Int)) + ((t.map nW).length : Int)).toNat else min (-((1 : Nat) : Int)).toNat (t.map nW).length) = _
    rw [if_pos (by decide), List.length_map]
    omega
  rw [this, HT.sIx_none, List.drop_zero, Nat.sub_zero, List.map_take]
theorem tmul {h : Hw} {x j : Nat} (hj : j ≤ 1000) : binOp .mul (.tup [nW x]) (nW j) h = .ok (natsW (List.replicate j x)) h := by
  show (if (j : Int) = 1 then R.ok (W.tup [nW x]) h else if -1000 ≤ (j : Int) ∧ (j : Int) ≤ 0 ∧ (!([nW x] : List W).isEmpty) = true then R.ok (W.tup []) h else bif (!([nW x] : List W).isEmpty) && decide (2 ≤ (j : Int)) && decide ((j : Int) ≤ 1000) && Nat.ble [nW x].length 1000 then R.ok (W.tup (List.replicate (j : Int).toNat [nW x]).flatten) h else .err) = _
  by_cases c1 : j = 1
  · subst c1; rfl
  · rw [if_neg (by omega)]
    by_cases c0 : j = 0
    · subst c0; rfl
    · rw [if_neg (by omega)]
      have a : ((!([nW x] : List W).isEmpty) && decide (2 ≤ (j : Int)) && decide ((j : Int) ≤ 1000) && Nat.ble [nW x].length 1000) = true := by
        rw [decide_eq_true (show (2 : Int) ≤ j by omega), decide_eq_true (show (j : Int) ≤ 1000 by omega)]; rfl
      rw [a, Int.toNat_natCast, rep_one]
      unfold natsW
      rw [List.map_replicate]; rfl
end TL.WP
/-! Roads that are tried, one by one. -/
namespace TL.WP
/-- a road, the crossing that it was tried at, whether it lit it -/
abbrev Hist := List (Nat × Nat × Bool)
def litOf (home : Nat) (hi : Hist) : List Nat := home :: (hi.filter fun x => x.2.2).map fun x => x.2.1
def metOf (hi : Hist) : List Nat := hi.map fun x => x.1
def cntOf (hi : Hist) (v : Nat) : Nat := hi.countP fun x => decide (x.2.1 = v)
def isDue (G : Web) (lit met : List Nat) (q : (Nat × Nat) × Nat) : Bool := !decide (q.2 ∈ met) && !(decide (q.1.1 ∈ lit) == decide (q.1.2 ∈ lit))
def dueN (G : Web) (home : Nat) (hi : Hist) : List Nat := (G.roads.zipIdx.filter (isDue G (litOf home hi) (metOf hi))).map Prod.snd
def atOf (G : Web) (lit : List Nat) (r : Nat) : Nat := if (endsOf G r).1 ∈ lit then (endsOf G r).2 else (endsOf G r).1
def ruleN (G : Web) (home : Nat) (hi : Hist) : Option (Nat × Nat) := match dueN G home hi with
  | [] => none
  | r :: _ => some (r, atOf G (litOf home hi) r)
def stepH (F : Nat → Nat → Nat → Bool) (hi : Hist) (x : Nat × Nat) : Hist := hi ++ [(x.1, x.2, F x.1 x.2 (cntOf hi x.2 + 1))]
def runH (rule : Hist → Option (Nat × Nat)) (F : Nat → Nat → Nat → Bool) : Nat → Hist → Hist
  | 0, hi => hi
  | k + 1, hi => match rule hi with
    | none => hi
    | some x => runH rule F k (stepH F hi x)
theorem runH_none {rule : Hist → Option (Nat × Nat)} {F : Nat → Nat → Nat → Bool} {hi : Hist} (e : rule hi = none) : ∀ k, runH rule F k hi = hi
  | 0 => rfl
  | k + 1 => by unfold runH; rw [e]
theorem runH_some {rule : Hist → Option (Nat × Nat)} {F : Nat → Nat → Nat → Bool} {hi : Hist} {x : Nat × Nat} (e : rule hi = some x) (k : Nat) : runH rule F (k + 1) hi = runH rule F k (stepH F hi x) := by
  rw [runH, e]
/-- what was tried up to now could be tried -/
structure HOk (G : Web) (home : Nat) (hi : Hist) : Prop where
  met : (metOf hi).Nodup
  road : ∀ x ∈ hi, x.1 < G.roads.length
  at_ : ∀ x ∈ hi, x.2.1 < G.n
  lit : (litOf home hi).Nodup
theorem litOf_app (home : Nat) (hi : Hist) (x : Nat × Nat × Bool) : litOf home (hi ++ [x]) = bif x.2.2 then litOf home hi ++ [x.2.1] else litOf home hi := by
  unfold litOf
  rw [List.filter_append, List.map_append]
  cases h : x.2.2 <;> simp [h]
theorem metOf_app (hi : Hist) (x : Nat × Nat × Bool) : metOf (hi ++ [x]) = metOf hi ++ [x.1] := by unfold metOf; rw [List.map_append]; rfl
theorem cntOf_app (hi : Hist) (x : Nat × Nat × Bool) (v : Nat) : cntOf (hi ++ [x]) v = cntOf hi v + if x.2.1 = v then 1 else 0 := by
  unfold cntOf
  rw [List.countP_append]
  by_cases e : x.2.1 = v <;> simp [e]
theorem due_ok {G : Web} {home : Nat} {hi : Hist} {r : Nat} (m : r ∈ dueN G home hi) : r < G.roads.length ∧ r ∉ metOf hi ∧ ¬ ((endsOf G r).1 ∈ litOf home hi ↔ (endsOf G r).2 ∈ litOf home hi) := by
  unfold dueN at m
  obtain ⟨q, mq, rfl⟩ := List.mem_map.mp m
  obtain ⟨m1, m2⟩ := List.mem_filter.mp mq
  have e : G.roads[q.2]? = some q.1 := List.mem_zipIdx_iff_getElem?.mp m1
  have hl := (List.getElem?_eq_some_iff.mp e).1
  have z : endsOf G q.2 = q.1 := Option.some.inj ((ends_at hl).symm.trans e)
  unfold isDue at m2
  rw [z]
  refine ⟨hl, ?_, ?_⟩
  · intro c; simp [c] at m2
  · intro c
    have : decide (q.1.1 ∈ litOf home hi) = decide (q.1.2 ∈ litOf home hi) := by simp only [c]
    simp [this] at m2
theorem due_all {G : Web} {home : Nat} {hi : Hist} {r : Nat} (hr : r < G.roads.length) (hm : r ∉ metOf hi) (hd : ¬ ((endsOf G r).1 ∈ litOf home hi ↔ (endsOf G r).2 ∈ litOf home hi)) : r ∈ dueN G home hi := by
  unfold dueN
  refine List.mem_map.mpr ⟨(endsOf G r, r), List.mem_filter.mpr ⟨List.mem_zipIdx_iff_getElem?.mpr (ends_at hr), ?_⟩, rfl⟩
  unfold isDue
  simp only [hm, decide_false, Bool.not_false, Bool.true_and]
  by_cases c1 : (endsOf G r).1 ∈ litOf home hi <;> by_cases c2 : (endsOf G r).2 ∈ litOf home hi <;> simp_all
theorem atOf_ok {G : Web} (ok : G.Ok) {lit : List Nat} {r : Nat} (hr : r < G.roads.length) (hd : ¬ ((endsOf G r).1 ∈ lit ↔ (endsOf G r).2 ∈ lit)) : atOf G lit r ∉ lit ∧ atOf G lit r < G.n := by
  obtain ⟨p1, p2⟩ := ends_ok ok hr
  unfold atOf
  by_cases c1 : (endsOf G r).1 ∈ lit
  · rw [if_pos c1]
    exact ⟨fun c2 => hd ⟨fun _ => c2, fun _ => c1⟩, p2⟩
  · rw [if_neg c1]
    exact ⟨c1, p1⟩
theorem HOk.step {G : Web} {home : Nat} {hi : Hist} (o : HOk G home hi) {r a : Nat} (b : Bool) (hr : r < G.roads.length) (hm : r ∉ metOf hi) (ha : a ∉ litOf home hi) (hn : a < G.n) : HOk G home (hi ++ [(r, a, b)]) := by
  refine ⟨?_, fun x m => ?_, fun x m => ?_, ?_⟩
  · rw [metOf_app]
    exact List.nodup_append.mpr ⟨o.met, by simp, fun x hx y hy e => by simp at hy; exact hm (hy ▸ e ▸ hx)⟩
  · rcases List.mem_append.mp m with m | m
    · exact o.road x m
    · simp at m; subst m; exact hr
  · rcases List.mem_append.mp m with m | m
    · exact o.at_ x m
    · simp at m; subst m; exact hn
  · rw [litOf_app]
    cases b with
    | false => exact o.lit
    | true => exact List.nodup_append.mpr ⟨o.lit, by simp, fun x hx y hy e => by simp at hy; exact ha (hy ▸ e ▸ hx)⟩
theorem HOk.len {G : Web} {home : Nat} {hi : Hist} (o : HOk G home hi) : hi.length ≤ G.roads.length := by
  have := nodup_len o.met fun x m => by
    obtain ⟨y, my, rfl⟩ := List.mem_map.mp m
    exact o.road y my
  unfold metOf at this
  rw [List.length_map] at this
  exact this
theorem HOk.litLt {G : Web} {home : Nat} {hi : Hist} (o : HOk G home hi) (hh : home < G.n) : ∀ x ∈ litOf home hi, x < G.n := by
  intro x m
  unfold litOf at m
  cases m with
  | head => exact hh
  | tail _ m =>
    obtain ⟨y, my, rfl⟩ := List.mem_map.mp m
    exact o.at_ y (List.mem_filter.mp my).1
theorem HOk.nil {G : Web} {home : Nat} : HOk G home [] := ⟨by simp [metOf], fun _ m => (nomatch m), fun _ m => (nomatch m), by simp [litOf]⟩
end TL.WP
namespace TL.WP
/-- whether a road lights a crossing: by a tree, or by what is left to be tried there -/
def lightsP (t : Option (List Int)) (rest : List Int) (r a c : Nat) : Bool := match t with
  | some t => decide ((r : Int) ∈ t)
  | none => decide (gi rest a - (c : Int) = 0)
/-- how often is to be tried at each crossing, by a pile -/
def dueP (G : Web) (p : List Int) : List Int := (List.range G.n).map fun v => (ways G v : Int) - gi p v
theorem dueP_zip {G : Web} {p : List Int} (hp : p.length = G.n) : ((waysL G).zip p).map (fun q => (q.1 : Int) - q.2) = dueP G p := by
  unfold dueP waysL
  have e : p = (List.range G.n).map (gi p) := by
    apply List.ext_getElem?
    intro i
    rw [List.getElem?_map]
    by_cases hi : i < G.n
    · rw [List.getElem?_range hi, gi_at (by omega)]; rfl
    · rw [List.getElem?_eq_none (by omega), List.getElem?_eq_none (by rw [List.length_range]; omega)]; rfl
  have z : ∀ l : List Nat, ((l.map (ways G)).zip (l.map (gi p))).map (fun q => (q.1 : Int) - q.2) = l.map fun v => (ways G v : Int) - gi p v := by
    intro l
    induction l with
    | nil => rfl
    | cons a l ih => simp only [List.map_cons, List.zip_cons_cons, ih]
  conv => lhs; rw [e]
  exact z _
end TL.WP
/-! Webs that are drawn: their turns, and that they hang together. -/
namespace TL.WP
def spotAt (roads : List (Nat × Nat)) (e : Nat) : Nat := if e % 2 = 0 then (roads.getD (e / 2) (0, 0)).1 else (roads.getD (e / 2) (0, 0)).2
def endsV (roads : List (Nat × Nat)) (v : Nat) : List Nat := (List.range (2 * roads.length)).filter fun e => decide (spotAt roads e = v)
structure WOk (G : Web) : Prop where
  pos : 1 ≤ G.n
  road : ∀ p ∈ G.roads, p.1 < G.n ∧ p.2 < G.n
  tl : G.turns.length = G.n
  turn : ∀ (v : Nat) (t : List Nat), G.turns[v]? = some t → t.Perm (endsV G.roads v)
  conn : ∀ L : Nat → Prop, (∀ p ∈ G.roads, L p.1 ↔ L p.2) → ∀ v w, v < G.n → w < G.n → (L v ↔ L w)
theorem spot_lt {G : Web} (w : WOk G) {e : Nat} (he : e < 2 * G.roads.length) : spotAt G.roads e < G.n := by
  have h1 : e / 2 < G.roads.length := by omega
  have m : G.roads.getD (e / 2) (0, 0) ∈ G.roads := by
    rw [List.getD_eq_getElem?_getD, List.getElem?_eq_getElem h1]
    exact List.getElem_mem h1
  have := w.road _ m
  unfold spotAt
  split
  · exact this.1
  · exact this.2
theorem spot_app {roads : List (Nat × Nat)} {p : Nat × Nat} {e : Nat} (he : e < 2 * roads.length) : spotAt (roads ++ [p]) e = spotAt roads e := by
  unfold spotAt
  rw [List.getD_eq_getElem?_getD, List.getElem?_append_left (by omega), List.getD_eq_getElem?_getD]
theorem endsV_app (roads : List (Nat × Nat)) (p : Nat × Nat) (v : Nat) : endsV (roads ++ [p]) v = endsV roads v ++ (if p.1 = v then [2 * roads.length] else []) ++ (if p.2 = v then [2 * roads.length + 1] else []) := by
  have s0 : spotAt (roads ++ [p]) (2 * roads.length) = p.1 := by
    unfold spotAt
    rw [if_pos (by omega), show 2 * roads.length / 2 = roads.length by omega]
    simp
  have s1 : spotAt (roads ++ [p]) (2 * roads.length + 1) = p.2 := by
    unfold spotAt
    rw [if_neg (by omega), show (2 * roads.length + 1) / 2 = roads.length by omega]
    simp
  unfold endsV
  rw [List.length_append, List.length_singleton, show 2 * (roads.length + 1) = 2 * roads.length + 1 + 1 by omega, List.range_succ, List.range_succ, List.filter_append, List.filter_append]
  congr 1
  · congr 1
    · apply List.filter_congr
      intro e he
      rw [spot_app (List.mem_range.mp he)]
    · rw [List.filter_cons, s0]
      by_cases c : p.1 = v <;> simp [c]
  · rw [List.filter_cons, s1]
    by_cases c : p.2 = v <;> simp [c]
theorem endsV_none {roads : List (Nat × Nat)} {v n : Nat} (h : ∀ p ∈ roads, p.1 < n ∧ p.2 < n) (hv : n ≤ v) : endsV roads v = [] := by
  unfold endsV
  rw [List.filter_eq_nil_iff]
  intro e he c
  have he := List.mem_range.mp he
  have h1 : e / 2 < roads.length := by omega
  have m : roads.getD (e / 2) (0, 0) ∈ roads := by
    rw [List.getD_eq_getElem?_getD, List.getElem?_eq_getElem h1]
    exact List.getElem_mem h1
  have := h _ m
  have c := of_decide_eq_true c
  unfold spotAt at c
  split at c <;> omega
/-- one crossing, no road -/
theorem WOk.one : WOk ⟨1, [], [[]]⟩ := by
  refine ⟨Nat.le_refl _, fun _ m => (nomatch m), rfl, fun v t e => ?_, fun L _ v w hv hw => ?_⟩
  · match v, e with
    | 0, e => simp at e; subst e; exact List.Perm.refl _
  · rw [show v = w by simp only at hv hw; omega]
/-- a crossing more, on a road of its own -/
theorem WOk.leaf {G : Web} (o : WOk G) {at_ side k : Nat} (ha : at_ < G.n) (hs : side < 2) {t : List Nat} (ht : G.turns[at_]? = some t) :
    WOk ⟨G.n + 1, G.roads ++ [if side = 0 then (at_, G.n) else (G.n, at_)], G.turns.set at_ (insA t k (2 * G.roads.length + side)) ++ [[2 * G.roads.length + 1 - side]]⟩ := by
  have hl : at_ < G.turns.length := by rw [o.tl]; exact ha
  refine ⟨by simp, fun p m => ?_, by simp [o.tl], fun v u e => ?_, fun L hL v w hv hw => ?_⟩
  · rcases List.mem_append.mp m with m | m
    · have := o.road p m
      exact ⟨Nat.lt_succ_of_lt this.1, Nat.lt_succ_of_lt this.2⟩
    · simp only [List.mem_singleton] at m
      subst m
      split
      · exact ⟨Nat.lt_succ_of_lt ha, Nat.lt_succ_self _⟩
      · exact ⟨Nat.lt_succ_self _, Nat.lt_succ_of_lt ha⟩
  · simp only at e ⊢
    rw [endsV_app]
    by_cases c : v < G.n
    · rw [List.getElem?_append_left (by rw [List.length_set, o.tl]; exact c), List.getElem?_set] at e
      by_cases d : at_ = v
      · subst d
        rw [if_pos rfl, if_pos hl] at e
        simp only [Option.some.injEq] at e
        subst e
        refine (insA_perm _ _ _).trans ?_
        have h1 := (o.turn _ _ ht).cons (2 * G.roads.length + side)
        refine h1.trans ?_
        have h2 : side = 0 ∨ side = 1 := by omega
        rcases h2 with rfl | rfl
        · have : ¬ G.n = at_ := by omega
          simp [this]
          exact (List.perm_append_comm (l₁ := [_]))
        · have : ¬ G.n = at_ := by omega
          simp [this]
          exact (List.perm_append_comm (l₁ := [_]))
      · rw [if_neg d] at e
        refine (o.turn _ _ e).trans ?_
        have h2 : side = 0 ∨ side = 1 := by omega
        have : ¬ G.n = v := by omega
        rcases h2 with rfl | rfl <;> simp [this, d]
    · have hv : v = G.n := by
        have := (List.getElem?_eq_some_iff.mp e).1
        rw [List.length_append, List.length_set, o.tl, List.length_singleton] at this
        omega
      subst hv
      rw [List.getElem?_append_right (by rw [List.length_set, o.tl]; exact Nat.le_refl _), List.length_set, o.tl, Nat.sub_self] at e
      simp only [List.getElem?_cons_zero, Option.some.injEq] at e
      subst e
      rw [endsV_none o.road (Nat.le_refl _)]
      have h2 : side = 0 ∨ side = 1 := by omega
      have : ¬ at_ = G.n := by omega
      rcases h2 with rfl | rfl <;> simp [this]
  · have base := o.conn L fun p m => hL p (List.mem_append_left _ m)
    have last : L at_ ↔ L G.n := by
      have := hL _ (List.mem_append_right _ (List.mem_singleton.mpr rfl))
      split at this
      · exact this
      · exact this.symm
    have all : ∀ v, v < G.n + 1 → (L v ↔ L at_) := by
      intro v hv
      by_cases c : v < G.n
      · exact base v at_ c ha
      · rw [show v = G.n by omega]; exact last.symm
    exact (all v hv).trans (all w hw).symm
/-- a road more between two ends -/
theorem WOk.grow {G : Web} (o : WOk G) {a b i j : Nat} (ha : a < G.n) (hb : b < G.n) {t u : List Nat} (ht : G.turns[a]? = some t) (hu : (G.turns.set a (insA t i (2 * G.roads.length)))[b]? = some u) :
    WOk ⟨G.n, G.roads ++ [(a, b)], (G.turns.set a (insA t i (2 * G.roads.length))).set b (insA u j (2 * G.roads.length + 1))⟩ := by
  have hl : a < G.turns.length := by rw [o.tl]; exact ha
  have hl2 : b < G.turns.length := by rw [o.tl]; exact hb
  refine ⟨o.pos, fun p m => ?_, by simp [o.tl], fun v w e => ?_, fun L hL v w hv hw => o.conn L (fun p m => hL p (List.mem_append_left _ m)) v w hv hw⟩
  · rcases List.mem_append.mp m with m | m
    · exact o.road p m
    · simp only [List.mem_singleton] at m
      subst m
      exact ⟨ha, hb⟩
  · simp only at e ⊢
    rw [endsV_app]
    have first : ∀ x, (G.turns.set a (insA t i (2 * G.roads.length)))[v]? = some x → x.Perm (endsV G.roads v ++ if a = v then [2 * G.roads.length] else []) := by
      intro x e
      rw [List.getElem?_set] at e
      by_cases d : a = v
      · subst d
        rw [if_pos rfl, if_pos hl] at e
        simp only [Option.some.injEq] at e
        subst e
        rw [if_pos rfl]
        exact (insA_perm _ _ _).trans (((o.turn _ _ ht).cons _).trans (List.perm_append_comm (l₁ := [_])))
      · rw [if_neg d] at e ⊢
        rw [List.append_nil]
        exact o.turn _ _ e
    rw [List.getElem?_set, List.length_set] at e
    by_cases d : b = v
    · subst d
      rw [if_pos rfl, if_pos hl2] at e
      simp only [Option.some.injEq] at e
      subst e
      simp only [if_true]
      exact (insA_perm _ _ _).trans (((first _ hu).cons _).trans (List.perm_append_comm (l₁ := [_])))
    · rw [if_neg d] at e
      simp only [d, if_false, List.append_nil]
      exact first _ e
/-- an end's new name -/
def endN (places : List Nat) (e : Nat) : Nat := 2 * gn places (e / 2) + e % 2
theorem perm_lt {l : List Nat} {n : Nat} (p : l.Perm (List.range n)) {i : Nat} (h : i < n) : gn l i < n := by
  have hl : l.length = n := by rw [p.length_eq, List.length_range]
  have := p.mem_iff.mp (List.mem_of_getElem? (gn_at (p := l) (v := i) (by omega)))
  exact List.mem_range.mp this
theorem perm_inj {l : List Nat} {n : Nat} (p : l.Perm (List.range n)) {i j : Nat} (hi : i < n) (hj : j < n) (e : gn l i = gn l j) : i = j := by
  have hl : l.length = n := by rw [p.length_eq, List.length_range]
  have nd : l.Nodup := p.nodup_iff.mpr List.nodup_range
  have e1 := gn_at (p := l) (v := i) (by omega)
  have e2 := gn_at (p := l) (v := j) (by omega)
  rw [e] at e1
  obtain ⟨h1, e1⟩ := List.getElem?_eq_some_iff.mp e1
  obtain ⟨h2, e2⟩ := List.getElem?_eq_some_iff.mp e2
  rcases Nat.lt_trichotomy i j with c | c | c
  · exact absurd (e1.trans e2.symm) (List.pairwise_iff_getElem.mp nd i j h1 h2 c)
  · exact c
  · exact absurd (e2.trans e1.symm) (List.pairwise_iff_getElem.mp nd j i h2 h1 c)
theorem perm_onto {l : List Nat} {n : Nat} (p : l.Perm (List.range n)) {x : Nat} (hx : x < n) : l.idxOf x < n ∧ gn l (l.idxOf x) = x := by
  have hl : l.length = n := by rw [p.length_eq, List.length_range]
  have m : x ∈ l := p.mem_iff.mpr (List.mem_range.mpr hx)
  have h1 := List.idxOf_lt_length_of_mem m
  refine ⟨by omega, ?_⟩
  have e := gn_at h1
  rw [List.getElem?_eq_getElem h1] at e
  have := Option.some.inj e
  rw [← this]
  exact List.getElem_idxOf h1
theorem endN_lt {places : List Nat} {m e : Nat} (pp : places.Perm (List.range m)) (he : e < 2 * m) : endN places e < 2 * m := by
  have := perm_lt pp (show e / 2 < m by omega)
  unfold endN
  omega
theorem endN_inj {places : List Nat} {m e f : Nat} (pp : places.Perm (List.range m)) (he : e < 2 * m) (hf : f < 2 * m) (z : endN places e = endN places f) : e = f := by
  unfold endN at z
  have := perm_inj pp (show e / 2 < m by omega) (show f / 2 < m by omega) (by omega)
  omega
theorem map_nodup {f : Nat → Nat} : ∀ {l : List Nat}, l.Nodup → (∀ a ∈ l, ∀ b ∈ l, f a = f b → a = b) → (l.map f).Nodup
  | [], _, _ => List.nodup_nil
  | a :: l, nd, h => by
    rw [List.map_cons, List.nodup_cons]
    obtain ⟨n1, n2⟩ := List.nodup_cons.mp nd
    refine ⟨fun m => ?_, map_nodup n2 fun x hx y hy => h x (List.mem_cons_of_mem _ hx) y (List.mem_cons_of_mem _ hy)⟩
    obtain ⟨b, mb, e⟩ := List.mem_map.mp m
    have := h b (List.mem_cons_of_mem _ mb) a List.mem_cons_self e
    exact n1 (this ▸ mb)
theorem endN_perm {places : List Nat} {m : Nat} (pp : places.Perm (List.range m)) : ((List.range (2 * m)).map (endN places)).Perm (List.range (2 * m)) := by
  refine (List.perm_ext_iff_of_nodup (map_nodup List.nodup_range fun a ha b hb => endN_inj pp (List.mem_range.mp ha) (List.mem_range.mp hb)) List.nodup_range).mpr fun x => ⟨fun h => ?_, fun h => ?_⟩
  · obtain ⟨e, he, rfl⟩ := List.mem_map.mp h
    exact List.mem_range.mpr (endN_lt pp (List.mem_range.mp he))
  · have hx := List.mem_range.mp h
    have o := perm_onto pp (show x / 2 < m by omega)
    refine List.mem_map.mpr ⟨2 * places.idxOf (x / 2) + x % 2, List.mem_range.mpr (by omega), ?_⟩
    unfold endN
    rw [show (2 * places.idxOf (x / 2) + x % 2) / 2 = places.idxOf (x / 2) by omega, o.2]
    omega
/-- the crossings and the roads have other names -/
theorem WOk.ren {G : Web} (o : WOk G) {names places : List Nat} (pn : names.Perm (List.range G.n)) (pp : places.Perm (List.range G.roads.length)) {T : List (List Nat)} (hT : T.length = G.n)
    (ht : ∀ v t, G.turns[v]? = some t → ∃ k, T[gn names v]? = some ((t.drop k ++ t.take k).map (endN places))) :
    WOk ⟨G.n, (List.range G.roads.length).map fun r => (gn names (endsOf G (places.idxOf r)).1, gn names (endsOf G (places.idxOf r)).2), T⟩ := by
  have er : ∀ r, r < G.roads.length → ∃ p ∈ G.roads, endsOf G (places.idxOf r) = p := fun r hr => by
    have := ends_at (G := G) (r := places.idxOf r) (perm_onto pp hr).1
    exact ⟨_, List.mem_of_getElem? this, rfl⟩
  refine ⟨o.pos, fun p m => ?_, hT, fun v t e => ?_, fun L hL v w hv hw => ?_⟩
  · obtain ⟨r, hr, rfl⟩ := List.mem_map.mp m
    obtain ⟨p, mp, e⟩ := er r (List.mem_range.mp hr)
    rw [e]
    have := o.road p mp
    exact ⟨perm_lt pn this.1, perm_lt pn this.2⟩
  · simp only at e ⊢
    have hv : v < G.n := by
      have := (List.getElem?_eq_some_iff.mp e).1
      omega
    have u := perm_onto pn hv
    obtain ⟨s, hs⟩ : ∃ s, G.turns[names.idxOf v]? = some s := ⟨_, List.getElem?_eq_getElem (by rw [o.tl]; exact u.1)⟩
    obtain ⟨k, hk⟩ := ht _ s hs
    rw [u.2, e] at hk
    obtain rfl := Option.some.inj hk
    have p1 : (s.drop k ++ s.take k).Perm s := by
      have h1 : (s.drop k ++ s.take k).Perm (s.take k ++ s.drop k) := List.perm_append_comm
      rw [List.take_append_drop] at h1
      exact h1
    refine ((p1.trans (o.turn _ _ hs)).map (endN places)).trans ?_
    unfold endsV
    rw [List.length_map, List.length_range]
    refine List.Perm.trans ?_ ((endN_perm pp).filter _)
    rw [List.filter_map]
    refine List.Perm.of_eq ?_
    congr 1
    apply List.filter_congr
    intro e he
    have he := List.mem_range.mp he
    have h2 : e / 2 < G.roads.length := by omega
    have q := perm_lt pp h2
    have e3 : places.idxOf (gn places (e / 2)) = e / 2 := perm_inj pp (perm_onto pp q).1 h2 (perm_onto pp q).2
    have sp : spotAt ((List.range G.roads.length).map fun r => (gn names (endsOf G (places.idxOf r)).1, gn names (endsOf G (places.idxOf r)).2)) (endN places e) = gn names (spotAt G.roads e) := by
      unfold spotAt endN
      rw [show (2 * gn places (e / 2) + e % 2) / 2 = gn places (e / 2) by omega, show (2 * gn places (e / 2) + e % 2) % 2 = e % 2 by omega]
      have g : ((List.range G.roads.length).map fun r => (gn names (endsOf G (places.idxOf r)).1, gn names (endsOf G (places.idxOf r)).2)).getD (gn places (e / 2)) (0, 0) = (gn names (endsOf G (e / 2)).1, gn names (endsOf G (e / 2)).2) := by
        rw [List.getD_eq_getElem?_getD, List.getElem?_map, List.getElem?_range q]
        simp only [Option.map_some, Option.getD_some, e3]
      rw [g]
      unfold endsOf
      split <;> rfl
    simp only [Function.comp, sp]
    have hsp := spot_lt o he
    congr 1
    simp only [eq_iff_iff]
    exact ⟨fun z => by rw [z]; exact u.2, fun z => perm_inj pn hsp u.1 (z.trans u.2.symm)⟩
  · have h1 := o.conn (fun v => L (gn names v)) fun p mp => by
      obtain ⟨i, hi, e⟩ := List.mem_iff_getElem.mp mp
      have hp := perm_lt pp hi
      have e2 : endsOf G i = p := by
        have := ends_at (G := G) hi
        rw [List.getElem?_eq_getElem hi] at this
        rw [← e]
        exact (Option.some.inj this).symm
      have e3 : places.idxOf (gn places i) = i := perm_inj pp (perm_onto pp hp).1 hi (perm_onto pp hp).2
      have := hL (gn names p.1, gn names p.2) (List.mem_map.mpr ⟨gn places i, List.mem_range.mpr hp, by rw [e3, e2]⟩)
      exact this
    have a := perm_onto pn (x := v) hv
    have b := perm_onto pn (x := w) hw
    have := h1 _ _ a.1 b.1
    rw [a.2, b.2] at this
    exact this
end TL.WP
namespace TL.WP
theorem WOk.ok {G : Web} (o : WOk G) (h1 : G.n ≤ 1000) (h2 : G.roads.length ≤ 1000) : G.Ok := ⟨o.pos, h1, h2, o.road⟩
def spotsL (roads : List (Nat × Nat)) : List Nat := (List.range (2 * roads.length)).map (spotAt roads)
theorem spotsL_app (roads : List (Nat × Nat)) (p : Nat × Nat) : spotsL (roads ++ [p]) = spotsL roads ++ [p.1, p.2] := by
  have s0 : spotAt (roads ++ [p]) (2 * roads.length) = p.1 := by
    unfold spotAt
    rw [if_pos (by omega), show 2 * roads.length / 2 = roads.length by omega]
    simp
  have s1 : spotAt (roads ++ [p]) (2 * roads.length + 1) = p.2 := by
    unfold spotAt
    rw [if_neg (by omega), show (2 * roads.length + 1) / 2 = roads.length by omega]
    simp
  unfold spotsL
  rw [List.length_append, List.length_singleton, show 2 * (roads.length + 1) = 2 * roads.length + 1 + 1 by omega, List.range_succ, List.range_succ, List.map_append, List.map_append, List.map_singleton, List.map_singleton, s0, s1, List.append_assoc]
  congr 1
  apply List.map_congr_left
  intro e he
  exact spot_app (List.mem_range.mp he)
theorem spots_at {roads : List (Nat × Nat)} {e : Nat} (h : e < 2 * roads.length) : (spotsL roads)[e]? = some (spotAt roads e) := by
  unfold spotsL
  rw [List.getElem?_map, List.getElem?_range h]; rfl
theorem mem_endsV {roads : List (Nat × Nat)} {v e : Nat} : e ∈ endsV roads v ↔ e < 2 * roads.length ∧ spotAt roads e = v := by
  unfold endsV
  rw [List.mem_filter, List.mem_range]
  simp
theorem WOk.turnLt {G : Web} (o : WOk G) {t : List Nat} (m : t ∈ G.turns) : ∀ e ∈ t, e < 2 * G.roads.length := by
  obtain ⟨v, e⟩ := List.getElem?_of_mem m
  intro x hx
  exact (mem_endsV.mp ((o.turn _ _ e).mem_iff.mp hx)).1
theorem WOk.inTurn {G : Web} (o : WOk G) {e : Nat} (h : e < 2 * G.roads.length) : ∃ t, G.turns[spotAt G.roads e]? = some t ∧ e ∈ t := by
  have hs := spot_lt o h
  obtain ⟨t, ht⟩ : ∃ t, G.turns[spotAt G.roads e]? = some t := ⟨_, List.getElem?_eq_getElem (by rw [o.tl]; exact hs)⟩
  exact ⟨t, ht, (o.turn _ _ ht).mem_iff.mpr (mem_endsV.mpr ⟨h, rfl⟩)⟩
end TL.WP
/-! Lots that roads join: the order does not matter. -/
namespace TL.WP
def mg (f : Nat → Nat) (u w : Nat) : Nat → Nat := fun v => if f v = f u then f w else f v
def jf : (Nat → Nat) → List (Nat × Nat) → Option (Nat → Nat)
  | f, [] => some f
  | f, p :: t => if f p.1 = f p.2 then none else jf (mg f p.1 p.2) t
def Ker (f g : Nat → Nat) : Prop := ∀ v w, f v = f w ↔ g v = g w
theorem Ker.mg {f g : Nat → Nat} (k : Ker f g) (u w : Nat) : Ker (mg f u w) (mg g u w) := by
  intro x y
  unfold TL.WP.mg
  have a := k x u
  have b := k y u
  have c := k x w
  have d := k w y
  have e := k x y
  grind
/-- both come through, or neither -/
def Both (a b : Option (Nat → Nat)) : Prop := match a, b with
  | none, none => True
  | some f, some g => Ker f g
  | _, _ => False
theorem Both.refl (a : Option (Nat → Nat)) : Both a a := by
  cases a with
  | none => trivial
  | some f => exact fun _ _ => Iff.rfl
theorem Both.trans {a b c : Option (Nat → Nat)} (h1 : Both a b) (h2 : Both b c) : Both a c := by
  cases a <;> cases b <;> cases c <;> first | trivial | exact h1.elim | exact h2.elim | exact fun v w => (h1 v w).trans (h2 v w)
theorem jf_ker : ∀ (t : List (Nat × Nat)) {f g : Nat → Nat}, Ker f g → Both (jf f t) (jf g t)
  | [], _, _, k => k
  | p :: t, f, g, k => by
    unfold jf
    by_cases c : f p.1 = f p.2
    · rw [if_pos c, if_pos ((k _ _).mp c)]; trivial
    · rw [if_neg c, if_neg fun z => c ((k _ _).mpr z)]
      exact jf_ker t (k.mg _ _)
theorem jf_swap (f : Nat → Nat) (p q : Nat × Nat) (t : List (Nat × Nat)) : Both (jf f (p :: q :: t)) (jf f (q :: p :: t)) := by
  have e : ∀ (p q : Nat × Nat), jf f (p :: q :: t) = if f p.1 = f p.2 then none else if mg f p.1 p.2 q.1 = mg f p.1 p.2 q.2 then none else jf (mg (mg f p.1 p.2) q.1 q.2) t := fun _ _ => rfl
  rw [e, e]
  by_cases c1 : f p.1 = f p.2 <;> by_cases c2 : f q.1 = f q.2
  · rw [if_pos c1, if_pos c2]; trivial
  · rw [if_pos c1, if_neg c2, if_pos]
    · trivial
    · unfold mg; simp only [c1]
  · rw [if_neg c1, if_pos c2, if_pos]
    · trivial
    · unfold mg; simp only [c2]
  · rw [if_neg c1, if_neg c2]
    have sym : mg f p.1 p.2 q.1 = mg f p.1 p.2 q.2 ↔ mg f q.1 q.2 p.1 = mg f q.1 q.2 p.2 := by
      unfold mg
      grind
    by_cases c3 : mg f p.1 p.2 q.1 = mg f p.1 p.2 q.2
    · rw [if_pos c3, if_pos (sym.mp c3)]; trivial
    · rw [if_neg c3, if_neg fun z => c3 (sym.mpr z)]
      refine jf_ker t fun v w => ?_
      unfold mg at c3 ⊢
      grind
theorem jf_perm {s t : List (Nat × Nat)} (p : s.Perm t) : ∀ f, Both (jf f s) (jf f t) := by
  induction p with
  | nil => intro f; exact Both.refl _
  | cons x _ ih =>
    intro f
    unfold jf
    by_cases c : f x.1 = f x.2
    · rw [if_pos c, if_pos c]; trivial
    · rw [if_neg c, if_neg c]; exact ih _
  | swap x y l => intro f; exact jf_swap f y x l
  | trans _ _ h1 h2 => intro f; exact (h1 f).trans (h2 f)
theorem jf_cons (f : Nat → Nat) (p : Nat × Nat) (t : List (Nat × Nat)) : jf f (p :: t) = if f p.1 = f p.2 then none else jf (mg f p.1 p.2) t := rfl
theorem jf_app (s t : List (Nat × Nat)) : ∀ f, jf f (s ++ t) = (jf f s).bind fun g => jf g t := by
  induction s with
  | nil => intro f; rfl
  | cons p s ih =>
    intro f
    rw [List.cons_append, jf_cons, jf_cons]
    by_cases c : f p.1 = f p.2
    · rw [if_pos c, if_pos c]; rfl
    · rw [if_neg c, if_neg c]; exact ih _
/-- what is closed under the roads is closed under the lots -/
theorem jf_closed (L : Nat → Prop) : ∀ (t : List (Nat × Nat)) (f g : Nat → Nat), (∀ p ∈ t, L p.1 ↔ L p.2) → (∀ v w, f v = f w → (L v ↔ L w)) → jf f t = some g → ∀ v w, g v = g w → (L v ↔ L w)
  | [], f, g, _, h, e => by cases e; exact h
  | p :: t, f, g, hp, h, e => by
    unfold jf at e
    by_cases c : f p.1 = f p.2
    · rw [if_pos c] at e; cases e
    · rw [if_neg c] at e
      refine jf_closed L t _ g (fun q m => hp q (List.mem_cons_of_mem _ m)) (fun v w z => ?_) e
      have h1 := hp p List.mem_cons_self
      have a := h v p.1
      have b := h w p.1
      have c1 := h v p.2
      have d := h p.2 w
      have e1 := h v w
      unfold mg at z
      grind
/-- the ends of the roads are in one lot -/
theorem jf_same : ∀ (t : List (Nat × Nat)) (f g : Nat → Nat), jf f t = some g → (∀ v w, f v = f w → g v = g w) ∧ ∀ p ∈ t, g p.1 = g p.2
  | [], f, g, e => by cases e; exact ⟨fun _ _ h => h, fun _ m => (nomatch m)⟩
  | p :: t, f, g, e => by
    unfold jf at e
    by_cases c : f p.1 = f p.2
    · rw [if_pos c] at e; cases e
    · rw [if_neg c] at e
      obtain ⟨a, b⟩ := jf_same t _ g e
      refine ⟨fun v w h => a v w (by unfold mg; rw [h]), fun q m => ?_⟩
      cases m with
      | head => refine a _ _ ?_; unfold mg; grind
      | tail _ m => exact b q m
/-- the lots as lists of numbers -/
theorem join_jf (G : Web) (hG : ∀ p ∈ G.roads, p.1 < G.n ∧ p.2 < G.n) : ∀ (t : List Nat) (lots : List Nat) (f : Nat → Nat), lots.length = G.n → (∀ v, v < G.n → gn lots v = f v) → (∀ r ∈ t, r < G.roads.length) → (joinRun G lots t).isSome = (jf f (t.map (endsOf G))).isSome
  | [], _, _, _, _, _ => rfl
  | r :: t, lots, f, hl, h, hr => by
    have hx := hr r List.mem_cons_self
    have pe := hG _ (List.mem_of_getElem? (ends_at hx))
    rw [List.map_cons]
    unfold joinRun jf
    rw [h _ pe.1, h _ pe.2]
    by_cases c : f (endsOf G r).1 = f (endsOf G r).2
    · rw [if_pos c, if_pos c]; rfl
    · rw [if_neg c, if_neg c]
      refine join_jf G hG t _ _ (by rw [relab_length]; exact hl) (fun v hv => ?_) fun x m => hr x (List.mem_cons_of_mem _ m)
      have e := h v hv
      unfold relab mg
      unfold gn at e ⊢
      rw [List.getD_eq_getElem?_getD] at e ⊢
      rw [List.getElem?_map, List.getElem?_eq_getElem (by omega)]
      rw [List.getElem?_eq_getElem (by omega)] at e
      simp only [Option.map_some, Option.getD_some] at e ⊢
      rw [e]
end TL.WP
/-! Roads that are tried, by any rule that tries what can be tried. -/
namespace TL.WP
structure RuleOk (G : Web) (home : Nat) (rule : Hist → Option (Nat × Nat)) : Prop where
  sound : ∀ hi r a, HOk G home hi → rule hi = some (r, a) → r < G.roads.length ∧ r ∉ metOf hi ∧ a ∉ litOf home hi ∧ a < G.n ∧ ∃ b, b ∈ litOf home hi ∧ (endsOf G r = (a, b) ∨ endsOf G r = (b, a))
  full : ∀ hi, HOk G home hi → rule hi = none → ∀ r, r < G.roads.length → r ∉ metOf hi → ((endsOf G r).1 ∈ litOf home hi ↔ (endsOf G r).2 ∈ litOf home hi)
theorem atOf_in {G : Web} (ok : ∀ p ∈ G.roads, p.1 < G.n ∧ p.2 < G.n) {lit : List Nat} {r : Nat} (hr : r < G.roads.length) (hd : ¬ ((endsOf G r).1 ∈ lit ↔ (endsOf G r).2 ∈ lit)) : atOf G lit r ∉ lit ∧ atOf G lit r < G.n := by
  obtain ⟨p1, p2⟩ := ok _ (List.mem_of_getElem? (ends_at hr))
  unfold atOf
  by_cases c1 : (endsOf G r).1 ∈ lit
  · rw [if_pos c1]
    exact ⟨fun c2 => hd ⟨fun _ => c2, fun _ => c1⟩, p2⟩
  · rw [if_neg c1]
    exact ⟨c1, p1⟩
theorem ruleN_ok {G : Web} (ok : ∀ p ∈ G.roads, p.1 < G.n ∧ p.2 < G.n) (home : Nat) : RuleOk G home (ruleN G home) := by
  refine ⟨fun hi r a _ e => ?_, fun hi _ e r hr hm => ?_⟩
  · unfold ruleN at e
    cases hd : dueN G home hi with
    | nil => rw [hd] at e; cases e
    | cons r' D =>
      rw [hd] at e
      obtain ⟨rfl, rfl⟩ := Prod.mk.inj (Option.some.inj e)
      obtain ⟨h1, h2, h3⟩ := due_ok (G := G) (home := home) (hi := hi) (r := r') (by rw [hd]; exact List.mem_cons_self)
      obtain ⟨a1, a2⟩ := atOf_in ok h1 h3
      refine ⟨h1, h2, a1, a2, ?_⟩
      unfold atOf
      by_cases c : (endsOf G r').1 ∈ litOf home hi
      · rw [if_pos c]; exact ⟨_, c, .inr rfl⟩
      · rw [if_neg c]
        exact ⟨(endsOf G r').2, Classical.byContradiction fun y => h3 ⟨fun z => absurd z c, fun z => absurd z y⟩, .inl rfl⟩
  · refine Classical.byContradiction fun c => ?_
    have m := due_all hr hm c
    unfold ruleN at e
    cases hd : dueN G home hi with
    | nil => rw [hd] at m; cases m
    | cons r' D => rw [hd] at e; cases e
section
variable {G : Web} {home : Nat} {rule : Hist → Option (Nat × Nat)} {F : Nat → Nat → Nat → Bool}
theorem run_ind (R : RuleOk G home rule) (P : Hist → Prop) (step : ∀ hi r a, HOk G home hi → P hi → rule hi = some (r, a) → P (hi ++ [(r, a, F r a (cntOf hi a + 1))])) : ∀ (k : Nat) (hi : Hist), HOk G home hi → P hi → HOk G home (runH rule F k hi) ∧ P (runH rule F k hi)
  | 0, hi, o, p => ⟨o, p⟩
  | k + 1, hi, o, p => by
    cases e : rule hi with
    | none => rw [runH_none e]; exact ⟨o, p⟩
    | some x =>
      obtain ⟨r, a⟩ := x
      rw [runH_some e]
      obtain ⟨h1, h2, h3, h4, _⟩ := R.sound hi r a o e
      exact run_ind R P step k _ (o.step _ h1 h2 h3 h4) (step hi r a o p e)
theorem run_end (R : RuleOk G home rule) : ∀ (k : Nat) (hi : Hist), HOk G home hi → G.roads.length ≤ hi.length + k → rule (runH rule F k hi) = none
  | 0, hi, o, h => by
    cases e : rule hi with
    | none => exact e
    | some x =>
      obtain ⟨r, a⟩ := x
      obtain ⟨h1, h2, h3, h4, _⟩ := R.sound hi r a o e
      have := (o.step true h1 h2 h3 h4).len
      rw [List.length_append, List.length_singleton] at this
      omega
  | k + 1, hi, o, h => by
    cases e : rule hi with
    | none => rw [runH_none e]; exact e
    | some x =>
      obtain ⟨r, a⟩ := x
      rw [runH_some e]
      obtain ⟨h1, h2, h3, h4, _⟩ := R.sound hi r a o e
      refine run_end R k _ (o.step _ h1 h2 h3 h4) ?_
      unfold stepH
      rw [List.length_append, List.length_singleton]
      omega
/-- two ways to say what lights: the same tries, where they agree along the way -/
theorem run_same {F' : Nat → Nat → Nat → Bool} (R : RuleOk G home rule) : ∀ (k : Nat) (hi : Hist), HOk G home hi → (∀ hi' r a t, runH rule F k hi = hi' ++ (r, a, F r a (cntOf hi' a + 1)) :: t → hi.length ≤ hi'.length → F' r a (cntOf hi' a + 1) = F r a (cntOf hi' a + 1)) → runH rule F' k hi = runH rule F k hi
  | 0, _, _, _ => rfl
  | k + 1, hi, o, h => by
    cases e : rule hi with
    | none => rw [runH_none e, runH_none e]
    | some x =>
      obtain ⟨r, a⟩ := x
      have pre : ∀ (k : Nat) (hi : Hist), ∃ t, runH rule F k hi = hi ++ t := by
        intro k
        induction k with
        | zero => intro hi; exact ⟨[], (List.append_nil _).symm⟩
        | succ k ih =>
          intro hi
          cases e : rule hi with
          | none => rw [runH_none e]; exact ⟨[], (List.append_nil _).symm⟩
          | some x =>
            rw [runH_some e]
            obtain ⟨t, ht⟩ := ih (stepH F hi x)
            rw [ht]
            unfold stepH
            exact ⟨_, List.append_assoc _ _ _⟩
      obtain ⟨t, ht⟩ := pre k (stepH F hi (r, a))
      have h0 := h hi r a t (by rw [runH_some e, ht]; unfold stepH; rw [List.append_assoc]; rfl) (Nat.le_refl _)
      rw [runH_some e, runH_some e]
      obtain ⟨h1, h2, h3, h4, _⟩ := R.sound hi r a o e
      have es : stepH F' hi (r, a) = stepH F hi (r, a) := by unfold stepH; rw [h0]
      rw [es]
      refine run_same R k _ (o.step _ h1 h2 h3 h4) fun hi' r' a' t' e' hl => ?_
      refine h hi' r' a' t' (by rw [runH_some e]; exact e') ?_
      unfold stepH at hl
      rw [List.length_append, List.length_singleton] at hl
      omega
end
end TL.WP
/-! Which crossings get lit. -/
namespace TL.WP
section
variable {G : Web} {home : Nat} {rule : Hist → Option (Nat × Nat)} {F : Nat → Nat → Nat → Bool}
theorem lit_mem {hi : Hist} {v : Nat} : v ∈ litOf home hi ↔ v = home ∨ ∃ r, (r, v, true) ∈ hi := by
  unfold litOf
  rw [List.mem_cons, List.mem_map]
  refine or_congr Iff.rfl ⟨fun ⟨x, m, e⟩ => ?_, fun ⟨r, m⟩ => ⟨(r, v, true), List.mem_filter.mpr ⟨m, rfl⟩, rfl⟩⟩
  obtain ⟨m1, m2⟩ := List.mem_filter.mp m
  obtain ⟨a, b, c⟩ := x
  simp only at e m2
  subst e m2
  exact ⟨a, m1⟩
/-- each try: its road, its ends, what it lit -/
theorem run_tries (R : RuleOk G home rule) (k : Nat) : HOk G home (runH rule F k []) ∧ ∀ x ∈ runH rule F k [], x.1 < G.roads.length ∧ x.2.1 < G.n ∧ ∃ b, b ∈ litOf home (runH rule F k []) ∧ (endsOf G x.1 = (x.2.1, b) ∨ endsOf G x.1 = (b, x.2.1)) := by
  refine run_ind R (fun hi => ∀ x ∈ hi, x.1 < G.roads.length ∧ x.2.1 < G.n ∧ ∃ b, b ∈ litOf home hi ∧ (endsOf G x.1 = (x.2.1, b) ∨ endsOf G x.1 = (b, x.2.1))) (fun hi r a o p e x m => ?_) k [] HOk.nil fun _ m => (nomatch m)
  obtain ⟨h1, h2, h3, h4, b, hb, he⟩ := R.sound hi r a o e
  have up : ∀ v, v ∈ litOf home hi → v ∈ litOf home (hi ++ [(r, a, F r a (cntOf hi a + 1))]) := fun v hv => by
    rw [litOf_app]
    cases F r a (cntOf hi a + 1)
    · exact hv
    · exact List.mem_append_left _ hv
  rcases List.mem_append.mp m with m | m
  · obtain ⟨q1, q2, b, hb, he⟩ := p x m
    exact ⟨q1, q2, b, up b hb, he⟩
  · simp only [List.mem_singleton] at m
    subst m
    exact ⟨h1, h4, b, up b hb, he⟩
theorem all_lit (R : RuleOk G home rule) (hh : home < G.n) {T : List Nat} (hT : ∀ r ∈ T, r < G.roads.length) (hF : ∀ r ∈ T, ∀ a c, F r a c = true)
    (cn : ∀ L : Nat → Prop, (∀ r ∈ T, L (endsOf G r).1 ↔ L (endsOf G r).2) → ∀ v w, v < G.n → w < G.n → (L v ↔ L w)) : ∀ v, v < G.n → v ∈ litOf home (runH rule F G.roads.length []) := by
  obtain ⟨o, tr⟩ := run_tries (F := F) R G.roads.length
  have en := run_end (F := F) R G.roads.length [] HOk.nil (by simp)
  obtain ⟨_, tt⟩ := run_ind (F := F) R (fun hi => ∀ x ∈ hi, x.1 ∈ T → x.2.2 = true) (fun hi r a o p e x m hx => by
    rcases List.mem_append.mp m with m | m
    · exact p x m hx
    · simp only [List.mem_singleton] at m
      subst m
      exact hF _ hx _ _) G.roads.length [] HOk.nil fun _ m => (nomatch m)
  generalize runH rule F G.roads.length [] = H at o tr en tt
  intro v hv
  refine (cn (fun v => v ∈ litOf home H) (fun r hr => ?_) v home hv hh).mpr (lit_mem.mpr (.inl rfl))
  by_cases c : r ∈ metOf H
  · obtain ⟨x, mx, ex⟩ := List.mem_map.mp c
    subst ex
    obtain ⟨_, _, b, hb, he⟩ := tr x mx
    have hl : x.2.1 ∈ litOf home H := lit_mem.mpr (.inr ⟨x.1, by
      have := tt x mx hr
      obtain ⟨a, b, c⟩ := x
      simp only at this
      subst this
      exact mx⟩)
    rcases he with he | he <;> (rw [he]; exact ⟨fun _ => by assumption, fun _ => by assumption⟩)
  · exact R.full H o en r (hT r hr) c
end
/-- the fire stays within what it cannot leave -/
theorem burn_sub {G : Web} {p : List Int} (L : Nat → Prop) (h : ∀ found : List Nat, found.Nodup → (∀ x ∈ found, x < G.n ∧ L x) → ∀ v, v < G.n → ¬ L v → gi p v + (rto G v found : Nat) < (ways G v : Int)) :
    ∀ (k : Nat) (found late : List Nat), found.Nodup → (∀ x ∈ found, x < G.n ∧ L x) → ∀ x ∈ burnL G p k found late, L x
  | 0, found, late, _, hf, x, m => (hf x m).2
  | k + 1, found, late, nd, hf, x, m => by
    unfold burnL at m
    by_cases c : late = []
    · rw [if_pos c] at m; exact (hf x m).2
    · rw [if_neg c] at m
      refine burn_sub L h k _ _ (List.nodup_append.mpr ⟨nd, burnS_nodup G p found, fun a ha b hb e => (burnS_mem.mp hb).1.2 (e ▸ ha)⟩) (fun y my => ?_) x m
      rcases List.mem_append.mp my with my | my
      · exact hf y my
      · obtain ⟨⟨y1, _⟩, y2⟩ := burnS_mem.mp my
        refine ⟨y1, Classical.byContradiction fun no => ?_⟩
        have := h found nd hf y y1 no
        omega
/-- the roads that lit, in their order, join a new crossing each -/
theorem lit_joins {G : Web} {home : Nat} {rule : Hist → Option (Nat × Nat)} {F : Nat → Nat → Nat → Bool} (R : RuleOk G home rule) (k : Nat) :
    ∃ f, jf id (((runH rule F k []).filter fun x => x.2.2).map fun x => endsOf G x.1) = some f ∧ (∀ v, v ∉ litOf home (runH rule F k []) → f v = v ∧ ∀ w, f w = v → w = v) ∧ ∀ v w, v ∈ litOf home (runH rule F k []) → w ∈ litOf home (runH rule F k []) → f v = f w := by
  refine (run_ind (F := F) R (fun hi => ∃ f, jf id ((hi.filter fun x => x.2.2).map fun x => endsOf G x.1) = some f ∧ (∀ v, v ∉ litOf home hi → f v = v ∧ ∀ w, f w = v → w = v) ∧ ∀ v w, v ∈ litOf home hi → w ∈ litOf home hi → f v = f w) (fun hi r a o p e => ?_) k [] HOk.nil ⟨id, rfl, fun v _ => ⟨rfl, fun _ h => h⟩, fun v w h1 h2 => by simp [litOf] at h1 h2; rw [h1, h2]⟩).2
  obtain ⟨f, e1, e2, e3⟩ := p
  obtain ⟨h1, h2, h3, h4, b, hb, he⟩ := R.sound hi r a o e
  rw [litOf_app, List.filter_append, List.map_append]
  cases F r a (cntOf hi a + 1) with
  | false => exact ⟨f, by simpa using e1, e2, e3⟩
  | true =>
    have fa := e2 a h3
    have ne : f a ≠ f b := fun z => h3 (fa.2 b (by rw [← z, fa.1]) ▸ hb)
    have fin : ∀ u w, (endsOf G r = (u, w)) → (u = a ∧ w = b ∨ u = b ∧ w = a) → ∃ g, jf id ((hi.filter fun x => x.2.2).map (fun x => endsOf G x.1) ++ [endsOf G r]) = some g ∧ (∀ v, v ∉ litOf home hi ++ [a] → g v = v ∧ ∀ w, g w = v → w = v) ∧ ∀ v w, v ∈ litOf home hi ++ [a] → w ∈ litOf home hi ++ [a] → g v = g w := by
      intro u w er h
      have nuw : ¬ f u = f w := by rcases h with ⟨rfl, rfl⟩ | ⟨rfl, rfl⟩ <;> first | exact ne | exact fun z => ne z.symm
      refine ⟨mg f u w, ?_, fun v hv => ?_, fun v x hv hx => ?_⟩
      · rw [jf_app, e1, er]
        show (if f u = f w then none else some (mg f u w)) = _
        rw [if_neg nuw]
      · rw [List.mem_append, not_or] at hv
        have q := e2 v hv.1
        have va : v ≠ a := fun z => hv.2 (by rw [z]; simp)
        have qa := q.2 a
        have qb := q.2 b
        have vb : v ≠ b := fun z => hv.1 (z ▸ hb)
        unfold mg
        refine ⟨by grind, fun y hy => ?_⟩
        have := q.2 y
        grind
      · have q : ∀ v, v ∈ litOf home hi ++ [a] → f v = f a ∨ f v = f b := fun v hv => by
          rcases List.mem_append.mp hv with hv | hv
          · exact .inr (e3 v b hv hb)
          · simp at hv; exact .inl (by rw [hv])
        have a1 := q v hv
        have a2 := q x hx
        unfold mg
        grind
    rcases he with he | he
    · obtain ⟨g, g1, g2, g3⟩ := fin a b he (.inl ⟨rfl, rfl⟩)
      exact ⟨g, by simpa using g1, g2, g3⟩
    · obtain ⟨g, g1, g2, g3⟩ := fin b a he (.inr ⟨rfl, rfl⟩)
      exact ⟨g, by simpa using g1, g2, g3⟩
theorem lit_count {G : Web} {home : Nat} {hi : Hist} (o : HOk G home hi) (hh : home < G.n) (all : ∀ v, v < G.n → v ∈ litOf home hi) : (hi.filter fun x => x.2.2).length = G.n - 1 := by
  have p : (litOf home hi).Perm (List.range G.n) := (List.perm_ext_iff_of_nodup o.lit List.nodup_range).mpr fun v => ⟨fun m => List.mem_range.mpr (o.litLt hh v m), fun m => all v (List.mem_range.mp m)⟩
  have := p.length_eq
  unfold litOf at this
  rw [List.length_cons, List.length_map, List.length_range] at this
  omega
theorem cnt_home {G : Web} {home : Nat} {rule : Hist → Option (Nat × Nat)} {F : Nat → Nat → Nat → Bool} (R : RuleOk G home rule) (k : Nat) : cntOf (runH rule F k []) home = 0 := by
  refine (run_ind (F := F) R (fun hi => cntOf hi home = 0) (fun hi r a o p e => ?_) k [] HOk.nil rfl).2
  obtain ⟨_, _, h3, _, _⟩ := R.sound hi r a o e
  have : a ≠ home := fun z => h3 (lit_mem.mpr (.inl z))
  rw [cntOf_app, p]
  simp [this]
/-- a road that leads from a crossing to another one -/
def isAt (v : Nat) (p : Nat × Nat) : Bool := decide (p.1 ≠ p.2 ∧ (p.1 = v ∨ p.2 = v))
theorem sum_one_eq {c : Nat → Nat} {u : Nat} (h : ∀ w, c w = if w = u then 1 else 0) : ∀ n, ((List.range n).map c).sum = if u < n then 1 else 0
  | 0 => by simp
  | n + 1 => by
    rw [List.range_succ, List.map_append, List.sum_append]
    simp only [List.map_cons, List.map_nil, List.sum_cons, List.sum_nil]
    rw [sum_one_eq h n, h n]
    by_cases c : n = u
    · subst c; simp
    · by_cases d : u < n
      · rw [if_neg c, if_pos d, if_pos (by omega)]; rfl
      · rw [if_neg c, if_neg d, if_neg (by omega)]; rfl
theorem sum_zero {c : Nat → Nat} (h : ∀ w, c w = 0) : ∀ n, ((List.range n).map c).sum = 0
  | 0 => rfl
  | n + 1 => by
    rw [List.range_succ, List.map_append, List.sum_append, sum_zero h n]
    simp [h n]
theorem jn_count (v n : Nat) : ∀ l : List (Nat × Nat), (∀ p ∈ l, p.1 < n ∧ p.2 < n) → ((List.range n).map fun w => jn l v w).sum = l.countP (isAt v)
  | [], _ => sum_zero (fun _ => rfl) n
  | p :: l, h => by
    have ih := jn_count v n l fun q m => h q (List.mem_cons_of_mem _ m)
    have hp := h p List.mem_cons_self
    have e : (fun w => jn (p :: l) v w) = fun w => (if p.1 ≠ p.2 ∧ ((p.1 = v ∧ p.2 = w) ∨ (p.2 = v ∧ p.1 = w)) then 1 else 0) + jn l v w := rfl
    rw [e, sum_add2 _ (fun w => jn l v w), ih, List.countP_cons]
    by_cases c : p.1 ≠ p.2 ∧ (p.1 = v ∨ p.2 = v)
    · have q : isAt v p = true := decide_eq_true c
      rw [q, if_pos rfl, sum_one_eq (u := if p.1 = v then p.2 else p.1) (fun w => by grind)]
      rw [if_pos (by grind)]
      omega
    · have q : isAt v p = false := decide_eq_false c
      rw [q, sum_zero (fun w => by grind)]
      simp
theorem sub_len : ∀ {l m : List Nat}, l.Nodup → (∀ x ∈ l, x ∈ m) → l.length ≤ m.length
  | [], _, _, _ => Nat.zero_le _
  | a :: l, m, nd, h => by
    obtain ⟨n1, n2⟩ := List.nodup_cons.mp nd
    have ha := h a List.mem_cons_self
    have := sub_len (m := m.erase a) n2 fun x hx => (List.mem_erase_of_ne (show x ≠ a from fun z => n1 (z ▸ hx))).mpr (h x (List.mem_cons_of_mem _ hx))
    rw [List.length_erase_of_mem ha] at this
    have := List.length_pos_of_mem ha
    rw [List.length_cons]
    omega
end TL.WP
/-! The tries of a tree and of a pile, whatever the rule. -/
namespace TL.WP
/-! ### counting roads -/
theorem roads_map (G : Web) : (List.range G.roads.length).map (endsOf G) = G.roads := by
  apply List.ext_getElem?
  intro i
  rw [List.getElem?_map]
  by_cases h : i < G.roads.length
  · rw [List.getElem?_range h, ends_at h]; rfl
  · rw [List.getElem?_eq_none (by rw [List.length_range]; omega), List.getElem?_eq_none (by omega)]; rfl
theorem count_roads (G : Web) (Q : Nat × Nat → Bool) : ((List.range G.roads.length).filter fun r => Q (endsOf G r)).length = G.roads.countP Q := by
  conv => rhs; rw [← roads_map G]
  rw [List.countP_map, List.countP_eq_length_filter]; rfl
theorem cntOf_len (H : Hist) (v : Nat) : ((H.filter fun x => decide (x.2.1 = v)).map fun x => x.1).length = cntOf H v := by
  unfold cntOf
  rw [List.length_map, List.countP_eq_length_filter]
theorem cnt_le {G : Web} {home : Nat} {H : Hist} (o : HOk G home H) {v : Nat} (Q : Nat × Nat → Bool) (h : ∀ x ∈ H, x.2.1 = v → Q (endsOf G x.1) = true) : cntOf H v ≤ G.roads.countP Q := by
  rw [← count_roads, ← cntOf_len]
  refine sub_len (List.Nodup.sublist ((List.filter_sublist).map _) o.met) fun r m => ?_
  obtain ⟨x, mx, rfl⟩ := List.mem_map.mp m
  obtain ⟨m1, m2⟩ := List.mem_filter.mp mx
  exact List.mem_filter.mpr ⟨List.mem_range.mpr (o.road x m1), h x m1 (of_decide_eq_true m2)⟩
theorem cnt_ge {G : Web} {H : Hist} {v : Nat} (Q : Nat × Nat → Bool) (h : ∀ r, r < G.roads.length → Q (endsOf G r) = true → ∃ x ∈ H, x.1 = r ∧ x.2.1 = v) : G.roads.countP Q ≤ cntOf H v := by
  rw [← count_roads, ← cntOf_len]
  refine sub_len (List.nodup_range.filter _) fun r m => ?_
  obtain ⟨m1, m2⟩ := List.mem_filter.mp m
  obtain ⟨x, mx, e1, e2⟩ := h r (List.mem_range.mp m1) m2
  exact List.mem_map.mpr ⟨x, List.mem_filter.mpr ⟨mx, decide_eq_true e2⟩, e1⟩
theorem ways_count {G : Web} (o : WOk G) (v : Nat) : ways G v = G.roads.countP (isAt v) := jn_count v G.n G.roads o.road
/-- a road from a crossing to some -/
def isTo (v : Nat) (B : List Nat) (p : Nat × Nat) : Bool := decide (p.1 ≠ p.2 ∧ ((p.1 = v ∧ p.2 ∈ B) ∨ (p.2 = v ∧ p.1 ∈ B)))
theorem sum_mem {c : Nat → Nat} {u : Nat} (h : ∀ w, c w = if w = u then 1 else 0) : ∀ B : List Nat, B.Nodup → (B.map c).sum = if u ∈ B then 1 else 0
  | [], _ => rfl
  | b :: B, nd => by
    obtain ⟨n1, n2⟩ := List.nodup_cons.mp nd
    rw [List.map_cons, List.sum_cons, sum_mem h B n2, h b]
    by_cases c : b = u
    · subst c; simp [n1]
    · simp [c, Ne.symm c]
theorem sum_mem0 {c : Nat → Nat} (h : ∀ w, c w = 0) : ∀ B : List Nat, (B.map c).sum = 0
  | [] => rfl
  | b :: B => by rw [List.map_cons, List.sum_cons, sum_mem0 h B, h b]
theorem rto_cnt (v : Nat) {B : List Nat} (nd : B.Nodup) : ∀ l : List (Nat × Nat), (B.map fun w => jn l v w).sum = l.countP (isTo v B)
  | [] => sum_mem0 (fun _ => rfl) B
  | p :: l => by
    have ih := rto_cnt v nd l
    have e : (fun w => jn (p :: l) v w) = fun w => (if p.1 ≠ p.2 ∧ ((p.1 = v ∧ p.2 = w) ∨ (p.2 = v ∧ p.1 = w)) then 1 else 0) + jn l v w := rfl
    rw [e, sum_add2 _ (fun w => jn l v w), ih, List.countP_cons]
    by_cases c : p.1 ≠ p.2 ∧ (p.1 = v ∨ p.2 = v)
    · rw [sum_mem (u := if p.1 = v then p.2 else p.1) (fun w => by grind) B nd]
      by_cases d : (if p.1 = v then p.2 else p.1) ∈ B
      · have q : isTo v B p = true := decide_eq_true (by grind)
        rw [q, if_pos d, if_pos rfl]
        omega
      · have q : isTo v B p = false := decide_eq_false (by grind)
        rw [q, if_neg d]
        simp
    · have q : isTo v B p = false := decide_eq_false (by grind)
      rw [q, sum_mem0 (fun w => by grind)]
      simp
theorem rto_count (G : Web) (v : Nat) {B : List Nat} (nd : B.Nodup) : rto G v B = G.roads.countP (isTo v B) := rto_cnt v nd G.roads
theorem cntOf_split (hi' t : Hist) (x : Nat × Nat × Bool) (v : Nat) : cntOf (hi' ++ x :: t) v = cntOf hi' v + (if x.2.1 = v then 1 else 0) + cntOf t v := by
  unfold cntOf
  rw [List.countP_append, List.countP_cons]
  by_cases c : x.2.1 = v <;> simp [c] <;> omega
section
variable {G : Web} {home : Nat} {rule : Hist → Option (Nat × Nat)} {F : Nat → Nat → Nat → Bool}
theorem run_split (R : RuleOk G home rule) (k : Nat) : ∀ hi' x t, runH rule F k [] = hi' ++ x :: t → HOk G home hi' ∧ rule hi' = some (x.1, x.2.1) ∧ x.2.2 = F x.1 x.2.1 (cntOf hi' x.2.1 + 1) := by
  refine (run_ind (F := F) R (fun hi => ∀ hi' x t, hi = hi' ++ x :: t → HOk G home hi' ∧ rule hi' = some (x.1, x.2.1) ∧ x.2.2 = F x.1 x.2.1 (cntOf hi' x.2.1 + 1)) (fun hi r a o p e hi' x t z => ?_) k [] HOk.nil fun hi' x t z => ?_).2
  · rcases List.eq_nil_or_concat t with c | ⟨t', y, c⟩
    · subst c
      obtain ⟨z1, z2⟩ := List.append_inj' z rfl
      simp only [List.cons.injEq, and_true] at z2
      subst z1 z2
      exact ⟨o, e, rfl⟩
    · subst c
      rw [List.concat_eq_append, ← List.cons_append, ← List.append_assoc] at z
      obtain ⟨z1, z2⟩ := List.append_inj' z rfl
      exact p hi' x t' z1
  · cases hi' <;> cases z
theorem lit_up {home : Nat} {hi t : Hist} {v : Nat} (h : v ∈ litOf home hi) : v ∈ litOf home (hi ++ t) := by
  rcases lit_mem.mp h with h | ⟨r, h⟩
  · exact lit_mem.mpr (.inl h)
  · exact lit_mem.mpr (.inr ⟨r, List.mem_append_left _ h⟩)
/-- a crossing that is lit is not tried again -/
theorem cnt_lit (R : RuleOk G home rule) {k : Nat} {hi' t : Hist} {x : Nat × Nat × Bool} (e : runH rule F k [] = hi' ++ x :: t) (hx : x.2.2 = true) : cntOf t x.2.1 = 0 := by
  unfold cntOf
  rw [List.countP_eq_zero]
  intro y my hy
  have hy := of_decide_eq_true hy
  obtain ⟨t1, t2, rfl⟩ := List.append_of_mem my
  rw [← List.cons_append, ← List.append_assoc] at e
  obtain ⟨o, er, _⟩ := run_split R k _ y t2 e
  obtain ⟨_, _, h3, _, _⟩ := R.sound _ _ _ o er
  refine h3 (lit_mem.mpr (.inr ⟨x.1, List.mem_append_right _ ?_⟩))
  rw [hy, ← hx]
  exact List.mem_cons_self
/-- a crossing that a road did not light, and that is lit in the end, is tried again -/
theorem cnt_dim (R : RuleOk G home rule) {k : Nat} {hi' t : Hist} {x : Nat × Nat × Bool} (e : runH rule F k [] = hi' ++ x :: t) (hx : x.2.2 = false) (hl : x.2.1 ∈ litOf home (runH rule F k [])) : 0 < cntOf t x.2.1 := by
  obtain ⟨o, er, _⟩ := run_split R k _ x t e
  obtain ⟨_, _, h3, _, _⟩ := R.sound _ _ _ o er
  unfold cntOf
  rw [List.countP_pos_iff]
  rw [e] at hl
  rcases lit_mem.mp hl with hl | ⟨r, hl⟩
  · exact absurd (lit_mem.mpr (.inl hl)) h3
  · rcases List.mem_append.mp hl with hl | hl
    · exact absurd (lit_mem.mpr (.inr ⟨r, hl⟩)) h3
    · rcases List.mem_cons.mp hl with hl | hl
      · rw [← hl] at hx; cases hx
      · exact ⟨_, hl, decide_eq_true rfl⟩
theorem cnt_ways (R : RuleOk G home rule) (o : WOk G) (k : Nat) (v : Nat) : cntOf (runH rule F k []) v ≤ ways G v := by
  obtain ⟨ho, tr⟩ := run_tries (F := F) R k
  rw [ways_count o]
  refine cnt_le ho (isAt v) fun x m e => ?_
  obtain ⟨hi', t, z⟩ := List.append_of_mem m
  obtain ⟨o', er, _⟩ := run_split R k _ x t z
  obtain ⟨_, _, h3, _, b, hb, he⟩ := R.sound _ _ _ o' er
  have ne : x.2.1 ≠ b := fun c => h3 (c ▸ hb)
  refine decide_eq_true ?_
  rcases he with he | he <;> (rw [he]; grind)
/-- found in the fire: it goes on till nothing more burns -/
theorem burnL_end (G : Web) (p : List Int) : ∀ (k : Nat) (found late : List Nat), found.Nodup → (∀ x ∈ found, x < G.n) → G.n ≤ found.length + k → (late = [] → burnS G p found = []) → (∀ x ∈ burnL G p k found late, x < G.n) ∧ (burnL G p k found late).Nodup ∧ (∀ x ∈ found, x ∈ burnL G p k found late) ∧ burnS G p (burnL G p k found late) = []
  | 0, found, late, nd, lt, hl, _ => by
    refine ⟨lt, nd, fun _ h => h, ?_⟩
    have all : ∀ v, v < G.n → v ∈ found := fun v hv => Classical.byContradiction fun c => by
      have := nodup_len (n := G.n) (l := v :: found) (List.nodup_cons.mpr ⟨c, nd⟩) fun x m => by
        cases m with
        | head => exact hv
        | tail _ m => exact lt x m
      rw [List.length_cons] at this
      omega
    exact List.eq_nil_iff_forall_not_mem.mpr fun v m => (burnS_mem.mp m).1.2 (all v (burnS_mem.mp m).1.1)
  | k + 1, found, late, nd, lt, hl, hb => by
    unfold burnL
    by_cases c : late = []
    · rw [if_pos c]
      exact ⟨lt, nd, fun _ h => h, hb c⟩
    · rw [if_neg c]
      have nd2 : (found ++ burnS G p found).Nodup := List.nodup_append.mpr ⟨nd, burnS_nodup G p found, fun a ha b hb e => (burnS_mem.mp hb).1.2 (e ▸ ha)⟩
      have lt2 : ∀ x ∈ found ++ burnS G p found, x < G.n := fun x m => by
        rcases List.mem_append.mp m with m | m
        · exact lt x m
        · exact (burnS_mem.mp m).1.1
      by_cases d : burnS G p found = []
      · rw [d, List.append_nil]
        have e : burnL G p k found [] = found := by cases k <;> simp [burnL]
        rw [e]
        exact ⟨lt, nd, fun _ h => h, d⟩
      · have := List.length_pos_iff.mpr d
        obtain ⟨a, b, c', d'⟩ := burnL_end G p k _ (burnS G p found) nd2 lt2 (by rw [List.length_append]; omega) fun z => absurd z d
        exact ⟨a, b, fun x m => c' x (List.mem_append_left _ m), d'⟩
theorem burn_end {G : Web} (p : List Int) {home : Nat} (hh : home < G.n) : (∀ x ∈ burn G home p, x < G.n) ∧ (burn G home p).Nodup ∧ home ∈ burn G home p ∧ burnS G p (burn G home p) = [] := by
  obtain ⟨a, b, c, d⟩ := burnL_end G p G.n [home] [home] (by simp) (fun x m => by simp at m; omega) (by simp) (fun z => by cases z)
  exact ⟨a, b, c home List.mem_cons_self, d⟩
theorem full_len {n : Nat} {l : List Nat} (nd : l.Nodup) (lt : ∀ x ∈ l, x < n) : l.length = n ↔ ∀ v, v < n → v ∈ l := by
  refine ⟨fun h v hv => Classical.byContradiction fun c => ?_, fun h => ?_⟩
  · have := nodup_len (n := n) (l := v :: l) (List.nodup_cons.mpr ⟨c, nd⟩) fun x m => by
      cases m with
      | head => exact hv
      | tail _ m => exact lt x m
    rw [List.length_cons] at this
    omega
  · have p : l.Perm (List.range n) := (List.perm_ext_iff_of_nodup nd List.nodup_range).mpr fun v => ⟨fun m => List.mem_range.mpr (lt v m), fun m => h v (List.mem_range.mp m)⟩
    rw [p.length_eq, List.length_range]
end
end TL.WP
/-! Trees and piles, there and back, whatever the rule. -/
namespace TL.WP
/-- the pile of what was tried -/
def pileH (G : Web) (home : Nat) (hi : Hist) : List Int := (List.range G.n).map fun v => (if v = home then 0 else (ways G v : Int)) - (cntOf hi v : Int)
theorem pileH_len (G : Web) (home : Nat) (hi : Hist) : (pileH G home hi).length = G.n := by unfold pileH; rw [List.length_map, List.length_range]
theorem pileH_at {G : Web} {home : Nat} {hi : Hist} {v : Nat} (h : v < G.n) : gi (pileH G home hi) v = (if v = home then 0 else (ways G v : Int)) - (cntOf hi v : Int) := by
  unfold pileH gi
  rw [List.getD_eq_getElem?_getD, List.getElem?_map, List.getElem?_range h]; rfl
theorem dueP_at {G : Web} {p : List Int} {v : Nat} (h : v < G.n) : gi (dueP G p) v = (ways G v : Int) - gi p v := by
  unfold dueP
  conv => lhs; unfold gi
  rw [List.getD_eq_getElem?_getD, List.getElem?_map, List.getElem?_range h]; rfl
section
variable {G : Web} {home : Nat} {rule : Hist → Option (Nat × Nat)} {F : Nat → Nat → Nat → Bool}
theorem lit_split {H : Hist} {v : Nat} (h : v ∈ litOf home H) (ne : v ≠ home) : ∃ hi' x t, H = hi' ++ x :: t ∧ x.2.1 = v ∧ x.2.2 = true := by
  rcases lit_mem.mp h with c | ⟨r, m⟩
  · exact absurd c ne
  · obtain ⟨s, t, e⟩ := List.append_of_mem m
    exact ⟨s, (r, v, true), t, e, rfl, rfl⟩
/-- all burns that got lit -/
theorem run_comes (o : WOk G) (R : RuleOk G home rule) (hh : home < G.n) {k : Nat} {H : Hist} (hH : runH rule F k [] = H) (all : ∀ v, v < G.n → v ∈ litOf home H) : comes G home (pileH G home H) = true := by
  obtain ⟨b1, b2, b3, b4⟩ := burn_end (G := G) (pileH G home H) hh
  generalize hB : burn G home (pileH G home H) = B at b1 b2 b3 b4
  have main : ∀ (m : Nat) (hi' t : Hist), hi'.length ≤ m → H = hi' ++ t → ∀ v ∈ litOf home hi', v ∈ B := by
    intro m
    induction m with
    | zero =>
      intro hi' t hl e v hv
      have : hi' = [] := List.length_eq_zero_iff.mp (by omega)
      subst this
      have : v = home := by simpa [litOf] using hv
      rw [this]; exact b3
    | succ m ih =>
      intro hi' t hl e v hv
      rcases List.eq_nil_or_concat hi' with c | ⟨hi'', x, c⟩
      · subst c
        have : v = home := by simpa [litOf] using hv
        rw [this]; exact b3
      · rw [List.concat_eq_append] at c
        subst c
        rw [List.length_append, List.length_singleton] at hl
        have e2 : H = hi'' ++ x :: t := by rw [e, List.append_assoc]; rfl
        have ih0 := ih hi'' (x :: t) (by omega) e2
        rw [litOf_app] at hv
        cases hx : x.2.2 with
        | false => rw [hx] at hv; exact ih0 v hv
        | true =>
          rw [hx] at hv
          rcases List.mem_append.mp hv with hv | hv
          · exact ih0 v hv
          · simp only [List.mem_singleton] at hv
            subst hv
            refine Classical.byContradiction fun nb => ?_
            obtain ⟨o1, er, _⟩ := run_split R k hi'' x t (hH.trans e2)
            obtain ⟨s1, s2, s3, s4, b, hb, he⟩ := R.sound _ _ _ o1 er
            have c0 := cnt_lit R (hH.trans e2) hx
            have c1 : cntOf H x.2.1 = cntOf (hi'' ++ [x]) x.2.1 := by rw [e2, cntOf_split, cntOf_app, c0]; rfl
            have ne : x.2.1 ≠ home := fun z => nb (z ▸ b3)
            have c2 : cntOf (hi'' ++ [x]) x.2.1 ≤ G.roads.countP (isTo x.2.1 B) := by
              refine cnt_le (o1.step _ s1 s2 s3 s4) _ fun y my ey => ?_
              obtain ⟨s, t', z⟩ := List.append_of_mem my
              have zl : s.length ≤ m := by
                have := congrArg List.length z
                rw [List.length_append, List.length_append, List.length_singleton, List.length_cons] at this
                omega
              have e3 : H = s ++ (y :: (t' ++ t)) := by rw [e, z, List.append_assoc]; rfl
              obtain ⟨o2, er2, _⟩ := run_split R k s y (t' ++ t) (hH.trans e3)
              obtain ⟨_, _, _, _, b', hb', he'⟩ := R.sound _ _ _ o2 er2
              have q := ih s _ zl e3 b' hb'
              have ne' : x.2.1 ≠ b' := fun z => nb (z ▸ q)
              rw [ey] at he'
              refine decide_eq_true ?_
              rcases he' with he' | he' <;> (rw [he']; grind)
            rw [← rto_count G x.2.1 b2, ← c1] at c2
            have : x.2.1 ∈ burnS G (pileH G home H) B := burnS_mem.mpr ⟨⟨s4, nb⟩, by rw [pileH_at s4, if_neg ne]; omega⟩
            rw [b4] at this
            cases this
  have full : ∀ v, v < G.n → v ∈ B := fun v hv => main H.length H [] (Nat.le_refl _) (List.append_nil _).symm v (all v hv)
  unfold comes
  rw [hB, Bool.and_eq_true]
  refine ⟨decide_eq_true ?_, decide_eq_true ((full_len b2 b1).mpr full)⟩
  unfold unst
  rw [List.filter_eq_nil_iff]
  intro v mv c
  have hv := List.mem_range.mp mv
  rw [Bool.and_eq_true] at c
  have ne : v ≠ home := by simpa using c.1
  have c2 := of_decide_eq_true c.2
  rw [pileH_at hv, if_neg ne] at c2
  obtain ⟨hi', x, t, e, ex, _⟩ := lit_split (all v hv) ne
  have := cntOf_split hi' t x v
  rw [← e, if_pos ex] at this
  omega
/-- the pile tells the same tries -/
theorem run_again (R : RuleOk G home rule) {H : Hist} (hH : runH rule F G.roads.length [] = H) (all : ∀ v, v < G.n → v ∈ litOf home H) : runH rule (lightsP none (dueP G (pileH G home H))) G.roads.length [] = H := by
  rw [run_same (F := F) (F' := lightsP none (dueP G (pileH G home H))) R G.roads.length [] HOk.nil fun hi' r a t e _ => ?_]
  · exact hH
  · obtain ⟨o1, er, _⟩ := run_split R _ hi' _ t e
    obtain ⟨s1, s2, s3, s4, b, hb, he⟩ := R.sound _ _ _ o1 er
    simp only at s3 s4
    have ne : a ≠ home := fun z => s3 (lit_mem.mpr (.inl z))
    have cs := cntOf_split hi' t (r, a, F r a (cntOf hi' a + 1)) a
    rw [← e, hH] at cs
    simp only [if_true] at cs
    show decide (gi (dueP G (pileH G home H)) a - ((cntOf hi' a + 1 : Nat) : Int) = 0) = _
    rw [dueP_at s4, pileH_at s4, if_neg ne, cs]
    cases hx : F r a (cntOf hi' a + 1) with
    | true =>
      have c0 := cnt_lit R e hx
      simp only at c0
      rw [c0]
      exact decide_eq_true (by omega)
    | false =>
      have c0 := cnt_dim R e hx (by rw [hH]; exact all a s4)
      simp only at c0
      exact decide_eq_false (by omega)
/-- the tries of a tree -/
theorem tree_tries (o : WOk G) (R : RuleOk G home rule) (hh : home < G.n) {T : List Nat} (hT : ∀ r ∈ T, r < G.roads.length) {f : Nat → Nat} (hj : jf id (T.map (endsOf G)) = some f) (hf : ∀ r, r < G.roads.length → f (endsOf G r).1 = f (endsOf G r).2)
    {H : Hist} (hH : runH rule (fun r _ _ => decide (r ∈ T)) G.roads.length [] = H) : (∀ v, v < G.n → v ∈ litOf home H) ∧ (∀ r, r ∈ T ↔ r ∈ (H.filter fun x => x.2.2).map fun x => x.1) := by
  have one : ∀ v w, v < G.n → w < G.n → f v = f w := fun v w hv hw => by
    have := o.conn (fun u => f u = f v) (fun p mp => by
      obtain ⟨i, hi, e⟩ := List.mem_iff_getElem.mp mp
      have q := hf i hi
      have e2 : endsOf G i = p := by
        have := ends_at (G := G) hi
        rw [List.getElem?_eq_getElem hi] at this
        rw [← e]
        exact (Option.some.inj this).symm
      rw [e2] at q
      simp only [q]) v w hv hw
    exact (this.mp rfl).symm
  have all : ∀ v, v < G.n → v ∈ litOf home H := by
    rw [← hH]
    refine all_lit R hh hT (fun r m _ _ => decide_eq_true m) fun L hL v w hv hw => ?_
    refine jf_closed L (T.map (endsOf G)) id f (fun p mp => ?_) (fun v w z => by rw [show v = w from z]) hj v w (one v w hv hw)
    obtain ⟨r, mr, rfl⟩ := List.mem_map.mp mp
    exact hL r mr
  obtain ⟨ho, tr⟩ := run_tries (F := fun r _ _ => decide (r ∈ T)) R G.roads.length
  have flag : ∀ x ∈ H, x.2.2 = decide (x.1 ∈ T) := fun x m => by
    obtain ⟨s, t, e⟩ := List.append_of_mem m
    exact (run_split R _ s x t (hH.trans e)).2.2
  refine ⟨all, fun r => ⟨fun m => ?_, fun m => ?_⟩⟩
  · refine Classical.byContradiction fun c => ?_
    obtain ⟨g, g1, g2, g3⟩ := lit_joins (F := fun r _ _ => decide (r ∈ T)) R G.roads.length
    rw [hH] at g1 g3
    have hr := hT r m
    have pe := o.road _ (List.mem_of_getElem? (ends_at hr))
    have e := g3 _ _ (all _ pe.1) (all _ pe.2)
    have sub : ∀ x ∈ (H.filter fun x => x.2.2).map fun x => x.1, x ∈ T := fun x mx => by
      obtain ⟨y, my, rfl⟩ := List.mem_map.mp mx
      obtain ⟨m1, m2⟩ := List.mem_filter.mp my
      rw [flag y m1] at m2
      exact of_decide_eq_true m2
    have nd : ((H.filter fun x => x.2.2).map fun x => x.1).Nodup := by
      rw [hH] at ho
      exact List.Nodup.sublist ((List.filter_sublist).map _) ho.met
    -- T without doubles: T's own list may be drawn otherwise, so look at the rest of it
    have tn : T.Nodup := by
      refine Classical.byContradiction fun nn => ?_
      -- a double road joins nothing
      have : ∀ (T : List Nat) (f0 f : Nat → Nat), jf f0 (T.map (endsOf G)) = some f → T.Nodup := by
        intro T
        induction T with
        | nil => intro _ _ _; exact List.nodup_nil
        | cons r T ih =>
          intro f0 f h
          rw [List.map_cons, jf_cons] at h
          by_cases c : f0 (endsOf G r).1 = f0 (endsOf G r).2
          · rw [if_pos c] at h; cases h
          · rw [if_neg c] at h
            refine List.nodup_cons.mpr ⟨fun mr => ?_, ih _ _ h⟩
            obtain ⟨s, t, e⟩ := List.append_of_mem mr
            rw [e, List.map_append, jf_app] at h
            cases h2 : jf (mg f0 (endsOf G r).1 (endsOf G r).2) (s.map (endsOf G)) with
            | none => rw [h2] at h; cases h
            | some g =>
              rw [h2] at h
              have q := (jf_same _ _ _ h2).1 (endsOf G r).1 (endsOf G r).2 (by unfold mg; grind)
              have h : jf g ((r :: t).map (endsOf G)) = some f := h
              rw [List.map_cons, jf_cons, if_pos q] at h
              cases h
      exact nn (this T id f hj)
    obtain ⟨A, hA⟩ : ∃ A, ((H.filter fun x => x.2.2).map fun x => x.1) = A := ⟨_, rfl⟩
    rw [hA] at c sub nd
    have pm : T.Perm ((A ++ [r]) ++ T.filter fun x => !decide (x ∈ A ++ [r])) := by
      refine (List.perm_ext_iff_of_nodup tn (List.nodup_append.mpr ⟨List.nodup_append.mpr ⟨nd, by simp, fun a ha b hb e => by simp at hb; exact c (hb ▸ e ▸ ha)⟩, tn.filter _, fun a ha b hb e => ?_⟩)).mpr fun x => ?_
      · have := (List.mem_filter.mp hb).2
        rw [← e] at this
        simp [ha] at this
      · rw [List.mem_append, List.mem_filter]
        constructor
        · intro mx
          by_cases d : x ∈ A ++ [r]
          · exact .inl d
          · exact .inr ⟨mx, by simp only [d, decide_false, Bool.not_false]⟩
        · rintro (d | ⟨d, _⟩)
          · rcases List.mem_append.mp d with d | d
            · exact sub x d
            · simp at d; rw [d]; exact m
          · exact d
    have both := jf_perm (pm.map (endsOf G)) id
    rw [hj, List.map_append, List.map_append, jf_app, jf_app] at both
    have eA : A.map (endsOf G) = (H.filter fun x => x.2.2).map fun x => endsOf G x.1 := by rw [← hA, List.map_map]; rfl
    rw [eA, g1] at both
    have : jf g ([r].map (endsOf G)) = none := by
      rw [List.map_cons, jf_cons, if_pos e]
    simp only [Option.bind_some, this, Option.bind_none] at both
    exact both
  · obtain ⟨y, my, rfl⟩ := List.mem_map.mp m
    obtain ⟨m1, m2⟩ := List.mem_filter.mp my
    rw [flag y m1] at m2
    exact of_decide_eq_true m2
end
end TL.WP
/-! From a pile that comes again. -/
namespace TL.WP
section
variable {G : Web} {home : Nat} {rule : Hist → Option (Nat × Nat)}
theorem comes_parts {p : List Int} (h : comes G home p = true) : (∀ v, v < G.n → v ≠ home → gi p v < (ways G v : Int)) ∧ (burn G home p).length = G.n := by
  unfold comes at h
  rw [Bool.and_eq_true] at h
  refine ⟨fun v hv ne => ?_, of_decide_eq_true h.2⟩
  have e := of_decide_eq_true h.1
  unfold unst at e
  have := List.filter_eq_nil_iff.mp e v (List.mem_range.mpr hv)
  simp only [Bool.and_eq_true, Bool.not_eq_true', decide_eq_false_iff_not, decide_eq_true_eq] at this
  have : ¬ (ways G v : Int) ≤ gi p v := fun c => this ⟨ne, c⟩
  omega
/-- a pile that comes again lights all -/
theorem pile_lit (o : WOk G) (R : RuleOk G home rule) (hh : home < G.n) {p : List Int} (hc : comes G home p = true) {H : Hist} (hH : runH rule (lightsP none (dueP G p)) G.roads.length [] = H) : ∀ v, v < G.n → v ∈ litOf home H := by
  obtain ⟨st, bl⟩ := comes_parts hc
  obtain ⟨b1, b2, b3, b4⟩ := burn_end (G := G) p hh
  obtain ⟨ho, tr⟩ := run_tries (F := lightsP none (dueP G p)) R G.roads.length
  have en := run_end (F := lightsP none (dueP G p)) R G.roads.length [] HOk.nil (by simp)
  have cn : ∀ v, v < G.n → v ≠ home → v ∉ litOf home H → (cntOf H v : Int) < (ways G v : Int) - gi p v := by
    intro v hv ne
    have := (run_ind (F := lightsP none (dueP G p)) R (fun hi => v ∉ litOf home hi → (cntOf hi v : Int) < (ways G v : Int) - gi p v) (fun hi r a o1 q e => ?_) G.roads.length [] HOk.nil fun _ => ?_).2
    · rw [hH] at this; exact this
    · intro nl
      rw [litOf_app] at nl
      rw [cntOf_app]
      have q' := q fun c => nl (by cases lightsP none (dueP G p) r a (cntOf hi a + 1) <;> simp [c])
      by_cases c : a = v
      · subst c
        cases hx : lightsP none (dueP G p) r a (cntOf hi a + 1) with
        | true => rw [hx] at nl; exact absurd (List.mem_append_right _ (List.mem_singleton.mpr rfl)) nl
        | false =>
          have hx : decide (gi (dueP G p) a - ((cntOf hi a + 1 : Nat) : Int) = 0) = false := hx
          have hx := of_decide_eq_false hx
          rw [dueP_at hv] at hx
          simp only [if_true]
          omega
      · simp only [c, if_false]
        omega
    · have := st v hv ne
      simp only [cntOf, List.countP_nil]
      omega
  rw [hH] at ho tr en
  have sub := burn_sub (G := G) (p := p) (fun v => v ∈ litOf home H) (fun found nd hf v hv nl => by
    have ne : v ≠ home := fun z => nl (z ▸ lit_mem.mpr (.inl rfl))
    have c1 := cn v hv ne nl
    have c2 : rto G v found ≤ cntOf H v := by
      rw [rto_count G v nd]
      refine cnt_ge _ fun r hr q => ?_
      have q := of_decide_eq_true q
      have met : r ∈ metOf H := Classical.byContradiction fun nm => by
        have iff := R.full H ho en r hr nm
        rcases q.2 with ⟨e1, e2⟩ | ⟨e1, e2⟩
        · exact nl (e1 ▸ iff.mpr (hf _ e2).2)
        · exact nl (e1 ▸ iff.mp (hf _ e2).2)
      obtain ⟨x, mx, ex⟩ := List.mem_map.mp met
      refine ⟨x, mx, ex, ?_⟩
      obtain ⟨_, _, b, hb, he⟩ := tr x mx
      rw [ex] at he
      have nb : b ≠ v := fun z => nl (z ▸ hb)
      rcases he with he | he <;> (rw [he] at q; grind)
    omega) G.n [home] [home] (by simp) (fun x m => by simp at m; exact ⟨by omega, m ▸ lit_mem.mpr (.inl rfl)⟩)
  intro v hv
  exact sub v ((full_len b2 b1).mp bl v hv)
/-- so many tries are at each crossing -/
theorem pile_cnt (o : WOk G) (R : RuleOk G home rule) (hh : home < G.n) {p : List Int} (hc : comes G home p = true) {H : Hist} (hH : runH rule (lightsP none (dueP G p)) G.roads.length [] = H) {v : Nat} (hv : v < G.n) (ne : v ≠ home) : (cntOf H v : Int) = (ways G v : Int) - gi p v := by
  obtain ⟨hi', x, t, e, ex, el⟩ := lit_split (pile_lit o R hh hc hH v hv) ne
  subst ex
  obtain ⟨_, _, f⟩ := run_split R _ hi' x t (hH.trans e)
  have c0 := cnt_lit R (hH.trans e) el
  have cs := cntOf_split hi' t x x.2.1
  rw [← e, c0] at cs
  simp only [if_true] at cs
  rw [el] at f
  have f : decide (gi (dueP G p) x.2.1 - ((cntOf hi' x.2.1 + 1 : Nat) : Int) = 0) = true := f.symm
  have f := of_decide_eq_true f
  rw [dueP_at hv] at f
  omega
theorem pile_back (o : WOk G) (R : RuleOk G home rule) (hh : home < G.n) {p : List Int} (hp : p.length = G.n) (h0 : gi p home = 0) (hc : comes G home p = true) {H : Hist} (hH : runH rule (lightsP none (dueP G p)) G.roads.length [] = H) : pileH G home H = p := by
  apply List.ext_getElem?
  intro v
  by_cases hv : v < G.n
  · rw [gi_at (by rw [pileH_len]; exact hv), gi_at (by omega), pileH_at hv]
    by_cases c : v = home
    · subst c
      have := cnt_home (F := lightsP none (dueP G p)) R G.roads.length
      rw [hH] at this
      rw [if_pos rfl, this, h0]; rfl
    · rw [if_neg c, pile_cnt o R hh hc hH hv c]
      congr 1
      omega
  · rw [List.getElem?_eq_none (by rw [pileH_len]; omega), List.getElem?_eq_none (by omega)]
theorem sum_cnt {n : Nat} : ∀ H : Hist, (∀ x ∈ H, x.2.1 < n) → ((List.range n).map (cntOf H)).sum = H.length
  | [], _ => sum_zero (fun _ => rfl) n
  | x :: H, h => by
    have ih := sum_cnt H fun y m => h y (List.mem_cons_of_mem _ m)
    have hx := h x List.mem_cons_self
    have e : cntOf (x :: H) = fun v => (if v = x.2.1 then 1 else 0) + cntOf H v := by
      funext v
      unfold cntOf
      rw [List.countP_cons]
      by_cases c : x.2.1 = v
      · simp [c]; omega
      · simp [c, Ne.symm c]
    rw [e, sum_add2 _ (cntOf H), ih, sum_one_eq (u := x.2.1) (fun _ => rfl), if_pos hx, List.length_cons]
    omega
theorem sum_ways_cnt {n : Nat} : ∀ l : List (Nat × Nat), (∀ p ∈ l, p.1 < n ∧ p.2 < n) → ((List.range n).map fun v => l.countP (isAt v)).sum = 2 * l.countP fun p => !decide (p.1 = p.2)
  | [], _ => sum_zero (fun _ => rfl) n
  | p :: l, h => by
    have ih := sum_ways_cnt l fun q m => h q (List.mem_cons_of_mem _ m)
    have hp := h p List.mem_cons_self
    by_cases c : p.1 = p.2
    · have e : (fun v => (p :: l).countP (isAt v)) = fun v => l.countP (isAt v) := by
        funext v
        have : isAt v p = false := decide_eq_false (by simp [c])
        rw [List.countP_cons, this]; simp
      rw [e, ih, List.countP_cons]
      simp [c]
    · have e : (fun v => (p :: l).countP (isAt v)) = fun v => (if v = p.1 then 1 else 0) + ((if v = p.2 then 1 else 0) + l.countP (isAt v)) := by
        funext v
        rw [List.countP_cons]
        by_cases c1 : p.1 = v
        · have c2 : ¬ p.2 = v := fun z => c (c1.trans z.symm)
          have : isAt v p = true := decide_eq_true ⟨c, .inl c1⟩
          rw [this]; simp [c1, Ne.symm c2]; omega
        · by_cases c2 : p.2 = v
          · have : isAt v p = true := decide_eq_true ⟨c, .inr c2⟩
            rw [this]; simp [c2, Ne.symm c1]; omega
          · have : isAt v p = false := decide_eq_false (by simp [c1, c2])
            rw [this]; simp [Ne.symm c1, Ne.symm c2]
      rw [e, sum_add2 _ (fun v => (if v = p.2 then 1 else 0) + l.countP (isAt v)), sum_add2 _ (fun v => l.countP (isAt v)), ih, sum_one_eq (u := p.1) (fun _ => rfl), if_pos hp.1, sum_one_eq (u := p.2) (fun _ => rfl), if_pos hp.2, List.countP_cons]
      simp [c]; omega
theorem sum_ways (o : WOk G) : (waysL G).sum = 2 * G.roads.countP fun p => !decide (p.1 = p.2) := by
  have e : waysL G = (List.range G.n).map fun v => G.roads.countP (isAt v) := by
    unfold waysL
    exact List.map_congr_left fun v _ => ways_count o v
  rw [e, sum_ways_cnt _ o.road]
theorem tries_nonl (R : RuleOk G home rule) {F : Nat → Nat → Nat → Bool} {k : Nat} : (runH rule F k []).length ≤ G.roads.countP fun p => !decide (p.1 = p.2) := by
  obtain ⟨ho, _⟩ := run_tries (F := F) R k
  have key : (metOf (runH rule F k [])).length ≤ G.roads.countP fun p => !decide (p.1 = p.2) := by
    rw [← count_roads]
    refine sub_len ho.met fun r m => ?_
    obtain ⟨x, mx, rfl⟩ := List.mem_map.mp m
    refine List.mem_filter.mpr ⟨List.mem_range.mpr (ho.road x mx), ?_⟩
    obtain ⟨s, t, e⟩ := List.append_of_mem mx
    obtain ⟨o1, er, _⟩ := run_split R _ s x t e
    obtain ⟨_, _, h3, _, b, hb, he⟩ := R.sound _ _ _ o1 er
    have ne : x.2.1 ≠ b := fun z => h3 (z ▸ hb)
    rcases he with he | he
    · rw [he]; simp [ne]
    · rw [he]; simp [Ne.symm ne]
  unfold metOf at key
  rw [List.length_map] at key
  exact key
theorem map_gn (l : List Nat) : (List.range l.length).map (gn l) = l := by
  apply List.ext_getElem?
  intro i
  rw [List.getElem?_map]
  by_cases hi : i < l.length
  · rw [List.getElem?_range hi, gn_at hi]; rfl
  · rw [List.getElem?_eq_none (by rw [List.length_range]; omega), List.getElem?_eq_none (by omega)]; rfl
theorem gi_cast (l : List Nat) (v : Nat) : gi (l.map fun k : Nat => (k : Int)) v = (gn l v : Int) := by
  unfold gi gn
  rw [List.getD_eq_getElem?_getD, List.getD_eq_getElem?_getD, List.getElem?_map]
  cases l[v]? <;> rfl
/-- the sum of a pile, and its tries -/
theorem pile_sum (o : WOk G) (R : RuleOk G home rule) (hh : home < G.n) {pile : List Nat} (hp : pile.length = G.n) (h0 : gn pile home = 0) (hc : comes G home (pile.map fun k : Nat => (k : Int)) = true) {H : Hist} (hH : runH rule (lightsP none (dueP G (pile.map fun k : Nat => (k : Int)))) G.roads.length [] = H) : pile.sum + ways G home + H.length = (waysL G).sum := by
  obtain ⟨ho, tr⟩ := run_tries (F := lightsP none (dueP G (pile.map fun k : Nat => (k : Int)))) R G.roads.length
  rw [hH] at ho tr
  have e1 := sum_cnt (n := G.n) H ho.at_
  have e2 : pile.sum = ((List.range G.n).map (gn pile)).sum := by rw [← hp, map_gn]
  have e3 : ((List.range G.n).map fun v => if v = home then ways G home else 0).sum = ways G home := by
    have : ∀ n, home < n → ((List.range n).map fun v => if v = home then ways G home else 0).sum = ways G home := by
      intro n
      have z : ∀ m, m ≤ home → ((List.range m).map fun v => if v = home then ways G home else 0).sum = 0 := by
        intro m
        induction m with
        | zero => intro _; rfl
        | succ m ih =>
          intro hm
          rw [List.range_succ, List.map_append, List.sum_append, ih (by omega)]
          have : ¬ m = home := by omega
          simp [this]
      induction n with
      | zero => intro h; omega
      | succ n ih =>
        intro h
        rw [List.range_succ, List.map_append, List.sum_append]
        by_cases c : n = home
        · rw [z n (by omega)]; simp [c]
        · rw [ih (by omega)]; simp [c]
    exact this G.n hh
  have e4 : (waysL G).sum = ((List.range G.n).map fun v => (if v = home then ways G home else 0) + (gn pile v + cntOf H v)).sum := by
    unfold waysL
    congr 1
    apply List.map_congr_left
    intro v mv
    have hv := List.mem_range.mp mv
    by_cases c : v = home
    · have := cnt_home (F := lightsP none (dueP G (pile.map fun k : Nat => (k : Int)))) R G.roads.length
      rw [hH] at this
      subst c
      simp [h0, this]
    · have := pile_cnt o R hh hc hH hv c
      rw [gi_cast] at this
      simp only [c, if_false]
      omega
  rw [e4, sum_add2 _ (fun v => gn pile v + cntOf H v), sum_add2 (gn pile) (cntOf H), e3, ← e2, e1]
  omega
/-- the tree tells the same tries -/
theorem tree_again {F : Nat → Nat → Nat → Bool} (R : RuleOk G home rule) {H : Hist} (hH : runH rule F G.roads.length [] = H) {T : List Int} (hT : ∀ r : Nat, (r : Int) ∈ T ↔ r ∈ (H.filter fun x => x.2.2).map fun x => x.1) : runH rule (lightsP (some T) []) G.roads.length [] = H := by
  rw [run_same (F := F) (F' := lightsP (some T) []) R G.roads.length [] HOk.nil fun hi' r a t e _ => ?_]
  · exact hH
  · obtain ⟨ho, _⟩ := run_tries (F := F) R G.roads.length
    show decide ((r : Int) ∈ T) = _
    rw [hH] at e ho
    cases hx : F r a (cntOf hi' a + 1) with
    | true =>
      refine decide_eq_true ((hT r).mpr (List.mem_map.mpr ⟨(r, a, F r a (cntOf hi' a + 1)), List.mem_filter.mpr ⟨?_, hx⟩, rfl⟩))
      rw [e]
      exact List.mem_append_right _ List.mem_cons_self
    | false =>
      refine decide_eq_false fun c => ?_
      obtain ⟨y, my, ey⟩ := List.mem_map.mp ((hT r).mp c)
      obtain ⟨m1, m2⟩ := List.mem_filter.mp my
      have nd := ho.met
      rw [e] at nd m1
      unfold metOf at nd
      rw [List.map_append, List.map_cons, List.nodup_append, List.nodup_cons] at nd
      obtain ⟨_, ⟨n2, _⟩, n3⟩ := nd
      rcases List.mem_append.mp m1 with m1 | m1
      · exact n3 y.1 (List.mem_map.mpr ⟨y, m1, rfl⟩) r List.mem_cons_self ey
      · rcases List.mem_cons.mp m1 with m1 | m1
        · rw [m1] at m2
          simp only at m2
          rw [hx] at m2
          cases m2
        · exact n2 (List.mem_map.mpr ⟨y, m1, ey⟩)
end
end TL.WP
namespace Ik80
open PySem TL TL.WP
abbrev wf : Nat := 100000
section
variable {k : Nat} {h : Hw}
theorem r_is_integer (i : Int) : callF tb wf (k + 1) n_is_integer [.int i] h = .ok (.bl true) h := by
  refine call_val (fn := f_is_integer) rfl rfl rfl rfl rfl rfl ?_
  simp only [f_is_integer, d_is_integer, go, biOp, isT]
  rfl
theorem r_is_below (i : Int) (n : Nat) : callF tb wf (k + 2) n_is_below [.int i, nW n] h = .ok (.bl (decide (0 ≤ i ∧ i < n))) h := by
  refine call_val (fn := f_is_below) rfl rfl rfl rfl rfl rfl ?_
  simp only [f_is_below, d_is_below, go, r_is_integer, cmpI]
  by_cases h1 : 0 ≤ i <;> by_cases h2 : i < n <;> simp [h1, h2, wp]
end
end Ik80
namespace Ik80
open PySem TL TL.WP
section
variable {k : Nat} {h : Hw}
theorem r_joins {G : Web} (ok : G.Ok) {K : W → Hw → Prop} (c : ∀ r rs h', rs.length = G.n → Own none h h' (matO G.n (jn G.roads) r rs) → K (.ref r) h') : wp (callF tb wf (k + 1) n_joins [webW G] h) K := by
  refine call_mat (fn := f_joins) (n := G.n) (F := jn G.roads) rfl rfl rfl rfl (nr_cons (nr_web G) rfl) ?_ c
  simp only [f_joins, d_joins, go]
  simp only [it_rng1 (k := G.n) (h := Hw.nil) (by have := ok.2.1; omega)]
  have n1 := ok.2.1
  rw [sz_rng n1, cond_true, wp_bind]
  refine wp_loopC (fun d ys h => ∃ rs : List Nat, ys = rs.map W.ref ∧ rs.length = d.length ∧ Own none Hw.nil h (rs.map fun r => (r, rowO G.n fun _ => 0))) ⟨[], rfl, rfl, Own.start _⟩ (fun _ _ _ _ => rfl) (fun d a t e ys h i => ?_) (fun ys h i => ?_)
  · obtain ⟨rs, rfl, hl, O⟩ := i
    simp only [WP.turnE, go]
    refine wp_alloc O fun r1 h1 O1 => ?_
    rw [rep_ref (O1.at 0 rfl) n1 (by decide : [nW 0].length ≤ 1000), rep_one]
    refine wp_alloc O1 fun r2 h2 O2 => ?_
    refine ⟨rs ++ [r2], by simp, by simp [hl], ?_⟩
    rw [rep_rng] at O2
    rw [List.map_append]
    exact ((O2.sub (List.Sublist.cons_cons _ (List.sublist_cons_self _ _))).perm (List.perm_append_comm (l₁ := [_])))
  · obtain ⟨rs, rfl, hl, O⟩ := i
    rw [List.length_range] at hl
    refine wp_alloc O fun r h1 O => ?_
    rw [rows_const] at O
    refine wp_loopS (fun d s h => ∃ a b, s = [some (webW G), some (.ref r), none, a, b] ∧ Own none Hw.nil h (matO G.n (jn d) r rs)) G.roads ⟨none, none, rfl, O⟩ (fun _ _ _ _ => rfl) (fun d p t e s h i => ?_) (fun s h i => ?_)
    · obtain ⟨a, b, rfl, O⟩ := i
      obtain ⟨pv, pw⟩ := ok.2.2.2 p (by rw [e]; simp)
      obtain ⟨av, ev⟩ : ∃ a, rs[p.1]? = some a := ⟨_, List.getElem?_eq_getElem (by omega)⟩
      obtain ⟨aw, ew⟩ : ∃ a, rs[p.2]? = some a := ⟨_, List.getElem?_eq_getElem (by omega)⟩
      simp only [turnSt, go]
      by_cases c : p.1 = p.2
      · simp only [c, decide_true, Bool.not_true, go]
        exact ⟨_, _, rfl, by rw [jn_one _ c]; exact O⟩
      · simp only [c, decide_false, Bool.not_false, go]
        rw [← matO_nil] at O
        rw [O.idxRow ev]
        simp only [go]
        rw [O.idxAt ev pw]
        simp only [go]
        rw [O.idxRow ev]
        simp only [go]
        obtain ⟨h2, e2, O⟩ := O.setAt ev pw (jn d p.1 p.2 + 1)
        rw [e2]
        simp only [go]
        rw [O.idxRow ew]
        simp only [go]
        rw [O.idxAt ew pv]
        simp only [go]
        rw [O.idxRow ew]
        simp only [go]
        obtain ⟨h3, e3, O⟩ := O.setAt ew pv (updF (jn d) p.1 p.2 (jn d p.1 p.2 + 1) p.2 p.1 + 1)
        rw [e3]
        refine ⟨_, _, rfl, ?_⟩
        rw [jn_two _ c] at O
        rw [← matO_nil]
        exact O
    · obtain ⟨a, b, rfl, O⟩ := i
      simp only [go]
      exact ⟨r, rs, [], rfl, hl, by rw [List.append_nil]; exact O⟩
end
end Ik80
namespace Ik80
open PySem TL TL.WP
section
variable {k : Nat} {h : Hw}

theorem r_outs {G : Web} (ok : G.Ok) : callF tb wf (k + 2) n_outs [webW G] h = .ok (natsW (waysL G)) h := by
  refine call_val (fn := f_outs) rfl rfl rfl rfl (nr_cons (nr_web G) rfl) (nr_nats _) ?_
  simp only [f_outs, d_outs, go]
  refine r_joins ok fun r rs h1 hl O => ?_
  have O' := matO_nil ▸ O
  simp only [it_ref (O.at 0 rfl), go]
  rw [sz_map (by have := ok.2.1; omega)]
  simp only [go]
  rw [rowSums O' hl fun a v _ e => by simp only [WP.turnE, go, e]]
  simp only [go]
  refine wp_alloc O fun r2 h2 O2 => ?_
  simp only [tuple_ref (O2.at 0 rfl), go]
  rfl
end
end Ik80
namespace Ik80
open PySem TL TL.WP
section
variable {k : Nat} {h : Hw}
theorem r_is_steady {G : Web} (ok : G.Ok) {home : Nat} {p : List Int} (hp : p.length = G.n) : callF tb wf (k + 3) n_is_steady [webW G, nW home, intsW p] h = .ok (.bl (decide (unst G home p = []))) h := by
  have n1 := ok.2.1
  refine call_val (fn := f_is_steady) rfl rfl rfl rfl (nr_cons (nr_web G) (nr_cons rfl (nr_cons (nr_ints p) rfl))) rfl ?_
  simp only [f_is_steady, d_is_steady, go, r_outs ok, it_rng1 (k := G.n) (h := Hw.nil) (by omega)]
  rw [sz_rng n1]
  simp only [go]
  rw [loopC_filter nW id (fun v => (!decide (v = home)) && decide ((ways G v : Int) ≤ gi p v)) okG0 fun v m => by
    have hv := List.mem_range.mp m
    simp only [WP.turnE, go]
    by_cases c : v = home
    · simp [c, go]
    · simp only [c, decide_false, Bool.not_false, go, idx_ints (gi_at (by omega : v < p.length)), idx_nats (waysL_at hv), cmpI]
      cases decide ((ways G v : Int) ≤ gi p v) <;> rfl]
  simp only [go]
  refine wp_alloc (Own.start _) fun r1 h1 O1 => ?_
  refine wp_alloc O1 fun r2 h2 O2 => ?_
  rw [cmp_eq (eqW_nats (l := unst G home p) (m := []) (by rw [List.map_id] at O2; exact O2.at 1 rfl) (O2.at 0 rfl))]
  simp only [go]
theorem r_roads_to {row : List Nat} {some : List Nat} {r q : Nat} (g1 : h.get r = .some (.lst (row.map nW))) (g2 : h.get q = .some (.lst (some.map nW))) (hs : ∀ w ∈ some, w < row.length) (hl : some.length ≤ 1000) {K : W → Hw → Prop} (c : ∀ h' L, Own none h h' L → K (nW (some.map fun w => row.getD w 0).sum) h') :
    wp (callF tb wf (k + 1) n_roads_to [.ref r, .ref q] h) K := by
  rw [call_open (fn := f_roads_to) rfl rfl rfl rfl rfl, wp_runF]
  simp only [f_roads_to, d_roads_to, go, it_ref g2]
  rw [sz_map (by omega)]
  simp only [go]
  rw [loopC_map nW (fun w => row.getD w 0) (okG1 g2 (beqs_id beq_nat _)) fun w m => by
    simp only [WP.turnE, go, idx_ref (k := w) g1 (by rw [List.getElem?_map, List.getElem?_eq_getElem (hs w m)]; rfl)]
    rw [List.getD_eq_getElem?_getD, List.getElem?_eq_getElem (hs w m)]; rfl]
  simp only [go]
  refine wp_alloc (Own.start _) fun r1 h1 O1 => ?_
  simp only [sum_ref (O1.at 0 rfl), go]
  exact c _ _ O1
end
end Ik80
namespace Ik80
open PySem TL TL.WP
section
variable {k : Nat} {h : Hw}
theorem rto_row {G : Web} {v : Nat} {found : List Nat} (hf : ∀ w ∈ found, w < G.n) : (found.map fun w => ((List.range G.n).map fun w => jn G.roads v w).getD w 0).sum = rto G v found := by
  unfold rto
  congr 1
  apply List.map_congr_left
  intro w m
  rw [List.getD_eq_getElem?_getD, List.getElem?_map, List.getElem?_range (hf w m)]; rfl
theorem r_burnt {G : Web} (ok : G.Ok) {home : Nat} (hh : home < G.n) {p : List Int} (hp : p.length = G.n) {K : W → Hw → Prop} (c : ∀ r h', Own none h h' [(r, .lst ((burn G home p).map nW))] → K (.ref r) h') : wp (callF tb wf (k + 3) n_burnt [webW G, nW home, intsW p] h) K := by
  have n1 := ok.2.1
  refine call_lst (fn := f_burnt) rfl rfl rfl rfl (nr_cons (nr_web G) (nr_cons rfl (nr_cons (nr_ints p) rfl))) (noRefs_map (fun _ => rfl) _) ?_ c
  simp only [f_burnt, d_burnt, go]
  refine r_joins ok fun r rs h1 hl O => ?_
  simp only [go, r_outs ok]
  refine wp_alloc O fun f h2 O => ?_
  refine wp_alloc O fun l h3 O => ?_
  refine wp_whl (fun k s h => ∃ found late f l x, s = [some (webW G), some (nW home), some (intsW p), some (.ref r), some (natsW (waysL G)), some (.ref f), some (.ref l), x, none] ∧ Own none Hw.nil h ((l, .lst (late.map nW)) :: (f, .lst (found.map nW)) :: matO G.n (jn G.roads) r rs) ∧
    burnL G p k found late = burn G home p ∧ (late ≠ [] → G.n < found.length + k) ∧ found.Nodup ∧ ∀ x ∈ found, x < G.n) G.n (by show G.n < 100000; omega) ⟨[home], [home], f, l, none, rfl, O, rfl, fun _ => by simp, by simp, fun x m => by simp at m; omega⟩ (fun k s h i => ?_)
  obtain ⟨found, late, f, l, x, rfl, O, hb, hk, nd, hf⟩ := i
  have fl := nodup_len nd hf
  simp only [go]
  refine wp_alloc O fun e h1 O1 => ?_
  rw [cmp_ne (eqW_nats (l := late) (m := []) (O1.at 1 rfl) (O1.at 0 rfl))]
  simp only [go]
  by_cases c : late = []
  · simp only [c, decide_true, Bool.not_true, go]
    have : found = burn G home p := by
      rw [← hb, c]
      cases k <;> rfl
    rw [this] at O1
    exact ⟨f, _, rfl, O1.sub (List.Sublist.cons _ (List.Sublist.cons _ (List.Sublist.refl _)))⟩
  · simp only [c, decide_false, Bool.not_false, go]
    have hk := hk c
    obtain ⟨m, rfl⟩ : ∃ m, k = m + 1 := ⟨k - 1, by omega⟩
    refine ⟨m, rfl, ?_⟩
    simp only [it_rng1 (k := G.n) (h := h1) (by omega), go]
    rw [sz_rng n1]
    simp only [go]
    rw [loopC_filter nW id (fun v => !decide (v ∈ found)) okG0 fun v m => by
      simp only [WP.turnE, go, cmp_notin (in_list (O1.at 2 rfl))]
      cases decide (v ∈ found) <;> rfl]
    simp only [go]
    refine wp_alloc O1 fun q h2 O2 => ?_
    rw [List.map_id] at O2
    simp only [it_ref (O2.at 0 rfl), go]
    rw [sz_map (by have := List.length_filter_le (fun v => !decide (v ∈ found)) (List.range G.n); rw [List.length_range] at this; omega)]
    simp only [go]
    have OM := O2.sub (L' := matO G.n (jn G.roads) r rs ++ []) (by rw [List.append_nil]; exact List.Sublist.cons _ (List.Sublist.cons _ (List.Sublist.cons _ (List.Sublist.cons _ (List.Sublist.refl _)))))
    refine wp_loopC_own nW (fun v => bif decide ((ways G v : Int) ≤ gi p v + (rto G v found : Nat)) then some v else none) O2 (fun h O => okG1 (O.at 0 rfl) (beqs_id beq_nat _)) (fun v m h O => ?_) (fun h O => ?_)
    · have hv := List.mem_range.mp (List.mem_filter.mp m).1
      obtain ⟨a, ea⟩ : ∃ a, rs[v]? = some a := ⟨_, List.getElem?_eq_getElem (by omega)⟩
      have OM := O.sub (L' := matO G.n (jn G.roads) r rs ++ []) (by rw [List.append_nil]; exact List.Sublist.cons _ (List.Sublist.cons _ (List.Sublist.cons _ (List.Sublist.cons _ (List.Sublist.refl _)))))
      simp only [WP.turnE, go, idx_ints (gi_at (by omega : v < p.length)), OM.idxRow ea]
      refine r_roads_to (row := (List.range G.n).map fun w => jn G.roads v w) (some := found) (by rw [OM.row ea, rowO, List.map_map]; rfl) (O.at 3 rfl) (fun w m => by rw [List.length_map, List.length_range]; exact hf w m) (by omega) fun h' L O' => ?_
      simp only [go, rto_row hf, addI, idx_nats (waysL_at hv), cmpI]
      have OO := O.run0 O'
      cases decide ((ways G v : Int) ≤ gi p v + (rto G v found : Nat))
      · exact ⟨rfl, L, OO⟩
      · exact ⟨rfl, L, OO⟩
    · refine wp_alloc O fun l2 h3 O3 => ?_
      have e2 : (((List.range G.n).filter fun v => !decide (v ∈ found)).filterMap fun v => bif decide ((ways G v : Int) ≤ gi p v + (rto G v found : Nat)) then some v else none) = burnS G p found := by
        rw [fm_bif (fun v => v)]
        exact List.map_id _
      rw [e2] at O3
      simp only [go]
      rw [cat_ref (O3.at 4 rfl) (O3.at 0 rfl) (by
        rw [List.length_map, List.length_map]
        have := nodup_len (burnS_nodup G p found) fun x m => (burnS_mem.mp m).1.1
        omega)]
      refine wp_alloc O3 fun f2 h4 O4 => ?_
      rw [← List.map_append] at O4
      refine ⟨found ++ burnS G p found, burnS G p found, f2, l2, _, rfl, ?_, ?_, fun z => ?_, ?_, fun x m => ?_⟩
      · refine (O4.sub (L' := (f2, .lst ((found ++ burnS G p found).map nW)) :: (l2, .lst ((burnS G p found).map nW)) :: matO G.n (jn G.roads) r rs) ?_).perm (List.Perm.swap _ _ _)
        exact List.Sublist.cons_cons _ (List.Sublist.cons_cons _ (List.Sublist.cons _ (List.Sublist.cons _ (List.Sublist.cons _ (List.Sublist.cons _ (List.Sublist.refl _))))))
      · rw [← hb]
        show _ = if late = [] then found else _
        rw [if_neg c]
      · have : 0 < (burnS G p found).length := List.length_pos_iff.mpr z
        rw [List.length_append]
        omega
      · exact List.nodup_append.mpr ⟨nd, burnS_nodup G p found, fun a ha b hb e => (burnS_mem.mp hb).1.2 (e ▸ ha)⟩
      · rcases List.mem_append.mp m with m | m
        · exact hf x m
        · exact (burnS_mem.mp m).1.1
theorem r_comes_again {G : Web} (ok : G.Ok) {home : Nat} (hh : home < G.n) {p : List Int} (hp : p.length = G.n) : callF tb wf (k + 4) n_comes_again [webW G, nW home, intsW p] h = .ok (.bl (comes G home p)) h := by
  refine call_val (fn := f_comes_again) rfl rfl rfl rfl (nr_cons (nr_web G) (nr_cons rfl (nr_cons (nr_ints p) rfl))) rfl ?_
  simp only [f_comes_again, d_comes_again, go, r_is_steady ok hp]
  unfold comes
  by_cases c : unst G home p = []
  · simp only [c, decide_true, go, Bool.true_and]
    refine r_burnt ok hh hp fun r h1 O => ?_
    simp only [go, len_ref (O.at 0 rfl), List.length_map]
  · simp only [c, decide_false, go, Bool.false_and]
end
end Ik80
namespace Ik80
open PySem TL TL.WP
section
variable {k : Nat} {h : Hw}
theorem r_is_tuple (t : List Int) (n : Nat) : callF tb wf (k + 1) n_is_tuple [intsW t, nW n] h = .ok (.bl (decide (t.length = n))) h := by
  refine call_val (fn := f_is_tuple) rfl rfl rfl rfl (nr_cons (nr_ints t) rfl) rfl ?_
  simp only [f_is_tuple, d_is_tuple, go]
  rw [show biOp (.isinst 2) [intsW t] Hw.nil = .ok (.bl true) Hw.nil from rfl]
  simp only [go]
theorem r_wrong_tree {G : Web} (ok : G.Ok) {t : List Int} (ht : t.length ≤ 1000) : ∃ w, callF tb wf (k + 3) n_wrong_tree [webW G, intsW t] h = .ok w h ∧ w.noRef = true ∧ isNon w = some (treeB G t) := by
  have n1 := ok.2.1
  have n0 := ok.1
  have n2 := ok.2.2.1
  refine call_some (fn := f_wrong_tree) rfl rfl rfl rfl (nr_cons (nr_web G) (nr_cons (nr_ints t) rfl)) ?_
  simp only [f_wrong_tree, d_wrong_tree, go, subN n0, r_is_tuple]
  unfold treeB
  by_cases c : t.length = G.n - 1
  · simp only [c, decide_true, go, Bool.not_true, Bool.true_and, lrng1 (k := G.n) (h := Hw.nil) (by omega)]
    refine wp_alloc (Own.start _) fun l h1 O => ?_
    obtain ⟨T, hT⟩ : ∃ T, treeGo G none (List.range G.n) t = T := ⟨_, rfl⟩
    rw [hT]
    refine wp_loopS (fun d s h => ∃ lots l a b c e, s = [some (webW G), some (intsW t), some (.ref l), a, b, c, e, none, none] ∧ Own none Hw.nil h [(l, .lst (lots.map nW))] ∧ lots.length = G.n ∧
      ∀ r, t.zipIdx = d ++ r → T = treeGo G (d.getLast?.map Prod.fst) lots (r.map Prod.fst)) t.zipIdx ⟨List.range G.n, l, none, none, none, none, rfl, O, List.length_range, fun r e => ?_⟩ (fun _ _ _ _ => rfl) (fun d q r e s h i => ?_) (fun s h i => ?_)
    · rw [List.nil_append] at e
      rw [← e, List.zipIdx_map_fst]; exact hT.symm
    · obtain ⟨lots, l, a, b, c1', c2, rfl, O, hl, inv⟩ := i
      have inv := inv _ e
      obtain ⟨x, i⟩ := q
      have gd : d.length = i := by
        have z : t.zipIdx[d.length]? = some (x, i) := by rw [e]; simp
        rw [List.getElem?_zipIdx] at z
        cases q : t[d.length]? with
        | none => rw [q] at z; cases z
        | some y => rw [q] at z; simp at z; omega
      simp only [turnSt, go, r_is_below]
      rw [List.map_cons, treeGo_cons] at inv
      by_cases c1 : 0 ≤ x ∧ x < (G.roads.length : Int)
      · simp only [c1, and_self, decide_true, Bool.not_true, go, Bool.true_and] at inv ⊢
        obtain ⟨x0, rfl⟩ : ∃ y : Nat, x = (y : Int) := ⟨x.toNat, by omega⟩
        rw [Int.toNat_natCast] at inv
        have hx : x0 < G.roads.length := by omega
        obtain ⟨p1, p2⟩ := ends_ok ok hx
        obtain ⟨A, hA⟩ : ∃ A, gn lots (endsOf G x0).1 = A := ⟨_, rfl⟩
        obtain ⟨B, hB⟩ : ∃ B, gn lots (endsOf G x0).2 = B := ⟨_, rfl⟩
        rw [hA, hB] at inv
        have rest : ∀ y, (inv2 : T = (!decide (A = B) && treeGo G (some (x0 : Int)) (relab lots A B) (r.map Prod.fst))) → wp (exL (callF tb wf (k + 2)) wf [(.setT (.tp [(.nm 5), (.nm 6)]) (.comp (.idx (.var 2) (.var 7)) (.nm 7) .seq [(.idx (.idx (.var 0) (.int 1)) (.var 4))] [] [7])), (.ite (.cmp .eq (.var 5) (.var 6)) [(.ret (.tup [(.var 3)]))] []), (.set 2 (.comp (.ife (.cmp .eq (.var 8) (.var 5)) (.var 6) (.var 8)) (.nm 8) .seq [(.var 2)] [] [8]))]
          [some (webW G), some (intsW t), some (.ref l), some (nW i), some (nW x0), y, c2, none, none] h) (loopK (fun s h => ∃ lots l a b c e, s = [some (webW G), some (intsW t), some (.ref l), a, b, c, e, none, none] ∧ Own none Hw.nil h [(l, .lst (lots.map nW))] ∧ lots.length = G.n ∧
      ∀ r, t.zipIdx = (d ++ [((x0 : Int), i)]) ++ r → T = treeGo G ((d ++ [((x0 : Int), i)]).getLast?.map Prod.fst) lots (r.map Prod.fst)) (seqK (callF tb wf (k + 2)) wf [.ret .non] (outK fun w _ => w.noRef = true ∧ isNon w = some T))) := by
          intro y inv2
          simp only [go, idx_roads (ends_at hx)]
          rw [show ([nW (endsOf G x0).1, nW (endsOf G x0).2] : List W) = [(endsOf G x0).1, (endsOf G x0).2].map nW from rfl, loopC_map (l := [(endsOf G x0).1, (endsOf G x0).2]) nW (gn lots) okG0 fun u m => by
            have hu : u < lots.length := by
              rw [hl]
              simp only [List.mem_cons, List.not_mem_nil, or_false] at m
              rcases m with rfl | rfl <;> assumption
            simp only [WP.turnE, go, idx_ref (k := u) (O.at 0 rfl) (by rw [List.getElem?_map, gn_at hu]; rfl)]]
          simp only [go]
          refine wp_alloc O fun q h1 O1 => ?_
          simp only [asg_ref (O1.at 0 rfl), go, hA, hB]
          by_cases c2 : A = B
          · simp only [c2, decide_true, go, Bool.not_true, Bool.false_and] at inv2 ⊢
            exact ⟨rfl, by rw [inv2]; rfl⟩
          · simp only [c2, decide_false, go, Bool.not_false, Bool.true_and] at inv2 ⊢
            simp only [it_ref (O1.at 1 rfl), go]
            rw [sz_map (by omega)]
            simp only [go]
            rw [loopC_map nW (fun x => if x = A then B else x) (okG1 (O1.at 1 rfl) (beqs_id beq_nat _)) fun u m => by
              simp only [WP.turnE, go]
              by_cases c3 : u = A
              · simp [c3, go]
              · simp [c3, go]]
            simp only [go]
            refine wp_alloc O1 fun q2 h2 O2 => ?_
            refine ⟨relab lots A B, q2, _, _, _, _, rfl, O2.sub (List.Sublist.cons_cons _ (List.nil_sublist _)), by rw [relab_length, hl], fun r2 e2 => ?_⟩
            rw [e, List.append_assoc] at e2
            have e3 := (List.cons.inj (List.append_cancel_left e2)).2
            rw [inv2, e3]
            simp
        by_cases c2 : 0 < i
        · have hi : i - 1 < t.length := by
            have z : t.zipIdx.length = t.length := List.length_zipIdx
            rw [e, List.length_append] at z
            simp at z
            omega
          have gl : d.getLast?.map Prod.fst = some (t[i - 1]'hi) := by
            rw [List.getLast?_eq_getElem?, gd]
            have z : t.zipIdx[i - 1]? = d[i - 1]? := by rw [e, List.getElem?_append_left (by omega)]
            rw [← z, List.getElem?_zipIdx, List.getElem?_eq_getElem hi]
            rfl
          rw [gl] at inv
          simp only [c2, decide_true, go, subN (show 1 ≤ i by omega), idx_ints (List.getElem?_eq_getElem hi), cmpI]
          by_cases c3 : (x0 : Int) ≤ t[i - 1]'hi
          · simp only [c3, decide_true, go]
            refine ⟨rfl, ?_⟩
            have : ¬ t[i - 1]'hi < (x0 : Int) := by omega
            rw [inv]
            simp [this, isNon]
          · simp only [c3, decide_false, go]
            have : t[i - 1]'hi < (x0 : Int) := by omega
            have z := rest c1' (by rw [inv]; simp [this])
            simp only [go] at z
            exact z
        · simp only [c2, decide_false, go]
          have : d = [] := List.eq_nil_of_length_eq_zero (by omega)
          rw [this] at inv
          have z := rest c1' inv
          simp only [go] at z
          exact z
      · simp only [c1, decide_false, Bool.not_false, go, Bool.false_and] at inv ⊢
        exact ⟨rfl, by rw [inv]; rfl⟩
    · obtain ⟨lots, l, a, b, c, e, rfl, O, hl, inv⟩ := i
      simp only [go]
      refine ⟨rfl, ?_⟩
      rw [inv [] (List.append_nil _).symm]
      rfl
  · simp only [c, decide_false, go, Bool.not_false, Bool.false_and]
    exact ⟨rfl, rfl⟩
end
end Ik80
namespace Ik80
open PySem TL TL.WP
section
variable {k : Nat} {h : Hw}
theorem r_is_tree {G : Web} (ok : G.Ok) {t : List Int} (ht : t.length ≤ 1000) : callF tb wf (k + 4) n_is_tree [webW G, intsW t] h = .ok (.bl (treeB G t)) h := by
  refine call_val (fn := f_is_tree) rfl rfl rfl rfl (nr_cons (nr_web G) (nr_cons (nr_ints t) rfl)) rfl ?_
  obtain ⟨w, e, _, hw⟩ := r_wrong_tree (k := k) (h := Hw.nil) ok ht
  simp only [f_is_tree, d_is_tree, go, e]
  rw [show cmpOp .iss w .non Hw.nil = isNon w from rfl, hw]
  simp only [go]
theorem r_is_lighting {r a q : Nat} {t : Option (List Int)} {rest : List Int} (g : h.get q = some (.lst (rest.map W.int))) (ha : a < rest.length) :
    callF tb wf (k + 1) n_is_lighting [nW r, nW a, optW t, .ref q] h = .ok (.bl (lightsP t rest r a 1)) (h.set q (.lst ((rest.set a (gi rest a - 1)).map W.int))) := by
  rw [call_open (fn := f_is_lighting) rfl rfl rfl rfl (by simp only [W.noRefs, W.noRef, Bool.false_and, Bool.and_false])]
  have key : wp (runF (callF tb wf k) wf f_is_lighting [nW r, nW a, optW t, .ref q] h) fun w h1 => w = .bl (lightsP t rest r a 1) ∧ h1 = h.set q (.lst ((rest.set a (gi rest a - 1)).map W.int)) := by
    rw [wp_runF]
    have ea : (rest.map W.int)[a]? = some (.int (gi rest a)) := by rw [List.getElem?_map, gi_at ha]; rfl
    obtain ⟨d, hd⟩ : ∃ d, gi rest a - ((1 : Nat) : Int) = d := ⟨_, rfl⟩
    have hd2 : gi rest a - 1 = d := hd
    rw [hd2]
    simp only [f_is_lighting, d_is_lighting, go, idx_ref (k := a) g ea, subI, nc_opt, hd]
    rw [set_lst g (by rw [List.length_map]; exact ha)]
    simp only [go, nc_opt]
    have g1 : (h.set q (.lst ((rest.map W.int).set a (.int d)))).get q = some (.lst ((rest.map W.int).set a (.int d))) := Hw.set_same _ _ _
    have e2 : (rest.set a d).map W.int = (rest.map W.int).set a (.int d) := List.map_set
    cases t with
    | none =>
      simp only [optW, go, idx_ref (k := a) g1 (List.getElem?_set_self (by rw [List.length_map]; exact ha)), cmpI]
      refine ⟨?_, by rw [e2]⟩
      rw [← hd]; rfl
    | some t =>
      simp only [optW, intsW, go]
      rw [cmp_in (show inOp (nW r) (.tup (t.map W.int)) _ = some (decide ((r : Int) ∈ t)) from in_ints)]
      simp only [go]
      exact ⟨rfl, by rw [e2]⟩
  obtain ⟨w, h1, e, rfl, rfl⟩ := wp_get key
  exact e
end
end Ik80
namespace Ik80
open PySem TL TL.WP
section
variable {k : Nat} {h : Hw}
def triW (x : Nat × Nat × Bool) : W := .tup [nW x.1, nW x.2.1, .bl x.2.2]
def restL (n : Nat) (rest : List Int) (hi : Hist) : List Int := (List.range n).map fun v => gi rest v - (cntOf hi v : Int)
theorem restL_nil {n : Nat} {rest : List Int} (hr : rest.length = n) : restL n rest [] = rest := by
  unfold restL
  apply List.ext_getElem?
  intro i
  rw [List.getElem?_map]
  by_cases hi : i < n
  · rw [List.getElem?_range hi, gi_at (by omega)]; simp [cntOf]
  · rw [List.getElem?_eq_none (by rw [List.length_range]; omega), List.getElem?_eq_none (by omega)]; rfl
theorem restL_at {n : Nat} {rest : List Int} {hi : Hist} {a : Nat} (ha : a < n) : gi (restL n rest hi) a = gi rest a - (cntOf hi a : Int) := by
  unfold restL
  unfold gi
  rw [List.getD_eq_getElem?_getD, List.getElem?_map, List.getElem?_range ha]; rfl
theorem restL_step {n : Nat} {rest : List Int} {hi : Hist} {r a : Nat} {b : Bool} (ha : a < n) : (restL n rest hi).set a (gi (restL n rest hi) a - 1) = restL n rest (hi ++ [(r, a, b)]) := by
  rw [restL_at ha]
  unfold restL
  rw [set_range]
  apply List.map_congr_left
  intro v _
  rw [cntOf_app]
  simp only
  by_cases e : v = a
  · subst e; simp; omega
  · have : ¬ a = v := fun z => e z.symm
    simp [e, this]
theorem lights_rest {n : Nat} {t : Option (List Int)} {rest : List Int} {hi : Hist} {r a : Nat} (ha : a < n) : lightsP t (restL n rest hi) r a 1 = lightsP t rest r a (cntOf hi a + 1) := by
  unfold lightsP
  cases t with
  | some t => rfl
  | none =>
    simp only
    rw [restL_at ha]
    congr 1
    simp only [eq_iff_iff]
    omega
theorem r_tries_by_numbers {G : Web} (ok : G.Ok) {home : Nat} (hh : home < G.n) {t : Option (List Int)} {rest : List Int} {q : Nat} (g : h.get q = some (.lst (rest.map W.int))) (hq : q < h.n) (hr : rest.length = G.n)
    {K : W → Hw → Prop} (c : ∀ r h', Own none h h' [(r, .lst ((runH (ruleN G home) (lightsP t rest) G.roads.length []).map triW))] → K (.ref r) h') :
    wp (callF tb wf (k + 2) n_tries_by_numbers [webW G, nW home, optW t, .ref q] h) K := by
  have n1 := ok.2.1
  have n2 := ok.2.2.1
  rw [call_open (fn := f_tries_by_numbers) rfl rfl rfl rfl (by simp only [W.noRefs, W.noRef, Bool.false_and, Bool.and_false]), wp_runF]
  simp only [f_tries_by_numbers, d_tries_by_numbers, go, dcts, nc_opt]
  refine wp_allocD (Own.start _) fun il h1 O => ?_
  refine wp_allocD O fun me h2 O => ?_
  refine wp_alloc O fun fo h3 O => ?_
  rw [list_ref (xs := rest.map W.int) (O.old hq (fun p e => (nomatch e)) g)]
  refine wp_alloc O fun re h4 O => ?_
  refine wp_alloc O fun du h5 O => ?_
  obtain ⟨H, hH⟩ : ∃ H, runH (ruleN G home) (lightsP t rest) G.roads.length [] = H := ⟨_, rfl⟩
  rw [hH] at c
  refine wp_whl (fun k s h1 => ∃ hi D il me fo re du a b c d e f, s = [some (webW G), some (nW home), some (optW t), some (.ref q), some (.ref il), some (.ref me), some (.ref fo), some (.ref re), some (.ref du), a, b, c, d, e, f] ∧
    Own none h h1 [(du, .lst (D.map nW)), (re, .lst ((restL G.n rest hi).map W.int)), (fo, .lst (hi.map triW)), (me, dctO (metOf hi)), (il, dctO (litOf home hi))] ∧
    HOk G home hi ∧ (D = [] → ruleN G home hi = none) ∧ (D ≠ [] → G.roads.length < hi.length + k) ∧ runH (ruleN G home) (lightsP t rest) (G.roads.length - hi.length) hi = H) (G.roads.length + 1) (by show _ < 100000; omega)
    ⟨[], [0], il, me, fo, re, du, none, none, none, none, none, none, rfl, by rw [restL_nil hr]; exact O, HOk.nil, (fun z => nomatch z), fun _ => by simp, hH⟩ (fun k s h1 i => ?_)
  obtain ⟨hi, D, il, me, fo, re, du, a, b, c1, d, e, f, rfl, O, hok, hD, hk, hrun⟩ := i
  simp only [go]
  refine wp_alloc O fun e1 h2 O => ?_
  rw [cmp_ne (eqW_nats (l := D) (m := []) (O.at 1 rfl) (O.at 0 rfl))]
  simp only [go]
  by_cases z : D = []
  · simp only [z, decide_true, Bool.not_true, go]
    rw [runH_none (hD z)] at hrun
    subst hrun
    exact c _ _ (O.sub (List.Sublist.cons _ (List.Sublist.cons _ (List.Sublist.cons _ (List.Sublist.cons_cons _ (List.nil_sublist _))))))
  · simp only [z, decide_false, Bool.not_false, go]
    have hk := hk z
    have hlen := hok.len
    obtain ⟨m, rfl⟩ : ∃ m, k = m + 1 := ⟨k - 1, by omega⟩
    refine ⟨m, rfl, ?_⟩
    rw [sz_map (by rw [List.length_zipIdx]; omega)]
    simp only [go]
    rw [loopC_filter nW Prod.snd (isDue G (litOf home hi) (metOf hi)) okG0 fun q m => by
      simp only [WP.turnE, go, cmp_notin (in_dct (O.at 4 rfl)), cmp_in (in_dct (O.at 5 rfl))]
      unfold isDue
      cases decide (q.2 ∈ metOf hi)
      · simp only [Bool.not_false, go, Bool.true_and]
        cases (!(decide (q.1.1 ∈ litOf home hi) == decide (q.1.2 ∈ litOf home hi))) <;> rfl
      · rfl]
    simp only [go]
    refine wp_alloc O fun du2 h3 O => ?_
    simp only [go]
    refine wp_alloc O fun e2 h4 O => ?_
    rw [cmp_ne (eqW_nats (l := dueN G home hi) (m := []) (O.at 1 rfl) (O.at 0 rfl))]
    simp only [go]
    have O : Own none h h4 ((e2, .lst []) :: (du2, .lst ((dueN G home hi).map nW)) :: (e1, .lst []) :: (du, .lst (D.map nW)) :: [(re, .lst ((restL G.n rest hi).map W.int)), (fo, .lst (hi.map triW)), (me, dctO (metOf hi)), (il, dctO (litOf home hi))]) := O
    cases hdue : dueN G home hi with
    | nil =>
      rw [hdue] at O
      simp only [decide_true, Bool.not_true, go]
      refine ⟨hi, [], il, me, fo, re, du2, _, _, _, _, _, _, rfl, ?_, hok, fun _ => by unfold ruleN; rw [hdue], fun z => absurd rfl z, hrun⟩
      exact O.sub (List.Sublist.cons _ (List.Sublist.cons_cons _ (List.Sublist.cons _ (List.Sublist.cons _ (List.Sublist.refl _)))))
    | cons r D2 =>
      rw [hdue] at O
      have hr1 := due_ok (G := G) (home := home) (hi := hi) (r := r) (by rw [hdue]; exact List.mem_cons_self)
      obtain ⟨a1, a2⟩ := atOf_ok ok hr1.1 hr1.2.2
      have hru : ruleN G home hi = some (r, atOf G (litOf home hi) r) := by unfold ruleN; rw [hdue]
      obtain ⟨a, ha⟩ : ∃ a, atOf G (litOf home hi) r = a := ⟨_, rfl⟩
      rw [ha] at a1 a2 hru
      have Od := O.sub (L' := [(du2, .lst ((r :: D2).map nW)), (re, .lst ((restL G.n rest hi).map W.int)), (fo, .lst (hi.map triW)), (me, dctO (metOf hi)), (il, dctO (litOf home hi))]) (List.Sublist.cons _ (List.Sublist.cons_cons _ (List.Sublist.cons _ (List.Sublist.cons _ (List.Sublist.refl _)))))
      obtain ⟨B, hB⟩ : ∃ B, lightsP t rest r a (cntOf hi a + 1) = B := ⟨_, rfl⟩
      have hrun2 : runH (ruleN G home) (lightsP t rest) (G.roads.length - (hi.length + 1)) (hi ++ [(r, a, B)]) = H := by
        rw [← hrun]
        have hl2 := (hok.step B hr1.1 hr1.2.1 a1 a2).len
        rw [List.length_append, List.length_singleton] at hl2
        rw [show G.roads.length - hi.length = (G.roads.length - (hi.length + 1)) + 1 by omega, runH_some hru]
        unfold stepH
        rw [hB]
      simp only [decide_false, Bool.not_false, go, reduceCtorEq, idx_ref (k := 0) (xs := (r :: D2).map nW) (w := nW r) (Od.at 0 rfl) rfl, idx_roads (ends_at hr1.1), cmp_in (in_dct (Od.at 4 rfl))]
      refine wp_of (a := nW a) (h := h4) (by rw [← ha]; unfold atOf; by_cases c : (endsOf G r).1 ∈ litOf home hi <;> simp [c]) ?_
      simp only [go, nc_opt, idx_ref (k := 0) (xs := (r :: D2).map nW) (w := nW r) (Od.at 0 rfl) rfl, recv_lst (m := .append) (Od.at 2 rfl)]
      have gre : h4.get re = some (.lst ((restL G.n rest hi).map W.int)) := Od.at 1 rfl
      have lre : a < (restL G.n rest hi).length := by unfold restL; rw [List.length_map, List.length_range]; exact a2
      rw [r_is_lighting gre lre]
      have O5 := Od.set 1 rfl (.lst (((restL G.n rest hi).set a (gi (restL G.n rest hi) a - 1)).map W.int))
      rw [restL_step (r := r) (b := B) a2, lights_rest a2, hB] at *
      generalize h4.set re _ = h5 at O5 ⊢
      simp only [go]
      rw [app_lst (O5.at 2 rfl) (by rw [List.length_map]; omega)]
      have O6 := O5.set 2 rfl (.lst (hi.map triW ++ [.tup [nW r, nW a, .bl B]]))
      generalize h5.set fo _ = h6 at O6 ⊢
      simp only [go, idx_ref (k := 0) (xs := (r :: D2).map nW) (w := nW r) (O6.at 0 rfl) rfl]
      rw [set_dct (O6.at 3 rfl) hr1.2.1 (by have := hok.len; unfold metOf; rw [List.length_map]; omega)]
      have O7 := O6.set 3 rfl (dctO (metOf hi ++ [r]))
      simp only [go]
      generalize h6.set me _ = h7 at O7 ⊢
      rw [idx_last1 (O7.at 2 rfl) (List.getLast?_concat)]
      simp only [go]
      have ht : hi.map triW ++ [.tup [nW r, nW a, .bl B]] = (hi ++ [(r, a, B)]).map triW := by rw [List.map_append]; rfl
      have hm : metOf hi ++ [r] = metOf (hi ++ [(r, a, B)]) := by rw [metOf_app]
      have hl := litOf_app home hi (r, a, B)
      have hok2 := hok.step B hr1.1 hr1.2.1 a1 a2
      have hlen2 : (hi ++ [(r, a, B)]).length = hi.length + 1 := by rw [List.length_append, List.length_singleton]
      rw [ht, hm] at O7
      cases B with
      | false =>
        simp only [go]
        refine ⟨hi ++ [(r, a, false)], r :: D2, il, me, fo, re, du2, _, _, _, _, _, _, rfl, ?_, hok2, fun z => (nomatch z), fun _ => by omega, by rw [hlen2]; exact hrun2⟩
        rw [hl]
        exact O7
      | true =>
        simp only [go]
        rw [set_dct (O7.at 4 rfl) a1 (by have := nodup_len hok.lit (hok.litLt hh); omega)]
        have O8 := O7.set 4 rfl (dctO (litOf home hi ++ [a]))
        simp only [go]
        refine ⟨hi ++ [(r, a, true)], r :: D2, il, me, fo, re, du2, _, _, _, _, _, _, rfl, ?_, hok2, fun z => (nomatch z), fun _ => by omega, by rw [hlen2]; exact hrun2⟩
        rw [hl]
        exact O8
end
end Ik80
namespace Ik80
open PySem TL TL.WP
section
variable {k : Nat} {h : Hw}
theorem noRefs_tri (l : Hist) : W.noRefs (l.map triW) = true := noRefs_map (fun _ => rfl) l
theorem r_tries {G : Web} (ok : G.Ok) {home : Nat} (hh : home < G.n) {t : Option (List Int)} {rest : List Int} {q : Nat} (g : h.get q = some (.lst (rest.map W.int))) (hq : q < h.n) (hr : rest.length = G.n)
    {K : W → Hw → Prop} (c : ∀ r h', Own none h h' [(r, .lst ((runH (ruleN G home) (lightsP t rest) G.roads.length []).map triW))] → K (.ref r) h') :
    wp (callF tb wf (k + 3) n_tries [webW G, nW home, optW t, .ref q, .str "numbers"] h) K := by
  rw [call_open (fn := f_tries) rfl rfl rfl rfl (by simp only [W.noRefs, W.noRef, Bool.false_and, Bool.and_false]), wp_runF]
  have e : ∀ h, cmpOp .eq (.str "numbers") (.str "numbers") h = some true := fun h => by kernel_rfl
  simp only [f_tries, d_tries, go, e, nc_opt]
  exact r_tries_by_numbers ok hh g hq hr c
/-- the tries of a pile -/
def triesP (G : Web) (home : Nat) (p : List Int) : Hist := runH (ruleN G home) (lightsP none (dueP G p)) G.roads.length []
def triesT (G : Web) (home : Nat) (t : List Int) : Hist := runH (ruleN G home) (lightsP (some t) []) G.roads.length []
theorem r_tries_of_pile {G : Web} (ok : G.Ok) {home : Nat} (hh : home < G.n) {p : List Int} (hp : p.length = G.n) (hc : comes G home p = true)
    {K : W → Hw → Prop} (c : ∀ r h', Own none h h' [(r, .lst ((triesP G home p).map triW))] → K (.ref r) h') :
    wp (callF tb wf (k + 5) n_tries_of_pile [webW G, nW home, intsW p, .str "numbers"] h) K := by
  have n1 := ok.2.1
  refine call_lst (fn := f_tries_of_pile) rfl rfl rfl rfl (nr_cons (nr_web G) (nr_cons rfl (nr_cons (nr_ints p) rfl))) (noRefs_tri _) ?_ c
  simp only [f_tries_of_pile, d_tries_of_pile, go, r_comes_again ok hh hp, hc, Bool.not_true, r_outs ok, it_zip]
  rw [sz_map (by rw [List.length_zip]; unfold waysL; rw [List.length_map, List.length_range]; omega)]
  simp only [go]
  rw [loopC_map W.int (fun q => (q.1 : Int) - q.2) okG0 fun q m => by simp only [WP.turnE, go, subI]]
  simp only [go]
  refine wp_alloc (Own.start _) fun r1 h1 O => ?_
  rw [dueP_zip hp] at O
  refine r_tries (t := none) ok hh (rest := dueP G p) (O.at 0 rfl) (O.own _ List.mem_cons_self).2.1 (by unfold dueP; rw [List.length_map, List.length_range]) fun r h' O2 => ?_
  exact ⟨r, _, rfl, O.run0 O2⟩
theorem x_tries_of_pile {G : Web} (ok : G.Ok) {home : Nat} (hh : home < G.n) {p : List Int} (hp : p.length = G.n) (hc : comes G home p = false) : callF tb wf (k + 5) n_tries_of_pile [webW G, nW home, intsW p, .str "numbers"] h = .exc 0 [] h := by
  rw [call_closed (fn := f_tries_of_pile) rfl rfl rfl rfl (nr_cons (nr_web G) (nr_cons rfl (nr_cons (nr_ints p) rfl)))]
  have e : runF (callF tb wf (k + 4)) wf f_tries_of_pile [webW G, nW home, intsW p, .str "numbers"] Hw.nil = .exc 0 [] Hw.nil := by
    unfold runF
    simp only [f_tries_of_pile, d_tries_of_pile, go, exL, exS, evT, r_comes_again ok hh hp, hc, Bool.not_false, R.bind]
  rw [e]; rfl
end
end Ik80
namespace Ik80
open PySem TL TL.WP
section
variable {k : Nat} {h : Hw}
/-- a road, with what it lights -/
def roadW (x : Nat × Nat × Bool) : W := .tup [nW x.1, bif x.2.2 then nW x.2.1 else .non]
theorem nr_road (x : Nat × Nat × Bool) : (roadW x).noRef = true := by
  obtain ⟨a, b, c⟩ := x
  cases c <;> rfl
theorem beq_tri (x : Nat × Nat × Bool) : (triW x).beq (triW x) = true := by simp [W.beq, W.beqs, triW]
theorem tri_asg (x : Nat × Nat × Bool) (ts : List Tg) (s : TL.Env) (h : Hw) : asg (.tp ts) (triW x) s h = asgs ts [nW x.1, nW x.2.1, .bl x.2.2] s h := rfl
/-- no pile has more tries than roads -/
theorem run_len {rule : Hist → Option (Nat × Nat)} {F : Nat → Nat → Nat → Bool} : ∀ (k : Nat) (hi : Hist), (runH rule F k hi).length ≤ hi.length + k
  | 0, hi => Nat.le_refl _
  | k + 1, hi => by
    cases e : rule hi with
    | none => rw [runH_none e]; omega
    | some x =>
      rw [runH_some e]
      have := run_len (rule := rule) (F := F) k (stepH F hi x)
      unfold stepH at this ⊢
      rw [List.length_append, List.length_singleton] at this
      omega
theorem r_tried_roads {G : Web} (ok : G.Ok) {home : Nat} (hh : home < G.n) {p : List Int} (hp : p.length = G.n) (hc : comes G home p = true)
    {K : W → Hw → Prop} (c : ∀ r h', Own none h h' [(r, .lst ((triesP G home p).map roadW))] → K (.ref r) h') :
    wp (callF tb wf (k + 6) n_tried_roads [webW G, nW home, intsW p, .str "numbers"] h) K := by
  have n2 := ok.2.2.1
  refine call_lst (fn := f_tried_roads) rfl rfl rfl rfl (nr_cons (nr_web G) (nr_cons rfl (nr_cons (nr_ints p) rfl))) (noRefs_map nr_road _) ?_ c
  simp only [f_tried_roads, d_tried_roads, go]
  refine r_tries_of_pile ok hh hp hc fun r h1 O => ?_
  simp only [go, it_ref (O.at 0 rfl)]
  rw [sz_map (by have := run_len (rule := ruleN G home) (F := lightsP none (dueP G p)) G.roads.length []; unfold triesP; simp at this; omega)]
  simp only [go]
  rw [loopC_map roadW (fun x => x) (okG1 (O.at 0 rfl) (beqs_id beq_tri _)) fun x m => by
    simp only [WP.turnE, tri_asg, go]
    obtain ⟨a, b, c⟩ := x
    cases c <;> rfl]
  simp only [go]
  refine wp_alloc O fun r2 h2 O => ?_
  rw [List.map_id'] at O
  exact ⟨r2, _, rfl, O⟩
theorem x_tried_roads {G : Web} (ok : G.Ok) {home : Nat} (hh : home < G.n) {p : List Int} (hp : p.length = G.n) (hc : comes G home p = false) : callF tb wf (k + 6) n_tried_roads [webW G, nW home, intsW p, .str "numbers"] h = .exc 0 [] h := by
  rw [call_closed (fn := f_tried_roads) rfl rfl rfl rfl (nr_cons (nr_web G) (nr_cons rfl (nr_cons (nr_ints p) rfl)))]
  have e : runF (callF tb wf (k + 5)) wf f_tried_roads [webW G, nW home, intsW p, .str "numbers"] Hw.nil = .exc 0 [] Hw.nil := by
    unfold runF
    simp only [f_tried_roads, d_tried_roads, go, exL, exS, x_tries_of_pile ok hh hp hc, R.bind]
  rw [e]; rfl
/-- the roads that lit -/
def litR (hi : Hist) : List Nat := (hi.filter fun x => x.2.2).map fun x => x.1
theorem r_tree_of_pile {G : Web} (ok : G.Ok) {home : Nat} (hh : home < G.n) {p : List Int} (hp : p.length = G.n) (hc : comes G home p = true) :
    callF tb wf (k + 6) n_tree_of_pile [webW G, nW home, intsW p, .str "numbers"] h = .ok (natsW (srt (litR (triesP G home p)))) h := by
  have n2 := ok.2.2.1
  refine call_val (fn := f_tree_of_pile) rfl rfl rfl rfl (nr_cons (nr_web G) (nr_cons rfl (nr_cons (nr_ints p) rfl))) (nr_nats _) ?_
  simp only [f_tree_of_pile, d_tree_of_pile, go]
  refine r_tries_of_pile ok hh hp hc fun r h1 O => ?_
  simp only [go, it_ref (O.at 0 rfl)]
  rw [sz_map (by have := run_len (rule := ruleN G home) (F := lightsP none (dueP G p)) G.roads.length []; unfold triesP; simp at this; omega)]
  simp only [go]
  rw [loopC_filter nW (fun x : Nat × Nat × Bool => x.1) (fun x => x.2.2) (okG1 (O.at 0 rfl) (beqs_id beq_tri _)) fun x m => by
    simp only [WP.turnE, tri_asg, go]
    obtain ⟨a, b, c⟩ := x
    cases c <;> rfl]
  simp only [go]
  refine wp_alloc O fun r2 h2 O => ?_
  rw [sorted_ref (l := litR (triesP G home p)) (O.at 0 rfl)]
  refine wp_alloc O fun r3 h3 O => ?_
  simp only [go, tuple_ref (O.at 0 rfl)]
  rfl
theorem x_tree_of_pile {G : Web} (ok : G.Ok) {home : Nat} (hh : home < G.n) {p : List Int} (hp : p.length = G.n) (hc : comes G home p = false) : callF tb wf (k + 6) n_tree_of_pile [webW G, nW home, intsW p, .str "numbers"] h = .exc 0 [] h := by
  rw [call_closed (fn := f_tree_of_pile) rfl rfl rfl rfl (nr_cons (nr_web G) (nr_cons rfl (nr_cons (nr_ints p) rfl)))]
  have e : runF (callF tb wf (k + 5)) wf f_tree_of_pile [webW G, nW home, intsW p, .str "numbers"] Hw.nil = .exc 0 [] Hw.nil := by
    unfold runF
    simp only [f_tree_of_pile, d_tree_of_pile, go, exL, exS, x_tries_of_pile ok hh hp hc, R.bind]
  rw [e]; rfl
def levelP (G : Web) (home : Nat) (p : List Int) : Int := p.sum + (ways G home : Int) - ((waysL G).sum : Int).fdiv 2
theorem r_level {G : Web} (ok : G.Ok) {home : Nat} (hh : home < G.n) {p : List Int} (hp : p.length = G.n) (hc : comes G home p = true) :
    callF tb wf (k + 5) n_level [webW G, nW home, intsW p] h = .ok (.int (levelP G home p)) h := by
  refine call_val (fn := f_level) rfl rfl rfl rfl (nr_cons (nr_web G) (nr_cons rfl (nr_cons (nr_ints p) rfl))) rfl ?_
  have e : ∀ h, binOp .fdiv (nW (waysL G).sum) (nW 2) h = .ok (.int (((waysL G).sum : Int).fdiv 2)) h := fun h => rfl
  simp only [f_level, d_level, go, r_comes_again ok hh hp, hc, Bool.not_true, sum_ints, r_outs ok, idx_nats (waysL_at hh), addI, sum_nats, e, subI]
  rfl
theorem x_level {G : Web} (ok : G.Ok) {home : Nat} (hh : home < G.n) {p : List Int} (hp : p.length = G.n) (hc : comes G home p = false) : callF tb wf (k + 5) n_level [webW G, nW home, intsW p] h = .exc 0 [] h := by
  rw [call_closed (fn := f_level) rfl rfl rfl rfl (nr_cons (nr_web G) (nr_cons rfl (nr_cons (nr_ints p) rfl)))]
  have e : runF (callF tb wf (k + 4)) wf f_level [webW G, nW home, intsW p] Hw.nil = .exc 0 [] Hw.nil := by
    unfold runF
    simp only [f_level, d_level, go, exL, exS, evT, r_comes_again ok hh hp, hc, Bool.not_false, R.bind]
  rw [e]; rfl
/-- the pile of a tree -/
def pileT (G : Web) (home : Nat) (hi : Hist) : List Int := (List.range G.n).map fun v => (if v = home then 0 else (ways G v : Int)) - (cntOf hi v : Int)
theorem pileT_step {G : Web} {home : Nat} {hi : Hist} {x : Nat × Nat × Bool} (ha : x.2.1 < G.n) : (pileT G home hi).set x.2.1 (gi (pileT G home hi) x.2.1 - ((1 : Nat) : Int)) = pileT G home (hi ++ [x]) := by
  have e : gi (pileT G home hi) x.2.1 = (if x.2.1 = home then 0 else (ways G x.2.1 : Int)) - (cntOf hi x.2.1 : Int) := by
    unfold pileT gi
    rw [List.getD_eq_getElem?_getD, List.getElem?_map, List.getElem?_range ha]; rfl
  rw [e]
  unfold pileT
  rw [set_range]
  apply List.map_congr_left
  intro v _
  rw [cntOf_app]
  by_cases c : v = x.2.1
  · subst c; simp; omega
  · have : ¬ x.2.1 = v := fun z => c z.symm
    simp [c, this]
theorem pileT_len {G : Web} {home : Nat} {hi : Hist} : (pileT G home hi).length = G.n := by unfold pileT; rw [List.length_map, List.length_range]
theorem r_pile_of_tree {G : Web} (ok : G.Ok) {home : Nat} (hh : home < G.n) {t : List Int} (ht : t.length ≤ 1000) (hc : treeB G t = true) (hat : ∀ x ∈ triesT G home t, x.2.1 < G.n) :
    callF tb wf (k + 5) n_pile_of_tree [webW G, nW home, intsW t, .str "numbers"] h = .ok (intsW (pileT G home (triesT G home t))) h := by
  have n1 := ok.2.1
  refine call_val (fn := f_pile_of_tree) rfl rfl rfl rfl (nr_cons (nr_web G) (nr_cons rfl (nr_cons (nr_ints t) rfl))) (nr_ints _) ?_
  simp only [f_pile_of_tree, d_pile_of_tree, go, r_is_tree ok ht, hc, Bool.not_true, r_outs ok]
  rw [sz_map (by rw [List.length_zipIdx]; unfold waysL; rw [List.length_map, List.length_range]; omega)]
  simp only [go]
  rw [loopC_map W.int (fun q : Nat × Nat => if q.2 = home then 0 else (q.1 : Int)) okG0 fun q m => by
    simp only [WP.turnE, go]
    by_cases c : q.2 = home <;> simp [c, go]]
  simp only [go]
  refine wp_alloc (Own.start _) fun r1 h1 O => ?_
  have e0 : (waysL G).zipIdx.map (fun q : Nat × Nat => if q.2 = home then 0 else (q.1 : Int)) = pileT G home [] := by
    unfold waysL pileT
    apply List.ext_getElem?
    intro i
    rw [List.getElem?_map, List.getElem?_map, List.getElem?_zipIdx, List.getElem?_map]
    by_cases hi : i < G.n
    · rw [List.getElem?_range hi]; simp [cntOf]
    · rw [List.getElem?_eq_none (by rw [List.length_range]; omega)]; rfl
  rw [e0] at O
  refine wp_alloc O fun r2 h2 O => ?_
  simp only [go, rep_ref (O.at 0 rfl) n1 (by decide : [nW 0].length ≤ 1000), rep_one]
  refine wp_alloc O fun r3 h3 O => ?_
  have z0 : List.replicate G.n (nW 0) = (List.replicate G.n (0 : Int)).map W.int := by rw [List.map_replicate]; rfl
  rw [z0] at O
  refine r_tries (t := some t) ok hh (rest := List.replicate G.n 0) (O.at 0 rfl) (O.own _ List.mem_cons_self).2.1 List.length_replicate fun r h' O2 => ?_
  have O := (O.run0 O2).sub (L' := [(r, .lst ((triesT G home t).map triW)), (r1, .lst ((pileT G home []).map W.int))]) (List.Sublist.cons_cons _ (List.Sublist.cons _ (List.Sublist.cons _ (List.Sublist.refl _))))
  simp only [go, it_ref (O.at 0 rfl)]
  refine wp_loopS (fun d s h => ∃ a b c, s = [some (webW G), some (nW home), some (intsW t), some (.str "numbers"), some (.ref r1), none, none, a, b, c] ∧ Own none Hw.nil h [(r, .lst ((triesT G home t).map triW)), (r1, .lst ((pileT G home d).map W.int))]) (triesT G home t) ⟨none, none, none, rfl, O⟩ (fun d s h i => ?_) (fun d x l e s h i => ?_) (fun s h i => ?_)
  · obtain ⟨a, b, c, rfl, O⟩ := i
    exact okG1 (O.at 0 rfl) (beqs_id beq_tri _)
  · obtain ⟨a, b, c, rfl, O⟩ := i
    have hx := hat x (by rw [e]; simp)
    simp only [turnSt, tri_asg, go, idx_ref (k := x.2.1) (O.at 1 rfl) (by rw [List.getElem?_map, gi_at (by rw [pileT_len]; exact hx)]; rfl), subI]
    rw [set_lst (k := x.2.1) (O.at 1 rfl) (by rw [List.length_map, pileT_len]; exact hx)]
    have O2 := O.set 1 rfl (.lst (((pileT G home d).map W.int).set x.2.1 (.int (gi (pileT G home d) x.2.1 - ((1 : Nat) : Int)))))
    simp only [go]
    refine ⟨_, _, _, rfl, ?_⟩
    rw [← List.map_set, pileT_step hx] at O2 ⊢
    exact O2
  · obtain ⟨a, b, c, rfl, O⟩ := i
    simp only [go, tuple_ref (O.at 1 rfl)]
    rfl
theorem x_pile_of_tree {G : Web} (ok : G.Ok) {home : Nat} {t : List Int} (ht : t.length ≤ 1000) (hc : treeB G t = false) : callF tb wf (k + 5) n_pile_of_tree [webW G, nW home, intsW t, .str "numbers"] h = .exc 0 [] h := by
  rw [call_closed (fn := f_pile_of_tree) rfl rfl rfl rfl (nr_cons (nr_web G) (nr_cons rfl (nr_cons (nr_ints t) rfl)))]
  have e : runF (callF tb wf (k + 4)) wf f_pile_of_tree [webW G, nW home, intsW t, .str "numbers"] Hw.nil = .exc 0 [] Hw.nil := by
    unfold runF
    simp only [f_pile_of_tree, d_pile_of_tree, go, exL, exS, evT, r_is_tree ok ht, hc, Bool.not_false, R.bind]
  rw [e]; rfl
end
end Ik80
namespace Ik80
open PySem TL TL.WP
section
variable {k : Nat} {h : Hw}
theorem fmod_lt {i : Int} {n : Nat} (h1 : 1 ≤ n) : ∃ x : Nat, i.fmod n = (x : Int) ∧ x < n := by
  have a := Int.fmod_nonneg_of_pos i (show (0 : Int) < n by omega)
  have b := Int.fmod_lt_of_pos i (show (0 : Int) < n by omega)
  exact ⟨(i.fmod n).toNat, by omega, by omega⟩
theorem pick_run {r c : Nat} {cs : List Int} {l m t : Int} (sh : SH h r c cs l m t) (hcs : cs.length ≤ 63) {many : Nat} (hm1 : 1 ≤ many) (hm2 : many < 1073741824) :
    wp (callF tb wf (k + 1) n__law_pick [.ref r, nW many] h) fun w h' => ∃ x cs' l' m' t', w = nW x ∧ x < many ∧ SH h' r c cs' l' m' t' ∧ cs'.length ≤ 63 ∧ Fr r c h h' := by
  rw [call_open (fn := f__law_pick) rfl rfl rfl rfl (by simp only [W.noRefs, W.noRef, Bool.false_and]), wp_runF]
  simp only [f__law_pick, d__law_pick, go]
  refine wp_whl (fun n s h' => s = [some (.ref r), some (nW many), none, none] ∧ ∃ cs l, n = cs.length ∧ cs.length ≤ 63 ∧ SH h' r c cs l m t ∧ Fr r c h h') cs.length (by show _ < 100000; omega) ⟨rfl, cs, l, rfl, hcs, sh, Fr.rfl⟩ (fun n s h1 i => ?_)
  obtain ⟨rfl, cs, l, rfl, hcs, sh, fr⟩ := i
  have e1 : ∀ i : Nat, cmpOp .lt (.int l) (nW i) h1 = some (decide (l < i)) := fun _ => rfl
  simp only [go, sh.idx kf_left, sh.idx kf_cells, len_ref sh.s, e1]
  have tail : ∀ h1 cs l, cs.length ≤ 63 → SH h1 r c cs l m t → Fr r c h h1 → seqK (callF tb wf k) wf
      [.set 2 (.idx (.var 0) (.str "left")),
        .ite (.or [(.cmp .lt (.var 1) (.int 2)), (.cmp .gt (.var 2) (.int 1))]) [(.setI (.var 0) (.str "left") (.bin .fdiv (.var 2) (.bi .max2 [(.int 1), (.var 1)]))), (.ret (.bin .mod (.bi .int [(.var 2)]) (.bi .max2 [(.int 1), (.var 1)])))] [],
        (.setI (.var 0) (.str "turn") (.bin .add (.idx (.var 0) (.str "turn")) (.int 1))),
        (.set 3 (.bin .mod (.bi .int [(.bin .add (.idx (.var 0) (.str "mixed")) (.bin .mul (.idx (.var 0) (.str "turn")) (.int 104729)))]) (.int 998244353))),
        (.set 3 (.bin .mod (.bi .int [(.bin .add (.bin .mul (.var 3) (.var 3)) (.bin .mul (.idx (.var 0) (.str "turn")) (.int 17)))]) (.int 2147483647))),
        (.setI (.var 0) (.str "mixed") (.var 3)),
        (.ret (.bin .mod (.bi .int [(.bin .fdiv (.var 3) (.int 16))]) (.var 1)))]
      (outK fun w h' => ∃ x cs' l' m' t', w = nW x ∧ x < many ∧ SH h' r c cs' l' m' t' ∧ cs'.length ≤ 63 ∧ Fr r c h h') ([some (.ref r), some (nW many), none, none], .nx) h1 := by
    clear fr sh hcs l cs e1 h1
    intro h1 cs l hcs sh fr
    have e1 : ∀ i : Nat, cmpOp .gt (.int l) (nW i) h1 = some (decide ((i : Int) < l)) := fun _ => rfl
    have mx : max 1 many = many := by omega
    have mx : max 1 many = many := by omega
    simp only [go, evs2, sh.idx kf_left, e1, mx]
    have yes : wp (exL (callF tb wf k) wf [(.setI (.var 0) (.str "left") (.bin .fdiv (.var 2) (.bi .max2 [(.int 1), (.var 1)]))), (.ret (.bin .mod (.bi .int [(.var 2)]) (.bi .max2 [(.int 1), (.var 1)])))]
        [some (.ref r), some (nW many), some (.int l), none] h1) (outK fun w h' => ∃ x cs' l' m' t', w = nW x ∧ x < many ∧ SH h' r c cs' l' m' t' ∧ cs'.length ≤ 63 ∧ Fr r c h h') := by
      obtain ⟨s1, s2⟩ := sh.put (kp_left (x := l.fdiv many))
      simp only [go, evs2, mx, fdivI hm1 hm2, s1, fmodI hm1]
      obtain ⟨x, e, hx⟩ := fmod_lt (i := l) hm1
      rw [e]
      exact ⟨x, cs, _, _, _, rfl, hx, s2, hcs, fr.set _ (.inl rfl)⟩
    have no : wp (exL (callF tb wf k) wf [(.setI (.var 0) (.str "turn") (.bin .add (.idx (.var 0) (.str "turn")) (.int 1))),
        (.set 3 (.bin .mod (.bi .int [(.bin .add (.idx (.var 0) (.str "mixed")) (.bin .mul (.idx (.var 0) (.str "turn")) (.int 104729)))]) (.int 998244353))),
        (.set 3 (.bin .mod (.bi .int [(.bin .add (.bin .mul (.var 3) (.var 3)) (.bin .mul (.idx (.var 0) (.str "turn")) (.int 17)))]) (.int 2147483647))),
        (.setI (.var 0) (.str "mixed") (.var 3)),
        (.ret (.bin .mod (.bi .int [(.bin .fdiv (.var 3) (.int 16))]) (.var 1)))] [some (.ref r), some (nW many), some (.int l), none] h1) (outK fun w h' => ∃ x cs' l' m' t', w = nW x ∧ x < many ∧ SH h' r c cs' l' m' t' ∧ cs'.length ≤ 63 ∧ Fr r c h h') := by
      obtain ⟨s1, s2⟩ := sh.put (kp_turn (x := t + ((1 : Nat) : Int)))
      simp only [go, evs2, sh.idx kf_turn, addI, s1, s2.idx kf_mixed, s2.idx kf_turn]
      rw [mulC (show small 104729 = true by decide)]
      simp only [go, addI]
      obtain ⟨M, eM, hM⟩ := fmod_lt (i := m + (t + ((1 : Nat) : Int)) * 104729) (n := 998244353) (by decide)
      rw [fmodI (by decide), eM]
      simp only [go, s2.idx kf_turn]
      rw [mulN (.inr (by omega))]
      simp only [go, s2.idx kf_turn]
      rw [mulC (show small 17 = true by decide)]
      simp only [go, addI]
      obtain ⟨M2, eM2, hM2⟩ := fmod_lt (i := ((M * M : Nat) : Int) + (t + ((1 : Nat) : Int)) * 17) (n := 2147483647) (by decide)
      rw [fmodI (by decide), eM2]
      obtain ⟨s3, s4⟩ := s2.put (kp_mixed (x := (M2 : Int)))
      simp only [go, s3, evs2]
      rw [fdivN (by decide) (by decide)]
      simp only [go]
      rw [fmodN hm1]
      exact ⟨_, cs, _, _, _, rfl, Nat.mod_lt _ (by omega), s4, hcs, (fr.set _ (.inl rfl)).set _ (.inl rfl)⟩
    by_cases c1 : many < 2
    · simp only [c1, decide_true, go]
      have z := yes
      simp only [go, evs2, mx] at z
      exact z
    · by_cases c2 : ((1 : Nat) : Int) < l
      · simp only [c1, c2, decide_true, decide_false, go]
        have z := yes
        simp only [go, evs2, mx] at z
        exact z
      · simp only [c1, c2, decide_false, go]
        have z := no
        simp only [go, evs2] at z
        simp only [sh.idx kf_turn, addI, go] at z ⊢
        exact z
  by_cases c1 : 1 < many
  · by_cases c2 : l < ((2 : Nat) : Int)
    · by_cases c3 : 0 < cs.length
      · simp only [c1, c2, c3, decide_true, go, List.length_map]
        obtain ⟨ys, y, rfl⟩ : ∃ ys y, cs = ys ++ [y] := ⟨cs.dropLast, cs.getLast (by intro z; rw [z] at c3; cases c3), (List.dropLast_concat_getLast _).symm⟩
        refine ⟨ys.length, by rw [List.length_append, List.length_singleton], ?_⟩
        have g : h1.get c = some (.lst (ys.map W.int ++ [.int y])) := by rw [sh.s, List.map_append]; rfl
        have sh1 : SH (h1.set c (.lst (ys.map W.int))) r c ys l m t := ⟨sh.ne, by rw [Hw.set_ne _ _ (Ne.symm sh.ne)]; exact sh.d, Hw.set_same _ _ _⟩
        obtain ⟨s1, s2⟩ := sh1.put (kp_left (x := y))
        simp only [go, sh.idx kf_cells]
        rw [recv_lst g]
        simp only [go, pop_last g, s1]
        exact ⟨trivial, ys, y, rfl, by rw [List.length_append] at hcs; omega, s2, (fr.set _ (.inr rfl)).set _ (.inl rfl)⟩
      · simp only [c1, c2, c3, decide_true, decide_false, go, List.length_map]
        (have z := tail h1 cs l hcs sh fr; simp only [go] at z; exact z)
    · simp only [c1, c2, decide_true, decide_false, go]
      (have z := tail h1 cs l hcs sh fr; simp only [go] at z; exact z)
  · simp only [c1, decide_false, go]
    (have z := tail h1 cs l hcs sh fr; simp only [go] at z; exact z)
/-- a number is drawn -/
theorem r_pick {p : Nat × Nat} {h0 : Hw} {L : List (Nat × HW)} (O : Own (some p) h0 h L) {many : Nat} (h1 : 1 ≤ many) (h2 : many < 1073741824) {K : W → Hw → Prop} (c : ∀ x h', x < many → Own (some p) h0 h' L → K (nW x) h') :
    wp (callF tb wf (k + 1) n__law_pick [.ref p.1, nW many] h) K := by
  obtain ⟨_, _, cs, l, m, t, sh, z⟩ := O.src p rfl
  refine wp_mono (pick_run sh z h1 h2) fun w h' ⟨x, cs', l', m', t', e, hx, sh', z', fr⟩ => ?_
  subst e
  exact c x h' hx (O.src' fr ⟨cs', l', m', t', sh', z'⟩)
/-- one of a list -/
theorem r_of {p : Nat × Nat} {h0 : Hw} {L : List (Nat × HW)} (O : Own (some p) h0 h L) {q : Nat} {xs : List W} (hL : (q, HW.lst xs) ∈ L) (h1 : 1 ≤ xs.length) (h2 : xs.length < 1073741824) {K : W → Hw → Prop} (c : ∀ (x : Nat) (w : W) (h' : Hw), xs[x]? = some w → Own (some p) h0 h' L → K w h') :
    wp (callF tb wf (k + 2) n__law_of [.ref p.1, .ref q] h) K := by
  rw [call_open (fn := f__law_of) rfl rfl rfl rfl (by simp only [W.noRefs, W.noRef, Bool.false_and]), wp_runF]
  have g : h.get q = some (.lst xs) := (O.own _ hL).2.2
  simp only [f__law_of, d__law_of, go, len_ref g]
  refine r_pick O h1 h2 fun x h' hx O => ?_
  have g : h'.get q = some (.lst xs) := (O.own _ hL).2.2
  obtain ⟨w, e⟩ : ∃ w, xs[x]? = some w := ⟨_, List.getElem?_eq_getElem hx⟩
  simp only [go, idx_ref (k := x) g e]
  exact c x w h' e O
/-- things in a drawn order -/
theorem r_mixed {p : Nat × Nat} {h0 : Hw} {L : List (Nat × HW)} (O : Own (some p) h0 h L) {q : Nat} {l : List Nat} (hL : (q, HW.lst (l.map nW)) ∈ L) (h2 : l.length ≤ 1000) {K : W → Hw → Prop} (c : ∀ (r : Nat) (h' : Hw) (l' : List Nat), l'.Perm l → Own (some p) h0 h' ((r, .lst (l'.map nW)) :: L) → K (.ref r) h') :
    wp (callF tb wf (k + 2) n__law_mixed [.ref p.1, .ref q] h) K := by
  rw [call_open (fn := f__law_mixed) rfl rfl rfl rfl (by simp only [W.noRefs, W.noRef, Bool.false_and]), wp_runF]
  have g : h.get q = some (.lst (l.map nW)) := (O.own _ hL).2.2
  simp only [f__law_mixed, d__law_mixed, go, list_ref g]
  refine wp_alloc O fun re h1 O => ?_
  simp only [go, len_ref (O.at 0 rfl), List.length_map, it_rng1 (k := l.length) (h := h1) (by omega)]
  rw [szOk_of (by rw [List.length_range]; omega)]
  simp only [go]
  refine wp_loopC (fun d ys h => ∃ ws rest : List Nat, ys = ws.map nW ∧ (ws ++ rest).Perm l ∧ rest.length + d.length = l.length ∧ Own (some p) h0 h ((re, .lst (rest.map nW)) :: L)) ⟨[], l, rfl, List.Perm.refl _, rfl, O⟩ (fun _ _ _ _ => rfl) (fun d a t e ys h i => ?_) (fun ys h i => ?_)
  · obtain ⟨ws, rest, rfl, hp, hl, O⟩ := i
    have hd : d.length < l.length := by
      have := congrArg List.length e
      rw [List.length_range, List.length_append, List.length_cons] at this
      omega
    simp only [WP.turnE, go, recv_lst (m := .pop) (O.at 0 rfl), len_ref (O.at 0 rfl), List.length_map]
    refine r_pick O (by omega) (by omega) fun x h' hx O => ?_
    have ex : (rest.map nW)[x]? = some (nW (gn rest x)) := by rw [List.getElem?_map, gn_at hx]; rfl
    rw [pop_at (O.at 0 rfl) ex (by omega)]
    refine ⟨ws ++ [gn rest x], rest.eraseIdx x, by simp, ?_, ?_, ?_⟩
    · rw [List.append_assoc]
      exact (List.Perm.append_left ws (erase_perm (gn_at hx))).trans hp
    · rw [List.length_eraseIdx_of_lt hx, List.length_append, List.length_singleton]; omega
    · have := O.set 0 rfl (.lst ((rest.map nW).eraseIdx x))
      rw [erase_map] at this ⊢
      exact this
  · obtain ⟨ws, rest, rfl, hp, hl, O⟩ := i
    rw [List.length_range] at hl
    have : rest = [] := List.eq_nil_of_length_eq_zero (by omega)
    subst this
    rw [List.append_nil] at hp
    refine wp_alloc O fun r h1 O => ?_
    exact c r h1 ws hp (O.sub (List.Sublist.cons_cons _ (List.Sublist.cons _ (List.Sublist.refl _))))
theorem r_other (e : Nat) : callF tb wf (k + 1) n__law_other [nW e] h = .ok (nW (e + 1 - 2 * (e % 2))) h := by
  refine call_val (fn := f__law_other) rfl rfl rfl rfl rfl rfl ?_
  simp only [f__law_other, d__law_other, go]
  rw [fmodN (by decide)]
  simp only [go]
  rw [mulN (.inl (by decide))]
  simp only [go]
  rw [subN (by omega)]
  rfl
end
end Ik80
namespace Ik80
open PySem TL TL.WP
section
variable {k : Nat} {h : Hw}
theorem r_spots {G : Web} (o : G.Ok) {K : W → Hw → Prop} (c : ∀ r h', Own none h h' [(r, .lst ((spotsL G.roads).map nW))] → K (.ref r) h') : wp (callF tb wf (k + 1) n__law_spots [webW G] h) K := by
  have n2 := o.2.2.1
  refine call_lst (fn := f__law_spots) rfl rfl rfl rfl (nr_cons (nr_web G) rfl) (noRefs_map (fun _ => rfl) _) ?_ c
  simp only [f__law_spots, d__law_spots, go]
  refine wp_alloc (Own.start _) fun r h1 O => ?_
  refine wp_loopS (fun d s h => ∃ r a, s = [some (webW G), some (.ref r), a] ∧ Own none Hw.nil h [(r, .lst ((spotsL d).map nW))]) G.roads ⟨r, none, rfl, O⟩ (fun _ _ _ _ => rfl) (fun d p t e s h i => ?_) (fun s h i => ?_)
  · obtain ⟨r, a, rfl, O⟩ := i
    have hd : d.length ≤ 1000 := by rw [e, List.length_append] at n2; omega
    simp only [turnSt, go]
    refine wp_alloc O fun q h1 O => ?_
    rw [cat_ref (O.at 1 rfl) (O.at 0 rfl) (by unfold spotsL; simp; omega)]
    refine wp_alloc O fun q h1 O => ?_
    refine ⟨q, _, rfl, ?_⟩
    have : (spotsL (d ++ [p])).map nW = (spotsL d).map nW ++ [nW p.1, nW p.2] := by rw [spotsL_app, List.map_append]; rfl
    rw [this]
    exact O.sub (List.Sublist.cons_cons _ (List.nil_sublist _))
  · obtain ⟨r, a, rfl, O⟩ := i
    simp only [go]
    exact ⟨r, [], rfl, O⟩
theorem r_nexts {G : Web} (o : WOk G) (n1 : G.n ≤ 1000) (n2 : G.roads.length ≤ 100) {K : W → Hw → Prop} (c : ∀ (r : Nat) (h' : Hw) (N : List Nat), N.length = 2 * G.roads.length → (∀ x ∈ N, x < 2 * G.roads.length) → Own none h h' [(r, .lst (N.map nW))] → K (.ref r) h') : wp (callF tb wf (k + 1) n__law_nexts [webW G] h) K := by
  rw [call_closed (fn := f__law_nexts) rfl rfl rfl rfl (nr_cons (nr_web G) rfl)]
  have key : wp (runF (callF tb wf k) wf f__law_nexts [webW G] Hw.nil) fun w g => ∃ (r : Nat) (N : List Nat), w = .ref r ∧ N.length = 2 * G.roads.length ∧ (∀ x ∈ N, x < 2 * G.roads.length) ∧ Own none Hw.nil g [(r, .lst (N.map nW))] := by
    rw [wp_runF]
    simp only [f__law_nexts, d__law_nexts, go]
    refine wp_alloc (Own.start _) fun r0 h1 O => ?_
    rw [mulN (.inl (by decide))]
    simp only [go]
    rw [rep_ref (O.at 0 rfl) (by omega) (by decide : [nW 0].length ≤ 1000), rep_one]
    refine wp_alloc O fun r h1 O => ?_
    have z0 : List.replicate (2 * G.roads.length) (nW 0) = (List.replicate (2 * G.roads.length) 0).map nW := by rw [List.map_replicate]
    rw [z0] at O
    have O := O.sub (L' := [(r, _)]) (List.Sublist.cons_cons _ (List.nil_sublist _))
    refine wp_loopS (fun d s h => ∃ (a b c : Option W) (N : List Nat), s = [some (webW G), some (.ref r), a, b, c] ∧ N.length = 2 * G.roads.length ∧ (∀ x ∈ N, x < 2 * G.roads.length) ∧ Own none Hw.nil h [(r, .lst (N.map nW))]) G.turns ⟨none, none, none, _, rfl, List.length_replicate, fun x m => by have := List.mem_replicate.mp m; omega, O⟩ (fun _ _ _ _ => rfl) (fun d t l e s h i => ?_) (fun s h i => ?_)
    · obtain ⟨a, b, c, N, rfl, hN, hx, O⟩ := i
      have ht := o.turnLt (t := t) (by rw [e]; simp)
      simp only [turnSt, go]
      refine wp_loopS (fun d s h => ∃ (b c : Option W) (N : List Nat), s = [some (webW G), some (.ref r), some (natsW t), b, c] ∧ N.length = 2 * G.roads.length ∧ (∀ x ∈ N, x < 2 * G.roads.length) ∧ Own none Hw.nil h [(r, .lst (N.map nW))]) t.zipIdx ⟨_, _, N, rfl, hN, hx, O⟩ (fun _ _ _ _ => rfl) (fun d q l e s h i => ?_) (fun s h i => ?_)
      · obtain ⟨b, c, N, rfl, hN, hx, O⟩ := i
        have et := zip_at (l := t) (q := q) (by rw [e]; simp)
        have hq := ht q.1 (List.mem_of_getElem? et)
        have hk : q.2 < t.length := (List.getElem?_eq_some_iff.mp et).1
        simp only [turnSt, go, subI]
        obtain ⟨y, hy, ey⟩ : ∃ y, y ∈ t ∧ idxOp (natsW t) (.int ((q.2 : Int) - ((1 : Nat) : Int))) h = .ok (nW y) h := by
          by_cases z : q.2 = 0
          · have hl : 0 < t.length := by omega
            refine ⟨t.getLast (List.ne_nil_of_length_pos hl), List.getLast_mem _, ?_⟩
            rw [z]
            show (match L2.atI (t.map nW) (-1) with | some w => R.ok w h | none => .err) = _
            rw [atI_last, List.getLast?_map, List.getLast?_eq_some_getLast (List.ne_nil_of_length_pos hl)]; rfl
          · refine ⟨gn t (q.2 - 1), List.mem_of_getElem? (gn_at (by omega)), ?_⟩
            rw [show (q.2 : Int) - ((1 : Nat) : Int) = ((q.2 - 1 : Nat) : Int) by omega]
            exact idx_nats (gn_at (by omega))
        rw [ey]
        have hy := ht y hy
        simp only [go]
        rw [set_lst (k := y) (O.at 0 rfl) (by rw [List.length_map]; omega)]
        have O2 := O.set 0 rfl (.lst ((N.map nW).set y (nW q.1)))
        simp only [go]
        refine ⟨_, _, N.set y q.1, rfl, by rw [List.length_set]; exact hN, fun x m => ?_, ?_⟩
        · rcases List.mem_or_eq_of_mem_set m with m | m
          · exact hx x m
          · omega
        · rw [← List.map_set] at O2 ⊢
          exact O2
      · obtain ⟨b, c, N, rfl, hN, hx, O⟩ := i
        simp only [go]
        exact ⟨_, _, _, N, rfl, hN, hx, O⟩
    · obtain ⟨a, b, c, N, rfl, hN, hx, O⟩ := i
      simp only [go]
      exact ⟨r, N, rfl, hN, hx, O⟩
  obtain ⟨w, g, eq, r, N, rfl, hN, hx, O⟩ := wp_get key
  rw [eq]
  show K (.ref (r + h.n)) (h.app g g.n)
  have O2 := O.graft h
  simp only [List.map_cons, List.map_nil, HW.up, ups_id _ _ (noRefs_map (fun _ => rfl) N : W.noRefs (N.map nW) = true)] at O2
  rw [Nat.add_comm] at O2
  exact c _ _ N hN hx O2
end
end Ik80
namespace Ik80
open PySem TL TL.WP
section
variable {k : Nat} {h : Hw}
theorem r_face {G : Web} (o : WOk G) (n1 : G.n ≤ 1000) (n2 : G.roads.length ≤ 100) {e0 : Nat} (he : e0 < 2 * G.roads.length) {K : W → Hw → Prop} (c : ∀ (r : Nat) (h' : Hw) (N : List Nat), N ≠ [] → N.length ≤ 200 → (∀ x ∈ N, x < 2 * G.roads.length) → Own none h h' [(r, .lst (N.map nW))] → K (.ref r) h') : wp (callF tb wf (k + 2) n__law_face [webW G, nW e0] h) K := by
  rw [call_closed (fn := f__law_face) rfl rfl rfl rfl (nr_cons (nr_web G) rfl)]
  have key : wp (runF (callF tb wf (k + 1)) wf f__law_face [webW G, nW e0] Hw.nil) fun w g => ∃ (r : Nat) (N : List Nat), w = .ref r ∧ N ≠ [] ∧ N.length ≤ 200 ∧ (∀ x ∈ N, x < 2 * G.roads.length) ∧ Own none Hw.nil g [(r, .lst (N.map nW))] := by
    rw [wp_runF]
    simp only [f__law_face, d__law_face, go]
    refine r_nexts o n1 n2 fun q h1 X hX hx O => ?_
    refine wp_alloc O fun r h2 O => ?_
    refine wp_whl (fun k s h => ∃ (e : Nat) (N : List Nat), s = [some (webW G), some (nW e), some (.ref q), some (.ref r)] ∧ e < 2 * G.roads.length ∧ N.Nodup ∧ (∀ x ∈ N, x < 2 * G.roads.length) ∧ N.length + k = 2 * G.roads.length ∧ (N = [] → e ∉ N) ∧ Own none Hw.nil h [(r, .lst (N.map nW)), (q, .lst (X.map nW))]) (2 * G.roads.length) (by show _ < 100000; omega) ⟨e0, [], rfl, he, List.nodup_nil, fun x m => (nomatch m), by simp, fun _ m => (nomatch m), O⟩ (fun k s h i => ?_)
    obtain ⟨e, N, rfl, he, nd, hN, hk, h0, O⟩ := i
    simp only [go, cmp_notin (in_list (O.at 0 rfl))]
    by_cases z : e ∈ N
    · simp only [z, decide_true, Bool.not_true, go]
      refine ⟨r, N, rfl, fun y => h0 y z, by omega, hN, O.sub (List.Sublist.cons_cons _ (List.nil_sublist _))⟩
    · simp only [z, decide_false, Bool.not_false, go]
      have nd2 : (N ++ [e]).Nodup := List.nodup_append.mpr ⟨nd, by simp, fun a ha b hb y => by simp at hb; exact z (hb ▸ y ▸ ha)⟩
      have hN2 : ∀ x ∈ N ++ [e], x < 2 * G.roads.length := fun x m => by
        rcases List.mem_append.mp m with m | m
        · exact hN x m
        · simp at m; omega
      have l2 := nodup_len nd2 hN2
      rw [List.length_append, List.length_singleton] at l2
      obtain ⟨m, rfl⟩ : ∃ m, k = m + 1 := ⟨k - 1, by omega⟩
      refine ⟨m, rfl, ?_⟩
      simp only [recv_lst (m := .append) (O.at 0 rfl), go]
      rw [app_lst (O.at 0 rfl) (by rw [List.length_map]; omega)]
      have O2 := O.set 0 rfl (.lst (N.map nW ++ [nW e]))
      have eo : e + 1 - 2 * (e % 2) < 2 * G.roads.length := by omega
      generalize h.set r _ = h3 at O2 ⊢
      simp only [go, r_other, idx_ref (k := e + 1 - 2 * (e % 2)) (O2.at 1 rfl) (by rw [List.getElem?_map, gn_at (by omega : e + 1 - 2 * (e % 2) < X.length)]; rfl)]
      refine ⟨_, N ++ [e], rfl, hx _ (List.mem_of_getElem? (gn_at (by omega))), nd2, hN2, by rw [List.length_append, List.length_singleton]; omega, fun y => by simp at y, ?_⟩
      rw [List.map_append]
      exact O2
  obtain ⟨w, g, eq, r, N, rfl, hN, hl, hx, O⟩ := wp_get key
  rw [eq]
  show K (.ref (r + h.n)) (h.app g g.n)
  have O2 := O.graft h
  simp only [List.map_cons, List.map_nil, HW.up, ups_id _ _ (noRefs_map (fun _ => rfl) N : W.noRefs (N.map nW) = true)] at O2
  rw [Nat.add_comm] at O2
  exact c _ _ N hN hl hx O2
end
end Ik80
namespace Ik80
open PySem TL TL.WP
section
variable {k : Nat} {h : Hw}
theorem WOk_none {G : Web} (o : WOk G) (e : G.roads.length = 0) : G.n = 1 ∧ WOk ⟨G.n, [(0, 0)], [[0, 1]]⟩ := by
  have e0 : G.roads = [] := List.eq_nil_of_length_eq_zero e
  have p := o.pos
  have n1 : G.n = 1 := by
    by_cases c : G.n = 1
    · exact c
    · have := (o.conn (fun v => v = 0) (fun p m => by rw [e0] at m; cases m) 0 1 (by omega) (by omega)).mp rfl
      omega
  refine ⟨n1, ?_⟩
  have l1 := o.tl
  rw [n1] at l1
  obtain ⟨t, ht⟩ : ∃ t, G.turns = [t] := by
    cases hh : G.turns with
    | nil => rw [hh] at l1; cases l1
    | cons t r => cases r with
      | nil => exact ⟨t, rfl⟩
      | cons _ _ => rw [hh] at l1; simp at l1
  have t0 : t = [] := by
    have := o.turn 0 t (by rw [ht]; rfl)
    rw [e0] at this
    exact this.eq_nil
  subst t0
  have := o.grow (a := 0) (b := 0) (i := 0) (j := 1) (by omega) (by omega) (t := []) (u := [0]) (by rw [ht]; rfl) (by rw [ht, e]; rfl)
  rw [ht, e0] at this
  exact this
theorem r_grown {p : Nat × Nat} {h0 : Hw} {L : List (Nat × HW)} (O : Own (some p) h0 h L) {G : Web} (o : WOk G) (n1 : G.n ≤ 100) (n2 : G.roads.length ≤ 90) {way : Nat} (hw : way < 3) {K : W → Hw → Prop}
    (c : ∀ (G' : Web) (h' : Hw), WOk G' → G'.n = G.n → G'.roads.length = G.roads.length + 1 → Own (some p) h0 h' L → K (webW G') h') :
    wp (callF tb wf (k + 4) n__law_grown [.ref p.1, webW G, nW way] h) K := by
  rw [call_open (fn := f__law_grown) rfl rfl rfl rfl (by simp only [W.noRefs, W.noRef, Bool.false_and]), wp_runF]
  have hi : ∀ h, biOp .list [roadsW G.roads] h = alloc (.lst (G.roads.map prW)) h := fun h => list_tup
  have hi2 : ∀ t h, biOp .list [natsW t] h = alloc (.lst (t.map nW)) h := fun t h => list_tup
  have s9 : ∀ (a10 a11 : Option W) (r4 r5 sp one other : Nat) (rs : List Nat) (h : Hw), one < 2 * G.roads.length → other < 2 * G.roads.length → rs.length = G.n →
      Own (some p) h0 h (llO r5 rs G.turns ++ (sp, .lst ((spotsL G.roads).map nW)) :: (r4, .lst (G.roads.map prW)) :: L) →
      wp (exL (callF tb wf (k + 3)) wf (d__law_grown.drop 7) [some (.ref p.1), some (webW G), some (nW way), some (nW G.n), some (.ref r4), some (.ref r5), none, some (nW G.roads.length), some (nW one), some (.ref sp), a10, a11, some (nW other)] h) (outK K) := by
    intro a10 a11 r4 r5 sp one other rs h hone hoth hl O
    obtain ⟨A, hA⟩ : ∃ A, spotAt G.roads one = A := ⟨_, rfl⟩
    obtain ⟨B, hB⟩ : ∃ B, spotAt G.roads other = B := ⟨_, rfl⟩
    have hA1 := spot_lt o hone
    have hB1 := spot_lt o hoth
    obtain ⟨t, ht, mt⟩ := o.inTurn hone
    obtain ⟨u0, hu0, mu0⟩ := o.inTurn hoth
    rw [hA] at hA1 ht
    rw [hB] at hB1 hu0
    obtain ⟨aA, eA⟩ : ∃ a, rs[A]? = some a := ⟨_, List.getElem?_eq_getElem (by omega)⟩
    obtain ⟨aB, eB⟩ : ∃ a, rs[B]? = some a := ⟨_, List.getElem?_eq_getElem (by omega)⟩
    have tl1 : t.length ≤ 1000 := by
      have := nodup_len (l := t) (n := 2 * G.roads.length) ((o.turn _ _ ht).nodup_iff.mpr (List.nodup_range.filter _)) (o.turnLt (List.mem_of_getElem? ht))
      omega
    have gs : ∀ {h L' M}, Own (some p) h0 h (L' ++ (sp, .lst ((spotsL G.roads).map nW)) :: M) → h.get sp = some (.lst ((spotsL G.roads).map nW)) := fun O => (O.own (sp, _) (by simp)).2.2
    have gA : ((spotsL G.roads).map nW)[one]? = some (nW A) := by rw [List.getElem?_map, spots_at hone, hA]; rfl
    have gB : ((spotsL G.roads).map nW)[other]? = some (nW B) := by rw [List.getElem?_map, spots_at hoth, hB]; rfl
    have g4 : h.get r4 = some (.lst (G.roads.map prW)) := (O.own (r4, _) (by simp)).2.2
    simp only [d__law_grown, drops, go, recv_lst (m := .append) g4, idx_ref (gs O) gA, idx_ref (gs O) gB]
    rw [app_lst g4 (by rw [List.length_map]; omega)]
    have O := O.setM2 (.lst (G.roads.map prW ++ [.tup [nW A, nW B]]))
    generalize h.set r4 _ = h2 at O ⊢
    simp only [go, idx_ref (gs O) gA, O.llIdx eA]
    have gt := O.llRow eA ht
    simp only [recv_lst gt, go, idx_ref (gs O) gA, O.llIdx eA]
    rw [index_ref gt mt]
    simp only [go]
    rw [mulN (.inl (by decide))]
    simp only [go]
    rw [insert_ref gt (by omega) (by have := List.idxOf_lt_length_of_mem mt; omega)]
    obtain ⟨i, hi⟩ : ∃ i, t.idxOf one = i := ⟨_, rfl⟩
    rw [hi]
    have O := O.llSet eA ht (insA t i (2 * G.roads.length))
    generalize h2.set aA _ = h3 at O ⊢
    obtain ⟨u, hu, mu, hu2⟩ : ∃ u, (G.turns.set A (insA t i (2 * G.roads.length)))[B]? = some u ∧ other ∈ u ∧ u.length ≤ 1001 := by
      rw [List.getElem?_set]
      by_cases d : A = B
      · rw [if_pos d, if_pos (by rw [o.tl]; exact hA1)]
        rw [← d, ht] at hu0
        obtain rfl := Option.some.inj hu0
        refine ⟨_, rfl, (insA_perm _ _ _).mem_iff.mpr (List.mem_cons_of_mem _ mu0), ?_⟩
        rw [(insA_perm _ _ _).length_eq, List.length_cons]; omega
      · rw [if_neg d]
        refine ⟨_, hu0, mu0, ?_⟩
        have := nodup_len (l := u0) (n := 2 * G.roads.length) ((o.turn _ _ hu0).nodup_iff.mpr (List.nodup_range.filter _)) (o.turnLt (List.mem_of_getElem? hu0))
        omega
    simp only [go, idx_ref (gs O) gB, O.llIdx eB]
    have gu := O.llRow eB hu
    simp only [recv_lst gu, go, idx_ref (gs O) gB, O.llIdx eB]
    rw [index_ref gu mu]
    simp only [go]
    rw [mulN (.inl (by decide))]
    simp only [go]
    rw [insert_ref gu (by omega) (by have := List.idxOf_lt_length_of_mem mu; omega)]
    obtain ⟨j, hj⟩ : ∃ j, u.idxOf other = j := ⟨_, rfl⟩
    rw [hj]
    have O := O.llSet eB hu (insA u j (2 * G.roads.length + 1))
    have W2 := o.grow (i := i) (j := j) hA1 hB1 ht hu
    generalize h3.set aB _ = h4 at O ⊢
    have g4 : h4.get r4 = some (.lst (G.roads.map prW ++ [.tup [nW A, nW B]])) := (O.own (r4, _) (by simp)).2.2
    have hlT : rs.length = ((G.turns.set A (insA t i (2 * G.roads.length))).set B (insA u j (2 * G.roads.length + 1))).length := by rw [List.length_set, List.length_set, o.tl, hl]
    simp only [go, tuple_ref g4, it_ref (O.at 0 rfl)]
    rw [sz_map (by omega)]
    simp only [go]
    rw [tupRows O hlT fun a t e => by simp only [WP.turnE, go, tuple_ref e]; rfl]
    simp only [go]
    refine wp_alloc O fun r9 h5 O => ?_
    simp only [tuple_ref (O.at 0 rfl), go]
    have e1 : G.roads.map prW ++ [.tup [nW A, nW B]] = (G.roads ++ [(A, B)]).map prW := by rw [List.map_append]; rfl
    rw [e1]
    exact c ⟨G.n, G.roads ++ [(A, B)], _⟩ h5 W2 rfl (by simp) (O.sub (List.Sublist.cons _ (by
      have := (List.nil_sublist (llO r5 rs ((G.turns.set A (insA t i (2 * G.roads.length))).set B (insA u j (2 * G.roads.length + 1))))).append (List.Sublist.cons (sp, HW.lst ((spotsL G.roads).map nW)) (List.Sublist.cons (r4, HW.lst (G.roads.map prW ++ [.tup [nW A, nW B]])) (List.Sublist.refl L)))
      exact this)))
  have s7 : ∀ (q r4 r5 sp one : Nat) (a11 : Option W) (rs Sl : List Nat) (h : Hw), one < 2 * G.roads.length → rs.length = G.n → Sl ≠ [] → Sl.length ≤ 200 → (∀ x ∈ Sl, x < 2 * G.roads.length) →
      Own (some p) h0 h ((q, .lst (Sl.map nW)) :: (llO r5 rs G.turns ++ (sp, .lst ((spotsL G.roads).map nW)) :: (r4, .lst (G.roads.map prW)) :: L)) →
      wp (exL (callF tb wf (k + 3)) wf (d__law_grown.drop 6) [some (.ref p.1), some (webW G), some (nW way), some (nW G.n), some (.ref r4), some (.ref r5), none, some (nW G.roads.length), some (nW one), some (.ref sp), some (.ref q), a11, none] h) (outK K) := by
    intro q r4 r5 sp one a11 rs Sl h hone hl hS hS2 hS3 O
    simp only [d__law_grown, drops, go]
    refine r_of O (xs := Sl.map nW) List.mem_cons_self (by rw [List.length_map]; exact List.length_pos_iff.mpr hS) (by rw [List.length_map]; omega) fun x w h' e O => ?_
    rw [List.getElem?_map] at e
    cases ex : Sl[x]? with
    | none => rw [ex] at e; cases e
    | some y =>
      rw [ex] at e
      obtain rfl := Option.some.inj e
      have z := s9 (some (.ref q)) a11 r4 r5 sp one y rs h' hone (hS3 y (List.mem_of_getElem? ex)) hl (O.sub (List.sublist_cons_self _ _))
      simp only [d__law_grown, drops, go] at z
      simp only [go]
      exact z
  have s6 : ∀ (q r4 r5 sp one : Nat) (rs Sl : List Nat) (h : Hw), one < 2 * G.roads.length → rs.length = G.n → Sl ≠ [] → Sl.length ≤ 200 → (∀ x ∈ Sl, x < 2 * G.roads.length) → (1 < G.n → way = 2 → ∃ x ∈ Sl, spotAt G.roads x ≠ spotAt G.roads one) →
      Own (some p) h0 h ((q, .lst (Sl.map nW)) :: (llO r5 rs G.turns ++ (sp, .lst ((spotsL G.roads).map nW)) :: (r4, .lst (G.roads.map prW)) :: L)) →
      wp (exL (callF tb wf (k + 3)) wf (d__law_grown.drop 5) [some (.ref p.1), some (webW G), some (nW way), some (nW G.n), some (.ref r4), some (.ref r5), none, some (nW G.roads.length), some (nW one), some (.ref sp), some (.ref q), none, none] h) (outK K) := by
    intro q r4 r5 sp one rs Sl h hone hl hS hS2 hS3 hS4 O
    have z0 := fun O => s7 q r4 r5 sp one none rs Sl h hone hl hS hS2 hS3 O
    simp only [d__law_grown, drops, go] at z0 ⊢
    by_cases c1 : way = 2
    · by_cases c2 : 1 < G.n
      · simp only [c1, c2, decide_true, go, it_ref (O.at 0 rfl)]
        rw [sz_map (by omega)]
        simp only [go]
        have gs : h.get sp = some (.lst ((spotsL G.roads).map nW)) := (O.own (sp, _) (by simp)).2.2
        have ga : ∀ x, x < 2 * G.roads.length → ((spotsL G.roads).map nW)[x]? = some (nW (spotAt G.roads x)) := fun x hx => by rw [List.getElem?_map, spots_at hx]; rfl
        rw [loopC_filter nW id (fun x => !decide (spotAt G.roads x = spotAt G.roads one)) (okG1 (O.at 0 rfl) (beqs_id beq_nat _)) fun x m => by
          simp only [WP.turnE, go, idx_ref gs (ga x (hS3 x m)), idx_ref gs (ga one hone)]
          cases decide (spotAt G.roads x = spotAt G.roads one) <;> rfl]
        simp only [go]
        refine wp_alloc O fun q2 h2 O => ?_
        rw [List.map_id] at O
        obtain ⟨x, hx, hx2⟩ := hS4 c2 c1
        have z := s7 q2 r4 r5 sp one none rs (Sl.filter fun x => !decide (spotAt G.roads x = spotAt G.roads one)) h2 hone hl
          (List.ne_nil_of_mem (List.mem_filter.mpr ⟨hx, by simp [hx2]⟩)) (Nat.le_trans (List.length_filter_le _ _) hS2) (fun y m => hS3 y (List.mem_filter.mp m).1) (O.sub (List.Sublist.cons_cons _ (List.sublist_cons_self _ _)))
        simp only [d__law_grown, drops, go] at z ⊢
        exact z
      · simp only [c1, c2, decide_true, decide_false, go]
        rw [c1] at z0
        exact z0 O
    · simp only [c1, decide_false, go]
      exact z0 O
  simp only [f__law_grown, d__law_grown, go, hi]
  refine wp_alloc O fun r4 h1 O => ?_
  rw [sz_map (by rw [o.tl]; omega)]
  simp only [go]
  refine wp_loopC (fun d ys h => ∃ rs : List Nat, ys = rs.map W.ref ∧ rs.length = d.length ∧ Own (some p) h0 h (zipO rs d ++ (r4, .lst (G.roads.map prW)) :: L)) ⟨[], rfl, rfl, O⟩ (fun _ _ _ _ => rfl) (fun d t l e ys h i => ?_) (fun ys h i => ?_)
  · obtain ⟨rs, rfl, hl, O⟩ := i
    simp only [WP.turnE, go, hi2]
    refine wp_alloc O fun a h1 O => ?_
    refine ⟨rs ++ [a], by simp, by simp [hl], ?_⟩
    rw [zipO_app hl, List.append_assoc]
    exact O.perm List.perm_middle.symm
  · obtain ⟨rs, rfl, hl, O⟩ := i
    refine wp_alloc O fun r5 h2 O => ?_
    have O : Own (some p) h0 h2 (llO r5 rs G.turns ++ (r4, .lst (G.roads.map prW)) :: L) := O
    have hl4 : h2.get r4 = some (.lst (G.roads.map prW)) := (O.own (r4, _) (by simp)).2.2
    simp only [go, len_ref hl4, List.length_map]
    by_cases z : G.roads.length = 0
    · obtain ⟨e1, e2⟩ := WOk_none o z
      simp only [z, decide_true, go]
      exact c ⟨G.n, [(0, 0)], [[0, 1]]⟩ h2 e2 rfl (by rw [z]; rfl) (O.sub ((List.nil_sublist (llO r5 rs G.turns)).append (List.sublist_cons_self (r4, HW.lst (G.roads.map prW)) L)))
    · simp only [z, decide_false, go]
      rw [mulN (.inl (by decide))]
      simp only [go]
      refine r_pick O (by omega) (by omega) fun one h3 hone O => ?_
      simp only [go]
      refine r_spots (o.ok (by omega) (by omega)) fun sp h4 Os => ?_
      have O : Own (some p) h0 h4 ((sp, .lst ((spotsL G.roads).map nW)) :: (llO r5 rs G.turns ++ (r4, .lst (G.roads.map prW)) :: L)) := O.run0 Os
      have hl := hl.trans o.tl
      have O : Own (some p) h0 h4 (llO r5 rs G.turns ++ (sp, .lst ((spotsL G.roads).map nW)) :: (r4, .lst (G.roads.map prW)) :: L) := O.perm List.perm_middle.symm
      have other : 1 < G.n → ∃ x, x < 2 * G.roads.length ∧ spotAt G.roads x ≠ spotAt G.roads one := by
        intro w1
        refine Classical.byContradiction fun no => ?_
        have all : ∀ x, x < 2 * G.roads.length → spotAt G.roads x = spotAt G.roads one := fun x hx => Classical.byContradiction fun h => no ⟨x, hx, h⟩
        have ends : ∀ q ∈ G.roads, q.1 = spotAt G.roads one ∧ q.2 = spotAt G.roads one := fun q m => by
          obtain ⟨i, hi, e⟩ := List.mem_iff_getElem.mp m
          have a := all (2 * i) (by omega)
          have b := all (2 * i + 1) (by omega)
          unfold spotAt at a b
          rw [if_pos (by omega), show 2 * i / 2 = i by omega, List.getD_eq_getElem?_getD, List.getElem?_eq_getElem hi, e] at a
          rw [if_neg (by omega), show (2 * i + 1) / 2 = i by omega, List.getD_eq_getElem?_getD, List.getElem?_eq_getElem hi, e] at b
          exact ⟨a, b⟩
        have hs := spot_lt o hone
        have cn := fun v (hv : v < G.n) => o.conn (fun v => v = spotAt G.roads one) (fun q m => by simp only [(ends q m).1, (ends q m).2]) v (spotAt G.roads one) hv hs
        have a := (cn 0 (by omega)).mpr rfl
        have b := (cn 1 (by omega)).mpr rfl
        omega
      by_cases c1 : way = 0
      · simp only [c1, decide_true, go]
        refine r_face o (by omega) (by omega) hone fun q h5 Sl hS hS2 hS3 Oq => ?_
        have z := s6 q r4 r5 sp one rs Sl h5 hone hl hS hS2 hS3 (fun _ w => by omega) (by exact O.run0 Oq)
        simp only [d__law_grown, drops, go, c1] at z ⊢
        exact z
      · simp only [c1, decide_false, go]
        rw [mulN (.inl (by decide))]
        simp only [go]
        rw [lrng1 (by omega)]
        refine wp_alloc O fun q h5 O => ?_
        have z := s6 q r4 r5 sp one rs (List.range (2 * G.roads.length)) h5 hone hl (by rw [Ne, List.range_eq_nil]; omega) (by rw [List.length_range]; omega) (fun x m => List.mem_range.mp m) (fun w1 _ => by
          obtain ⟨x, hx, h⟩ := other w1
          exact ⟨x, List.mem_range.mpr hx, h⟩) O
        simp only [d__law_grown, drops, go] at z ⊢
        exact z
end
end Ik80
namespace Ik80
open PySem TL TL.WP
section
variable {k : Nat} {h : Hw}
def renI (p : Nat × Nat) (G : Web) (names places : List Nat) (na pl en tu : Nat) (h0 : Hw) (L : List (Nat × HW)) (d : List (List Nat × Nat)) (s : TL.Env) (h : Hw) : Prop := ∃ (T : List (List Nat)) (a b c e : Option W),
  s = [some (.ref p.1), some (webW G), some (nW G.n), some (nW G.roads.length), some (.ref na), some (.ref pl), some (.ref en), some (.ref tu), a, b, c, e, none, none] ∧ T.length = G.n ∧ (∀ q ∈ d, ∃ k, T[gn names q.2]? = some ((q.1.drop k ++ q.1.take k).map (endN places))) ∧
  Own (some p) h0 h ((tu, .lst (T.map natsW)) :: (en, .dct (tabD (endN places) (2 * G.roads.length))) :: (pl, .lst (places.map nW)) :: (na, .lst (names.map nW)) :: L)
theorem r_renamed {p : Nat × Nat} {h0 : Hw} {L : List (Nat × HW)} (O : Own (some p) h0 h L) {G : Web} (o : WOk G) (n1 : G.n ≤ 100) (n2 : G.roads.length ≤ 100) {K : W → Hw → Prop}
    (c : ∀ (G' : Web) (h' : Hw), WOk G' → G'.n = G.n → G'.roads.length = G.roads.length → Own (some p) h0 h' L → K (webW G') h') :
    wp (callF tb wf (k + 3) n__law_renamed [.ref p.1, webW G] h) K := by
  rw [call_open (fn := f__law_renamed) rfl rfl rfl rfl (by simp only [W.noRefs, W.noRef, Bool.false_and]), wp_runF]
  simp only [f__law_renamed, d__law_renamed, go, dcts]
  rw [lrng1 (by omega)]
  refine wp_alloc O fun q1 h1 O => ?_
  refine r_mixed O List.mem_cons_self (by rw [List.length_range]; omega) fun na h2 names pn O => ?_
  rw [lrng1 (by omega)]
  refine wp_alloc O fun q2 h3 O => ?_
  refine r_mixed O List.mem_cons_self (by rw [List.length_range]; omega) fun pl h4 places pp O => ?_
  refine wp_allocD O fun en h5 O => ?_
  refine wp_alloc O fun q3 h6 O => ?_
  simp only [go, rep_ref (O.at 0 rfl) (show G.n ≤ 1000 by omega) (by decide : [W.tup []].length ≤ 1000), rep_one]
  refine wp_alloc O fun tu h7 O => ?_
  have z0 : List.replicate G.n (W.tup []) = (List.replicate G.n []).map natsW := by rw [List.map_replicate]; rfl
  rw [z0] at O
  have O := O.sub (L' := (tu, .lst ((List.replicate G.n []).map natsW)) :: (en, .dct (tabD (endN places) 0)) :: (pl, .lst (places.map nW)) :: (na, .lst (names.map nW)) :: L) (by
    refine List.Sublist.cons_cons _ (List.Sublist.cons _ (List.Sublist.cons_cons _ (List.Sublist.cons_cons _ (List.Sublist.cons _ (List.Sublist.cons_cons _ (List.Sublist.cons _ (List.Sublist.refl _)))))))
    )
  have pl1 : places.length = G.roads.length := by rw [pp.length_eq, List.length_range]
  have nl1 : names.length = G.n := by rw [pn.length_eq, List.length_range]
  simp only [it_rng1 (k := G.roads.length) (h := h7) (by omega), go]
  refine wp_loopS (fun d s h => ∃ a, s = [some (.ref p.1), some (webW G), some (nW G.n), some (nW G.roads.length), some (.ref na), some (.ref pl), some (.ref en), some (.ref tu), a, none, none, none, none, none] ∧
    Own (some p) h0 h ((tu, .lst ((List.replicate G.n []).map natsW)) :: (en, .dct (tabD (endN places) (2 * d.length))) :: (pl, .lst (places.map nW)) :: (na, .lst (names.map nW)) :: L)) (List.range G.roads.length) ⟨none, rfl, O⟩ (fun _ _ _ _ => rfl) (fun d r l e s h i => ?_) (fun s h i => ?_)
  · obtain ⟨a, rfl, O⟩ := i
    have hr : r = d.length ∧ r < G.roads.length := by
      have z : (List.range G.roads.length)[d.length]? = some r := by rw [e]; simp
      obtain ⟨z1, z2⟩ := List.getElem?_eq_some_iff.mp z
      rw [List.length_range] at z1
      rw [List.getElem_range] at z2
      omega
    obtain ⟨rfl, hr⟩ := hr
    simp only [turnSt, go, isDct_ref (O.at 1 rfl)]
    refine wp_dct (kvs := [(.inl ((2 * d.length : Nat) : Int), nW (endN places (2 * d.length))), (.inl ((2 * d.length + 1 : Nat) : Int), nW (endN places (2 * d.length + 1)))]) O (fun h1 O1 => ?_) (by simp) fun q h2 O2 => ?_
    · have ep : (places.map nW)[d.length]? = some (nW (gn places d.length)) := by rw [List.getElem?_map, gn_at (by omega)]; rfl
      have m2 : ∀ (x : Nat) (h : Hw), binOp .mul (nW 2) (nW x) h = .ok (nW (2 * x)) h := fun x h => mulN (.inl (by decide))
      simp only [dcts2, dcts, go, m2, idx_ref (O1.at 3 rfl) ep]
      have e1 : endN places (2 * d.length) = 2 * gn places d.length := by unfold endN; rw [show 2 * d.length / 2 = d.length by omega]; omega
      have e2 : endN places (2 * d.length + 1) = 2 * gn places d.length + 1 := by unfold endN; rw [show (2 * d.length + 1) / 2 = d.length by omega]; omega
      rw [e1, e2]
    · have ne : en ≠ q := by
        have := List.pairwise_iff_getElem.mp O2.nd 0 2 (by simp) (by simp) (by decide)
        simp at this
        exact fun z => this z.symm
      have k2 : List.foldl (fun d p => kPut d p.1 p.2) [] [((.inl ((2 * d.length : Nat) : Int) : L2.Key), nW (endN places (2 * d.length))), (.inl ((2 * d.length + 1 : Nat) : Int), nW (endN places (2 * d.length + 1)))] = [((.inl ((2 * d.length : Nat) : Int) : L2.Key), nW (endN places (2 * d.length))), (.inl ((2 * d.length + 1 : Nat) : Int), nW (endN places (2 * d.length + 1)))] := by
        have : ¬ ((2 * d.length : Nat) : Int) = ((2 * d.length + 1 : Nat) : Int) := by omega
        simp [kPut, this]
        omega
      rw [k2] at O2
      rw [upd_ref (O2.at 2 rfl) (O2.at 0 rfl) ne (by unfold tabD; rw [List.length_map, List.length_range]; simp only [List.length_cons, List.length_nil]; omega)]
      have O3 := O2.set 2 rfl (.dct (List.foldl (fun d p => kPut d p.1 p.2) (tabD (endN places) (2 * d.length)) [((.inl ((2 * d.length : Nat) : Int) : L2.Key), nW (endN places (2 * d.length))), (.inl ((2 * d.length + 1 : Nat) : Int), nW (endN places (2 * d.length + 1)))]))
      simp only [go]
      refine ⟨_, rfl, ?_⟩
      rw [List.foldl_cons, List.foldl_cons, List.foldl_nil] at O3 ⊢
      simp only [kPut_tab] at O3 ⊢
      rw [List.length_append, List.length_singleton, show 2 * (d.length + 1) = 2 * d.length + 1 + 1 by omega]
      exact O3.sub (List.sublist_cons_self _ _)
  · obtain ⟨a, rfl, O⟩ := i
    rw [List.length_range] at O
    simp only [go]
    refine wp_loopS (renI p G names places na pl en tu h0 L) G.turns.zipIdx ⟨_, _, _, _, _, rfl, List.length_replicate, fun q m => (nomatch m), O⟩ (fun _ _ _ _ => rfl) (fun d q l e s h i => ?_) (fun s h i => ?_)
    · obtain ⟨T, a, b, c1, e1, rfl, hT, hd, O⟩ := i
      obtain ⟨t, v⟩ := q
      have et := zip_at (l := G.turns) (q := (t, v)) (by rw [e]; simp)
      have hv : v < G.n := by rw [← o.tl]; exact (List.getElem?_eq_some_iff.mp et).1
      have hlt := o.turnLt (List.mem_of_getElem? et)
      have tlen : t.length ≤ 200 := by
        have := nodup_len (l := t) (n := 2 * G.roads.length) ((o.turn _ _ et).nodup_iff.mpr (List.nodup_range.filter _)) hlt
        omega
      have cont : ∀ (kk : Nat) (h : Hw) Q, kk ≤ t.length → Own (some p) h0 h ((tu, .lst (T.map natsW)) :: (en, .dct (tabD (endN places) (2 * G.roads.length))) :: (pl, .lst (places.map nW)) :: (na, .lst (names.map nW)) :: L) →
          wp (exL (callF tb wf (k + 2)) wf [(.setI (.var 7) (.idx (.var 4) (.var 9)) (.bi .tuple [(.comp (.idx (.var 6) (.var 12)) (.nm 12) .seq [(.bin .add (.slc (.var 10) (some (.var 11)) none) (.slc (.var 10) none (some (.var 11))))] [] [12])]))]
            [some (.ref p.1), some (webW G), some (nW G.n), some (nW G.roads.length), some (.ref na), some (.ref pl), some (.ref en), some (.ref tu), a, some (nW v), some (natsW t), some (nW kk), none, none] h) (loopK (renI p G names places na pl en tu h0 L (d ++ [(t, v)])) Q) := by
        intro kk h Q hk O
        simp only [go, slc_from hk, slc_to hk]
        rw [cat_nats (by rw [List.length_drop, List.length_take]; omega)]
        simp only [go]
        rw [sz_map (by rw [List.length_append, List.length_drop, List.length_take]; omega)]
        simp only [go]
        rw [loopC_map nW (endN places) okG0 fun x m => by
          have hx : x < 2 * G.roads.length := by
            rcases List.mem_append.mp m with m | m
            · exact hlt x (List.mem_of_mem_drop m)
            · exact hlt x (List.mem_of_mem_take m)
          simp only [WP.turnE, go]
          rw [idx_dct (O.at 1 rfl) (z := .inl (x : Int)) rfl (kFind_tab hx)]
          simp only [go]]
        simp only [go]
        refine wp_alloc O fun q h1 O => ?_
        have en1 : (names.map nW)[v]? = some (nW (gn names v)) := by rw [List.getElem?_map, gn_at (by omega)]; rfl
        have hnv := perm_lt pn hv
        simp only [tuple_ref (O.at 0 rfl), go, idx_ref (O.at 4 rfl) en1]
        rw [set_lst (k := gn names v) (O.at 1 rfl) (by rw [List.length_map]; omega)]
        have O2 := O.set 1 rfl (.lst ((T.map natsW).set (gn names v) (natsW ((t.drop kk ++ t.take kk).map (endN places)))))
        simp only [go]
        rw [← List.map_set] at O2
        refine ⟨T.set (gn names v) ((t.drop kk ++ t.take kk).map (endN places)), _, _, _, _, rfl, by rw [List.length_set]; exact hT, fun q m => ?_, ?_⟩
        · by_cases c : gn names q.2 = gn names v
          · have hq2 : q.2 < G.n := by
              rcases List.mem_append.mp m with m | m
              · have := zip_at (l := G.turns) (q := q) (by rw [e]; exact List.mem_append_left _ m)
                rw [← o.tl]; exact (List.getElem?_eq_some_iff.mp this).1
              · simp at m; rw [m]; exact hv
            have qv := perm_inj pn hq2 hv c
            have : q.1 = t := by
              rcases List.mem_append.mp m with m | m
              · have := zip_at (l := G.turns) (q := q) (by rw [e]; exact List.mem_append_left _ m)
                rw [qv, et] at this
                exact (Option.some.inj this).symm
              · simp at m; rw [m]
            refine ⟨kk, ?_⟩
            rw [c, this, List.getElem?_set_self (by omega)]
          · rw [List.getElem?_set_ne (fun z => c z.symm)]
            rcases List.mem_append.mp m with m | m
            · exact hd q m
            · simp at m; rw [m] at c; exact absurd rfl c
        · have := O2.sub (List.sublist_cons_self _ _)
          rw [show ∀ X : List Nat, W.tup (List.map nW X) = natsW X from fun _ => rfl, ← List.map_set]
          exact this
      simp only [turnSt, go, ne_nil]
      by_cases c0 : t = []
      · simp only [c0, decide_true, Bool.not_true, go]
        have z := cont 0 h (fun _ _ => True) (Nat.zero_le _) O
        rw [c0] at z
        simp only [go] at z
        exact z
      · simp only [c0, decide_false, Bool.not_false, go]
        refine r_pick O (List.length_pos_iff.mpr c0) (by omega) fun x h2 hx O => ?_
        have z := cont x h2 (fun _ _ => True) (by omega) O
        simp only [go] at z ⊢
        exact z
    · obtain ⟨T, a, b, c1, e1, rfl, hT, hd, O⟩ := i
      have W2 := o.ren pn pp hT fun v t ht => hd (t, v) (List.mem_zipIdx_iff_getElem?.mpr ht)
      simp only [go, it_rng1 (k := G.roads.length) (h := h) (by omega)]
      rw [sz_rng (by omega)]
      simp only [go]
      rw [loopC_map prW (fun r => (gn names (endsOf G (places.idxOf r)).1, gn names (endsOf G (places.idxOf r)).2)) okG0 fun r m => by
        have hr := List.mem_range.mp m
        have hi := perm_onto pp hr
        obtain ⟨x1, x2⟩ := o.road _ (List.mem_of_getElem? (ends_at hi.1))
        have y : ∀ {v}, v < G.n → (names.map nW)[v]? = some (nW (gn names v)) := fun hv => by rw [List.getElem?_map, gn_at (by omega)]; rfl
        simp only [WP.turnE, go, recv_lst (m := .index) (O.at 2 rfl), index_ref (O.at 2 rfl) (pp.mem_iff.mpr m), idx_roads (ends_at hi.1), idx_ref (O.at 3 rfl) (y x1), idx_ref (O.at 3 rfl) (y x2)]
        rfl]
      simp only [go]
      refine wp_alloc O fun r9 h5 O => ?_
      simp only [tuple_ref (O.at 0 rfl), tuple_ref (O.at 1 rfl), go]
      exact c _ h5 W2 rfl (by simp) (O.sub (List.Sublist.cons _ (List.Sublist.cons _ (List.Sublist.cons _ (List.Sublist.cons _ (List.Sublist.cons _ (List.Sublist.refl _)))))))
end
end Ik80
namespace Ik80
open PySem TL TL.WP
section
variable {k : Nat} {h : Hw}
def webI (p : Nat × Nat) (cr more way : Nat) (h0 : Hw) (L : List (Nat × HW)) (d : List Nat) (s : TL.Env) (h : Hw) : Prop := ∃ (G : Web) (a b c d1 e f g : Option W),
  s = [some (.ref p.1), some (nW cr), some (nW more), some (nW way), some (webW G), a, b, c, d1, e, f, g, none] ∧ WOk G ∧ G.n = d.length + 1 ∧ G.roads.length = d.length ∧ Own (some p) h0 h L
theorem r_web {p : Nat × Nat} {h0 : Hw} {L : List (Nat × HW)} (O : Own (some p) h0 h L) {cr more way : Nat} (hc1 : 1 ≤ cr) (hc : cr ≤ 20) (hm : more ≤ 20) (hw : way ≤ 3) {K : W → Hw → Prop}
    (c : ∀ (G : Web) (h' : Hw), WOk G → G.n = cr → G.roads.length = cr - 1 + more → Own (some p) h0 h' L → K (webW G) h') :
    wp (callF tb wf (k + 5) n__law_web [.ref p.1, nW cr, nW more, nW way] h) K := by
  rw [call_open (fn := f__law_web) rfl rfl rfl rfl (by simp only [W.noRefs, W.noRef, Bool.false_and]), wp_runF]
  have cont : ∀ (w2 : Nat) (h : Hw), w2 < 3 → Own (some p) h0 h L → wp (exL (callF tb wf (k + 4)) wf (d__law_web.drop 1) [some (.ref p.1), some (nW cr), some (nW more), some (nW w2), some (.tup [nW 1, .tup [], .tup [.tup []]]), none, none, none, none, none, none, none, none] h) (outK K) := by
    intro w2 h hw2 O
    simp only [d__law_web, drops, go]
    rw [it_rng2 (by omega) (by decide)]
    simp only [go]
    refine wp_loopS (webI p cr more w2 h0 L) (List.range' 1 (cr - 1)) ⟨⟨1, [], [[]]⟩, _, _, _, _, _, _, _, rfl, WOk.one, rfl, rfl, O⟩ (fun _ _ _ _ => rfl) (fun d v l e s h i => ?_) (fun s h i => ?_)
    · obtain ⟨G, a, b, c1, d1, e1, f, g, rfl, o, hn, hr, O⟩ := i
      have hv : v = G.n ∧ d.length + 1 < cr := by
        have z : (List.range' 1 (cr - 1))[d.length]? = some v := by rw [e]; simp
        obtain ⟨z1, z2⟩ := List.getElem?_eq_some_iff.mp z
        rw [List.length_range'] at z1
        rw [List.getElem_range'] at z2
        omega
      obtain ⟨rfl, hd⟩ := hv
      simp only [turnSt, go]
      refine r_pick O (by omega) (by omega) fun at_ h1 hat O => ?_
      simp only [go]
      refine r_pick O (by omega) (by omega) fun side h2 hside O => ?_
      have hi : ∀ h, biOp .list [turnsW G.turns] h = alloc (.lst (G.turns.map natsW)) h := fun h => list_tup
      simp only [go, hi]
      refine wp_alloc O fun tu h3 O => ?_
      obtain ⟨t, ht⟩ : ∃ t, G.turns[at_]? = some t := ⟨_, List.getElem?_eq_getElem (by rw [o.tl]; exact hat)⟩
      have tlen : t.length ≤ 200 := by
        have := nodup_len (l := t) (n := 2 * G.roads.length) ((o.turn _ _ ht).nodup_iff.mpr (List.nodup_range.filter _)) (o.turnLt (List.mem_of_getElem? ht))
        omega
      have gt : (G.turns.map natsW)[at_]? = some (natsW t) := by rw [List.getElem?_map, ht]; rfl
      simp only [go, idx_ref (O.at 0 rfl) gt]
      refine r_pick O (by omega) (by omega) fun kk h4 hk O => ?_
      have hk : kk ≤ t.length := by omega
      simp only [go, idx_ref (O.at 0 rfl) gt, slc_to hk, slc_from hk]
      rw [mulN (.inl (by decide))]
      simp only [go]
      rw [cat_nats1 (by rw [List.length_take]; omega)]
      simp only [go, idx_ref (O.at 0 rfl) gt, slc_to hk, slc_from hk]
      rw [cat_nats (by rw [List.length_append, List.length_take, List.length_drop, List.length_singleton]; omega)]
      simp only [go]
      rw [set_lst (k := at_) (O.at 0 rfl) (by rw [List.length_map, o.tl]; exact hat)]
      have O := O.set 0 rfl (.lst ((G.turns.map natsW).set at_ (natsW (t.take kk ++ [2 * G.roads.length + side] ++ t.drop kk))))
      rw [← List.map_set] at O ⊢
      generalize h4.set tu _ = h5 at O ⊢
      have W2 := o.leaf (k := kk) hat hside ht
      have fin : ∀ (h : Hw) (pair : Nat × Nat), pair = (if side = 0 then (at_, G.n) else (G.n, at_)) → Own (some p) h0 h ((tu, .lst ((G.turns.set at_ (insA t kk (2 * G.roads.length + side))).map natsW)) :: L) →
          wp (exL (callF tb wf (k + 4)) wf [(.set 4 (.tup [(.bin .add (.var 5) (.int 1)), (.bin .add (.idx (.var 4) (.int 1)) (.tup [(.var 11)])), (.bi .tuple [(.bin .add (.var 8) (.lst [(.tup [(.bin .sub (.bin .add (.bin .mul (.int 2) (.var 9)) (.int 1)) (.var 7))])]))])]))]
            [some (.ref p.1), some (nW cr), some (nW more), some (nW w2), some (webW G), some (nW G.n), some (nW at_), some (nW side), some (.ref tu), some (nW G.roads.length), some (nW kk), some (prW pair), none] h) (loopK (webI p cr more w2 h0 L (d ++ [G.n])) fun _ _ => True) := by
        intro h pair hp O
        simp only [go]
        rw [cat_roads pair rfl (by omega)]
        simp only [go]
        rw [mulN (.inl (by decide))]
        simp only [go]
        rw [subN (by omega)]
        simp only [go]
        refine wp_alloc O fun q h6 O => ?_
        rw [cat_ref (O.at 1 rfl) (O.at 0 rfl) (by rw [List.length_map, List.length_set, o.tl]; simp; omega)]
        refine wp_alloc O fun q2 h7 O => ?_
        simp only [tuple_ref (O.at 0 rfl), go]
        rw [← hp] at W2
        have ew : W.tup [nW (G.n + 1), roadsW (G.roads ++ [pair]), W.tup ((G.turns.set at_ (insA t kk (2 * G.roads.length + side))).map natsW ++ [W.tup [nW (2 * G.roads.length + 1 - side)]])] = webW ⟨G.n + 1, G.roads ++ [pair], G.turns.set at_ (insA t kk (2 * G.roads.length + side)) ++ [[2 * G.roads.length + 1 - side]]⟩ := by
          unfold webW turnsW
          rw [List.map_append]
          rfl
        rw [ew]
        exact ⟨_, _, _, _, _, _, _, _, rfl, W2, by simp; omega, by simp; omega, O.sub (List.Sublist.cons _ (List.Sublist.cons _ (List.Sublist.cons _ (List.Sublist.refl _))))⟩
      simp only [go]
      by_cases c0 : side = 0
      · have z := fin h5 (at_, G.n) (by rw [if_pos c0]) O
        simp only [c0, decide_true, go, prW] at z ⊢
        exact z
      · have z := fin h5 (G.n, at_) (by rw [if_neg c0]) O
        simp only [c0, decide_false, go, prW] at z ⊢
        exact z
    · obtain ⟨G, a, b, c1, d1, e1, f, g, rfl, o, hn, hr, O⟩ := i
      rw [List.length_range'] at hn hr
      simp only [go]
      rw [it_rng1 (by omega)]
      simp only [go]
      refine wp_loopS (fun d s h => ∃ (G : Web) (z : Option W), s = [some (.ref p.1), some (nW cr), some (nW more), some (nW w2), some (webW G), a, b, c1, d1, e1, f, g, z] ∧ WOk G ∧ G.n = cr ∧ G.roads.length = cr - 1 + d.length ∧ Own (some p) h0 h L) (List.range more) ⟨G, none, rfl, o, by omega, by simp; omega, O⟩ (fun _ _ _ _ => rfl) (fun d v l e s h i => ?_) (fun s h i => ?_)
      · obtain ⟨G, z, rfl, o, hn, hr, O⟩ := i
        have hd : d.length < more := by
          have := congrArg List.length e
          rw [List.length_range, List.length_append, List.length_cons] at this
          omega
        simp only [turnSt, go]
        refine r_grown O o (by omega) (by omega) hw2 fun G' h' o' e1 e2 O' => ?_
        exact ⟨G', _, rfl, o', by omega, by rw [List.length_append, List.length_singleton]; omega, O'⟩
      · obtain ⟨G, z, rfl, o, hn, hr, O⟩ := i
        rw [List.length_range] at hr
        simp only [go]
        refine r_renamed O o (by omega) (by omega) fun G' h' o' e1 e2 O' => ?_
        exact c G' h' o' (by omega) (by omega) O'
  simp only [f__law_web, d__law_web, go]
  by_cases c3 : way = 3
  · simp only [c3, decide_true, go]
    refine r_pick O (by decide) (by decide) fun x h1 hx O => ?_
    have z := cont x h1 hx O
    simp only [d__law_web, drops, go] at z ⊢
    exact z
  · simp only [c3, decide_false, go]
    have z := cont way h (by omega) O
    simp only [d__law_web, drops, go] at z ⊢
    exact z
end
end Ik80
namespace Ik80
open PySem TL TL.WP
section
variable {k : Nat} {h : Hw}
theorem nr_frl (l : List Int) : (W.frl (l.map W.int)).noRef = true := noRefs_map (fun _ => rfl) l
theorem r_source (ns : List Int) (hl : ns.length ≤ 63) {K : W → Hw → Prop} (c : ∀ r c h', r < h'.n → c < h'.n → Src h' (r, c) → K (.ref r) h') : wp (callF tb wf (k + 1) n__law_source [.frl (ns.map W.int)] h) K := by
  rw [call_closed (fn := f__law_source) rfl rfl rfl rfl (nr_cons (nr_frl ns) rfl)]
  have key : wp (runF (callF tb wf k) wf f__law_source [.frl (ns.map W.int)] Hw.nil) fun w g => ∃ (r q : Nat) (cs : List Int) (m : Int), w = .ref r ∧ cs.length ≤ 63 ∧ Own none Hw.nil g [(r, .dct (dS q 1 m 0)), (q, .lst (cs.map W.int))] := by
    rw [wp_runF]
    have it : ∀ h, iterOf .seq [W.frl (ns.map W.int)] h = some (ns.map W.int, []) := fun _ => rfl
    simp only [f__law_source, d__law_source, go, evs2, it]
    refine wp_loopS (fun d s h => ∃ (m : Int) (x : Option W), s = [some (.frl (ns.map W.int)), some (.int m), x] ∧ h = Hw.nil) ns ⟨11, none, rfl, rfl⟩ (fun _ _ _ _ => rfl) (fun d x l e s h i => ?_) (fun s h i => ?_)
    · obtain ⟨m, y, rfl, rfl⟩ := i
      simp only [turnSt, go, evs2]
      rw [mulC (by decide)]
      simp only [go, evs2]
      rw [mulC (by decide)]
      simp only [go, addI, evs2]
      rw [fmodI (by decide)]
      exact ⟨_, _, rfl, rfl⟩
    · obtain ⟨m, y, rfl, rfl⟩ := i
      simp only [go]
      have O := (Own.start Hw.nil).new (.dct [])
      simp only [evE, wp_bind]
      simp only [dcts2, go, evs2, it, show ∀ s : Str, keyOf (.str s) = some (.inr s) from fun _ => rfl]
      rw [sz_map (by omega)]
      simp only [go]
      rw [loopC_map W.int (fun i => if i < 0 then -i else i) okG0 fun x m => by simp only [WP.turnE, go, evs2]]
      simp only [go]
      refine wp_alloc O fun q1 h1 O => ?_
      have rv : biOp .rev [.ref q1] h1 = alloc (.lst (((ns.map fun i => if i < 0 then -i else i).map W.int).reverse)) h1 := by
        have g : h1.get q1 = some _ := O.at 0 rfl
        simp only [biOp, g]
        rfl
      rw [rv]
      refine wp_alloc O fun q2 h2 O => ?_
      have g0 : h2.get Hw.nil.n = some (.dct []) := O.at 2 rfl
      rw [g0]
      have mk : List.foldl (fun d p => kPut d p.1 p.2) [] [((.inr "cells" : L2.Key), W.ref q2), (.inr "left", nW 1), (.inr "mixed", W.int m), (.inr "turn", nW 0)] = dS q2 1 m 0 := by kernel_rfl
      have e15 : ∀ a b c d : L2.Key × W, Nat.ble [a, b, c, d].length 15 = true := fun _ _ _ _ => rfl
      simp only [e15, go, mk]
      have O := O.set 2 rfl (.dct (dS q2 1 m 0))
      refine ⟨Hw.nil.n, q2, (ns.map fun i => if i < 0 then -i else i).reverse, m, rfl, by simp; omega, ?_⟩
      rw [← List.map_reverse] at O
      exact (O.sub (L' := [(q2, _), (Hw.nil.n, _)]) (List.Sublist.cons_cons _ (List.Sublist.cons _ (List.Sublist.refl _)))).perm (List.Perm.swap _ _ _)
  obtain ⟨w, g, eq, r, q, cs, m, rfl, hcs, O⟩ := wp_get key
  rw [eq]
  show K (.ref (r + h.n)) (h.app g g.n)
  have O2 := O.graft h
  have u : HW.up h.n (.dct (dS q 1 m 0)) = .dct (dS (q + h.n) 1 m 0) := rfl
  simp only [List.map_cons, List.map_nil, u] at O2
  have u2 : HW.up h.n (.lst (cs.map W.int)) = .lst (cs.map W.int) := by simp only [HW.up, ups_id _ _ (noRefs_map (fun _ => rfl) cs : W.noRefs (cs.map W.int) = true)]
  rw [u2, Nat.add_comm h.n r, Nat.add_comm h.n q] at O2
  have o1 := O2.own _ List.mem_cons_self
  have o2 := O2.own _ (List.mem_cons_of_mem _ List.mem_cons_self)
  refine c _ (q + h.n) _ o1.2.1 o2.2.1 ⟨cs, 1, m, 0, ⟨?_, o1.2.2, o2.2.2⟩, hcs⟩
  have := List.pairwise_iff_getElem.mp O2.nd 0 1 (by simp) (by simp) (by decide)
  simpa using this
end
end Ik80
namespace Ik80
open PySem TL TL.WP
section
variable {k : Nat} {h : Hw}
theorem joined_body {C : CT} {G : Web} (ok : G.Ok) {l : List Nat} (hl : ∀ r ∈ l, r < G.roads.length) {w : W} (hw : nc w = some w) {gs : List (Nat × List W)} (itw : ∀ h' L, Own none h h' L → iterOf .seq [w] h' = some (l.map nW, gs)) (hg : ∀ h' L, Own none h h' L → okG gs h' = true)
    {K : W → Hw → Prop} (c1 : joinRun G (List.range G.n) l = none → ∀ h' L, Own none h h' L → K .non h') (c2 : ∀ lots r h', joinRun G (List.range G.n) l = some lots → Own none h h' [(r, .lst (lots.map nW))] → K (.ref r) h') :
    wp (exL C wf d__law_joined [some (webW G), some w, none, none, none, none, none] h) (outK K) := by
  have n1 := ok.2.1
  simp only [d__law_joined, go]
  rw [lrng1 (by omega)]
  refine wp_alloc (Own.start _) fun l0 h1 O => ?_
  simp only [go, hw, itw _ _ O]
  obtain ⟨J, hJ⟩ : ∃ J, joinRun G (List.range G.n) l = J := ⟨_, rfl⟩
  rw [hJ] at c1 c2
  refine wp_loopS (fun d s h1 => ∃ lots l0 a b e, s = [some (webW G), some w, some (.ref l0), a, b, e, none] ∧ Own none h h1 [(l0, .lst (lots.map nW))] ∧ lots.length = G.n ∧ ∀ r, l = d ++ r → J = joinRun G lots r) l ⟨List.range G.n, l0, none, none, none, rfl, O, List.length_range, fun r e => by rw [← hJ, e]; rfl⟩ (fun d s h i => ?_) (fun d x t e s h1 i => ?_) (fun s h1 i => ?_)
  · obtain ⟨_, _, _, _, _, _, O, _⟩ := i
    exact hg _ _ O
  · obtain ⟨lots, l0, a, b, e1, rfl, O, hl0, inv⟩ := i
    have inv := inv _ e
    have hx := hl x (by rw [e]; simp)
    obtain ⟨p1, p2⟩ := ends_ok ok hx
    have y : ∀ {v}, v < G.n → (lots.map nW)[v]? = some (nW (gn lots v)) := fun hv => by rw [List.getElem?_map, gn_at (by omega)]; rfl
    simp only [turnSt, go, idx_roads (ends_at hx), idx_ref (O.at 0 rfl) (y p1), idx_ref (O.at 0 rfl) (y p2)]
    unfold joinRun at inv
    obtain ⟨A, hA⟩ : ∃ A, gn lots (endsOf G x).1 = A := ⟨_, rfl⟩
    obtain ⟨B, hB⟩ : ∃ B, gn lots (endsOf G x).2 = B := ⟨_, rfl⟩
    rw [hA, hB] at inv
    simp only [hA, hB]
    by_cases c : A = B
    · simp only [c, decide_true, go]
      rw [if_pos c] at inv
      exact c1 inv _ _ O
    · simp only [c, decide_false, go, it_ref (O.at 0 rfl)]
      rw [if_neg c] at inv
      rw [sz_map (by omega)]
      simp only [go]
      rw [loopC_map nW (fun x => if x = A then B else x) (okG1 (O.at 0 rfl) (beqs_id beq_nat _)) fun u m => by
        simp only [WP.turnE, go]
        by_cases c3 : u = A
        · simp [c3, go]
        · simp [c3, go]]
      simp only [go]
      refine wp_alloc O fun q2 h2 O2 => ?_
      refine ⟨relab lots A B, q2, _, _, _, rfl, O2.sub (List.Sublist.cons_cons _ (List.nil_sublist _)), by rw [relab_length, hl0], fun r2 e2 => ?_⟩
      rw [e, List.append_assoc] at e2
      have e3 : t = r2 := (List.cons.inj (List.append_cancel_left e2)).2
      rw [inv, e3]
  · obtain ⟨lots, l0, a, b, e1, rfl, O, hl0, inv⟩ := i
    simp only [go]
    exact c2 lots l0 h1 (inv [] (List.append_nil _).symm) O
theorem r_joined {G : Web} (ok : G.Ok) {l : List Nat} (hl : ∀ r ∈ l, r < G.roads.length) {q : Nat} (hq : q < h.n) (g : h.get q = some (.lst (l.map nW))) {K : W → Hw → Prop}
    (c1 : joinRun G (List.range G.n) l = none → ∀ h' L, Own none h h' L → K .non h') (c2 : ∀ lots r h', joinRun G (List.range G.n) l = some lots → Own none h h' [(r, .lst (lots.map nW))] → K (.ref r) h') :
    wp (callF tb wf (k + 1) n__law_joined [webW G, .ref q] h) K := by
  rw [call_open (fn := f__law_joined) rfl rfl rfl rfl (by simp only [W.noRefs, W.noRef, Bool.false_and, Bool.and_false]), wp_runF]
  simp only [f__law_joined, go]
  have old : ∀ h' L, Own none h h' L → h'.get q = some (.lst (l.map nW)) := fun h' L O => O.old hq (fun p e => (nomatch e)) g
  exact joined_body ok hl nc_ref (fun h' L O => it_ref (old h' L O)) (fun h' L O => okG1 (old h' L O) (beqs_id beq_nat _)) c1 c2
theorem r_joined_t {G : Web} (ok : G.Ok) {l : List Nat} (hl : ∀ r ∈ l, r < G.roads.length) {K : W → Hw → Prop}
    (c1 : joinRun G (List.range G.n) l = none → K .non h) (c2 : ∀ lots r h', joinRun G (List.range G.n) l = some lots → Own none h h' [(r, .lst (lots.map nW))] → K (.ref r) h') :
    wp (callF tb wf (k + 1) n__law_joined [webW G, natsW l] h) K := by
  rw [call_closed (fn := f__law_joined) rfl rfl rfl rfl (nr_cons (nr_web G) (nr_cons (nr_nats l) rfl))]
  have key : wp (runF (callF tb wf k) wf f__law_joined [webW G, natsW l] Hw.nil) fun w g => (joinRun G (List.range G.n) l = none ∧ w = .non) ∨ ∃ lots r, joinRun G (List.range G.n) l = some lots ∧ w = .ref r ∧ Own none Hw.nil g [(r, .lst (lots.map nW))] := by
    rw [wp_runF]
    simp only [f__law_joined, go]
    exact joined_body ok hl rfl (fun _ _ _ => rfl) (fun _ _ _ => rfl) (fun e _ _ _ => .inl ⟨e, rfl⟩) fun lots r h' e O => .inr ⟨lots, r, e, rfl, O⟩
  obtain ⟨w, g, eq, z⟩ := wp_get key
  rw [eq]
  rcases z with ⟨e, rfl⟩ | ⟨lots, r, e, rfl, O⟩
  · exact c1 e
  · show K (.ref (r + h.n)) (h.app g g.n)
    have O2 := O.graft h
    simp only [List.map_cons, List.map_nil, HW.up, ups_id _ _ (noRefs_map (fun _ => rfl) lots : W.noRefs (lots.map nW) = true)] at O2
    rw [Nat.add_comm] at O2
    exact c2 lots _ _ e O2
/-- a drawn tree: each road that joins two lots -/
def greedy (G : Web) : List Nat → List Nat → List Nat
  | found, [] => found
  | found, r :: t => greedy G (if (joinRun G (List.range G.n) (found ++ [r])).isSome then found ++ [r] else found) t
theorem greedy_cons (G : Web) (found : List Nat) (r : Nat) (t : List Nat) : greedy G found (r :: t) = greedy G (if (joinRun G (List.range G.n) (found ++ [r])).isSome then found ++ [r] else found) t := rfl
theorem r_some_tree {p : Nat × Nat} {h0 : Hw} {L : List (Nat × HW)} (O : Own (some p) h0 h L) {G : Web} (ok : G.Ok) {K : W → Hw → Prop}
    (c : ∀ (l : List Nat) (h' : Hw), l.Perm (List.range G.roads.length) → Own (some p) h0 h' L → K (natsW (srt (greedy G [] l))) h') :
    wp (callF tb wf (k + 3) n__law_some_tree [.ref p.1, webW G] h) K := by
  have n2 := ok.2.2.1
  rw [call_open (fn := f__law_some_tree) rfl rfl rfl rfl (by simp only [W.noRefs, W.noRef, Bool.false_and]), wp_runF]
  simp only [f__law_some_tree, d__law_some_tree, go]
  refine wp_alloc O fun f h1 O => ?_
  rw [lrng1 (by omega)]
  refine wp_alloc O fun q h2 O => ?_
  refine r_mixed O List.mem_cons_self (by rw [List.length_range]; omega) fun mi h3 l pl O => ?_
  have hl : ∀ r ∈ l, r < G.roads.length := fun r m => List.mem_range.mp (pl.mem_iff.mp m)
  have ll : l.length = G.roads.length := by rw [pl.length_eq, List.length_range]
  simp only [go, it_ref (O.at 0 rfl)]
  have O := O.sub (L' := (mi, .lst (l.map nW)) :: (f, .lst (([] : List Nat).map nW)) :: L) (List.Sublist.cons_cons _ (List.Sublist.cons _ (List.Sublist.refl _)))
  obtain ⟨T, hT⟩ : ∃ T, greedy G [] l = T := ⟨_, rfl⟩
  refine wp_loopS (fun d s h => ∃ found a, s = [some (.ref p.1), some (webW G), some (.ref f), a] ∧ Own (some p) h0 h ((mi, .lst (l.map nW)) :: (f, .lst (found.map nW)) :: L) ∧ (∀ r ∈ found, r ∈ d) ∧ found.length ≤ d.length ∧ ∀ r, l = d ++ r → T = greedy G found r) l ⟨[], none, rfl, O, fun _ m => m, Nat.le_refl _, fun r e => by rw [← hT, e]; rfl⟩ (fun d s h i => ?_) (fun d x t e s h1 i => ?_) (fun s h1 i => ?_)
  · obtain ⟨_, _, _, O, _⟩ := i
    exact okG1 (O.at 0 rfl) (beqs_id beq_nat _)
  · obtain ⟨found, a, rfl, O, hf, hfl, inv⟩ := i
    have inv := inv _ e
    have hdl : d.length ≤ 1000 := by have := congrArg List.length e; rw [List.length_append] at this; omega
    simp only [turnSt, go]
    refine wp_alloc O fun q h2 O => ?_
    rw [cat_ref (O.at 2 rfl) (O.at 0 rfl) (by rw [List.length_map]; simp; omega)]
    refine wp_alloc O fun q2 h3 O => ?_
    have e1 : found.map nW ++ [nW x] = (found ++ [x]).map nW := by rw [List.map_append]; rfl
    rw [e1] at O
    have hf2 : ∀ r ∈ found ++ [x], r < G.roads.length := fun r m => by
      refine hl r ?_
      rw [e]
      rcases List.mem_append.mp m with m | m
      · exact List.mem_append_left _ (hf r m)
      · simp at m; subst m; simp
    have back : ∀ {h' L'}, Own none h3 h' L' → Own (some p) h0 h' ((mi, .lst (l.map nW)) :: (f, .lst (found.map nW)) :: L) := fun O' => (O.run0 O').sub ((List.nil_sublist _).append (List.Sublist.cons _ (List.Sublist.cons _ (List.Sublist.refl _))))
    refine r_joined ok hf2 (O.own _ List.mem_cons_self).2.1 (O.at 0 rfl) (fun ej h' L' O' => ?_) (fun lots r h' ej O' => ?_)
    · simp only [go]
      refine ⟨found, _, rfl, back O', fun r m => List.mem_append_left _ (hf r m), by rw [List.length_append]; omega, fun r2 e2 => ?_⟩
      rw [e, List.append_assoc] at e2
      have e3 : t = r2 := (List.cons.inj (List.append_cancel_left e2)).2
      rw [inv, ← e3, greedy_cons, ej]
      rfl
    · have O := back O'
      simp only [go, recv_lst (m := .append) (O.at 1 rfl)]
      rw [app_lst (O.at 1 rfl) (by rw [List.length_map]; omega)]
      have O := O.set 1 rfl (.lst (found.map nW ++ [nW x]))
      simp only [go]
      refine ⟨found ++ [x], _, rfl, by rw [← e1]; exact O, fun r m => ?_, by simp; omega, fun r2 e2 => ?_⟩
      · rcases List.mem_append.mp m with m | m
        · exact List.mem_append_left _ (hf r m)
        · exact List.mem_append_right _ m
      · rw [e, List.append_assoc] at e2
        have e3 : t = r2 := (List.cons.inj (List.append_cancel_left e2)).2
        rw [inv, ← e3, greedy_cons, ej]
        rfl
  · obtain ⟨found, a, rfl, O, hf, hfl, inv⟩ := i
    have inv := inv [] (List.append_nil _).symm
    simp only [go, sorted_ref (O.at 1 rfl)]
    refine wp_alloc O fun q h2 O => ?_
    simp only [tuple_ref (O.at 0 rfl), go]
    have z := c l h2 pl (O.sub (List.Sublist.cons _ (List.Sublist.cons _ (List.Sublist.cons _ (List.Sublist.refl _)))))
    rw [hT, inv] at z
    exact z
end
end Ik80
namespace Ik80
open PySem TL TL.WP
section
variable {k : Nat} {h : Hw}
def inR (G : Web) (x : Int) : Bool := decide (0 ≤ x ∧ x < (G.roads.length : Int))
def lawTree (G : Web) (t : List Int) : Bool := decide (t.length = G.n - 1) && (decide (sdup t = t) && (decide (t.filter (fun x => !inR G x) = []) && (joinRun G (List.range G.n) (t.map Int.toNat)).isSome))
theorem r_law_is_tree {G : Web} (ok : G.Ok) {t : List Int} (ht : t.length ≤ 60) : callF tb wf (k + 2) n__law_is_tree [webW G, intsW t] h = .ok (.bl (lawTree G t)) h := by
  have n0 := ok.1
  refine call_val (fn := f__law_is_tree) rfl rfl rfl rfl (nr_cons (nr_web G) (nr_cons (nr_ints t) rfl)) rfl ?_
  have ss : ∀ h, ssetOp (intsW t) h = alloc (.lst ((sdup t).map W.int)) h := fun h => by
    show (match intsOf (t.map W.int) with
    | some is => bif Nat.ble is.length 60 then R.ok (W.ref h.n) (h.new (.lst ((sdup is).map W.int))) else .err
    | none => .err) = _
    rw [intsOf_int]
    simp only
    rw [show Nat.ble t.length 60 = true from Nat.ble_eq_true_of_le ht]; rfl
  have li : ∀ h, biOp .list [intsW t] h = alloc (.lst (t.map W.int)) h := fun h => list_tup
  simp only [f__law_is_tree, d__law_is_tree, go, subN n0, ss, li]
  unfold lawTree
  by_cases c : t.length = G.n - 1
  · simp only [c, decide_true, Bool.not_true, go, Bool.true_and]
    refine wp_alloc (Own.start _) fun q1 h1 O => ?_
    refine wp_alloc O fun q2 h2 O => ?_
    rw [cmp_ne (eqW_lists (l := sdup t) (m := t) (O.at 1 rfl) (O.at 0 rfl))]
    by_cases c2 : sdup t = t
    · simp only [c2, decide_true, Bool.not_true, go, Bool.true_and]
      rw [sz_map (by omega)]
      simp only [go]
      rw [loopC_filter W.int id (fun x => !inR G x) okG0 fun x m => by
        simp only [WP.turnE, go, cmpI]
        unfold inR
        by_cases a : ((0 : Nat) : Int) ≤ x
        · have a' : (0 : Int) ≤ x := a
          simp only [a, a', decide_true, true_and, go]
          cases decide (x < (G.roads.length : Int)) <;> rfl
        · have a' : ¬ (0 : Int) ≤ x := a
          simp only [a, a', decide_false, false_and, go]
          rfl]
      simp only [go]
      refine wp_alloc O fun q3 h3 O => ?_
      refine wp_alloc O fun q4 h4 O => ?_
      rw [List.map_id] at O
      rw [cmp_eq (eqW_lists (l := t.filter fun x => !inR G x) (m := []) (O.at 1 rfl) (O.at 0 rfl))]
      by_cases c3 : t.filter (fun x => !inR G x) = []
      · simp only [c3, decide_true, go, Bool.true_and]
        have all : ∀ x ∈ t, inR G x = true := fun x m => by
          have := List.filter_eq_nil_iff.mp c3 x m
          simpa using this
        have e : intsW t = natsW (t.map Int.toNat) := by
          unfold intsW natsW
          rw [List.map_map]
          congr 1
          apply List.map_congr_left
          intro x m
          have := of_decide_eq_true (all x m)
          show W.int x = W.int (x.toNat : Int)
          rw [show (x.toNat : Int) = x by omega]
        rw [e]
        refine r_joined_t ok (fun r m => ?_) (fun ej => ?_) (fun lots r h' ej O' => ?_)
        · obtain ⟨x, mx, rfl⟩ := List.mem_map.mp m
          have := of_decide_eq_true (all x mx)
          omega
        · simp only [go, ej]
          rfl
        · simp only [go, ej]
          rfl
      · simp only [c3, decide_false, go, Bool.false_and]
    · simp only [c2, decide_false, Bool.not_false, go, Bool.false_and]
  · simp only [c, decide_false, Bool.not_false, go, Bool.false_and]
/-! the law's own table, burning, piles -/
theorem r_law_joins {G : Web} (ok : G.Ok) {K : W → Hw → Prop} (c : ∀ r rs h', rs.length = G.n → Own none h h' (matO G.n (jn G.roads) r rs) → K (.ref r) h') : wp (callF tb wf (k + 1) n__law_joins [webW G] h) K := by
  refine call_mat (fn := f__law_joins) (n := G.n) (F := jn G.roads) rfl rfl rfl rfl (nr_cons (nr_web G) rfl) ?_ c
  simp only [f__law_joins, d__law_joins, go, it_rng1 (k := G.n) (h := Hw.nil) (by have := ok.2.1; omega)]
  have n1 := ok.2.1
  rw [sz_rng n1, cond_true, wp_bind]
  refine wp_loopC (fun d ys h => ∃ rs : List Nat, ys = rs.map W.ref ∧ rs.length = d.length ∧ Own none Hw.nil h (rs.map fun r => (r, rowO G.n fun _ => 0))) ⟨[], rfl, rfl, Own.start _⟩ (fun _ _ _ _ => rfl) (fun d a t e ys h i => ?_) (fun ys h i => ?_)
  · obtain ⟨rs, rfl, hl, O⟩ := i
    simp only [WP.turnE, go]
    refine wp_alloc O fun r1 h1 O1 => ?_
    rw [rep_ref (O1.at 0 rfl) n1 (by decide : [nW 0].length ≤ 1000), rep_one]
    refine wp_alloc O1 fun r2 h2 O2 => ?_
    refine ⟨rs ++ [r2], by simp, by simp [hl], ?_⟩
    rw [rep_rng] at O2
    rw [List.map_append]
    exact ((O2.sub (List.Sublist.cons_cons _ (List.sublist_cons_self _ _))).perm (List.perm_append_comm (l₁ := [_])))
  · obtain ⟨rs, rfl, hl, O⟩ := i
    rw [List.length_range] at hl
    refine wp_alloc O fun r h1 O => ?_
    rw [rows_const] at O
    refine wp_loopS (fun d s h => ∃ a b c e L, s = [some (webW G), some (.ref r), a, b, c, e] ∧ Own none Hw.nil h (matO G.n (jn d) r rs ++ L)) G.roads ⟨none, none, none, none, [], rfl, by rw [List.append_nil]; exact O⟩ (fun _ _ _ _ => rfl) (fun d p t e s h i => ?_) (fun s h i => ?_)
    · obtain ⟨a, b, c1, d1, L, rfl, O⟩ := i
      obtain ⟨pv, pw⟩ := ok.2.2.2 p (by rw [e]; simp)
      obtain ⟨av, ev⟩ : ∃ a, rs[p.1]? = some a := ⟨_, List.getElem?_eq_getElem (by omega)⟩
      obtain ⟨aw, ew⟩ : ∃ a, rs[p.2]? = some a := ⟨_, List.getElem?_eq_getElem (by omega)⟩
      simp only [turnSt, go]
      by_cases c : p.1 = p.2
      · simp only [c, decide_true, Bool.not_true, go]
        refine wp_alloc O fun q h2 O => ?_
        simp only [it_ref (O.at 0 rfl), go]
        refine wp_loopS (emb := prW) (l := []) (fun d' s h => s = [some (webW G), some (.ref r), a, some (nW p.2), some (nW p.2), d1] ∧ Own none Hw.nil h ((q, HW.lst []) :: (matO G.n (jn d) r rs ++ L))) ⟨rfl, O⟩ (fun d' s h i => okG1 (i.2.at 0 rfl) rfl) (fun d' p' t' e' s h i => ?_) (fun s h i => ?_)
        · exact absurd e' (by simp)
        · obtain ⟨rfl, O⟩ := i
          simp only [go]
          refine ⟨_, _, _, _, L, rfl, ?_⟩
          rw [jn_one _ c]
          exact O.sub (List.sublist_cons_self _ _)
      · simp only [c, decide_false, Bool.not_false, go]
        refine wp_alloc O fun q h2 O => ?_
        simp only [it_ref (O.at 0 rfl), go]
        have O : Own none Hw.nil h2 (matO G.n (jn d) r rs ++ (q, HW.lst [.tup [nW p.1, nW p.2], .tup [nW p.2, nW p.1]]) :: L) := O.perm List.perm_middle.symm
        have gq : ∀ {h f}, Own none Hw.nil h (matO G.n f r rs ++ (q, HW.lst [.tup [nW p.1, nW p.2], .tup [nW p.2, nW p.1]]) :: L) → okG [(q, [.tup [nW p.1, nW p.2], .tup [nW p.2, nW p.1]])] h = true := fun O => okG1 ((O.own (q, _) (by simp)).2.2) (beqs_id (emb := prW) beq_pr [p, (p.2, p.1)])
        refine wp_loop_cons (gq O) ?_
        simp only [turnSt, go, O.idxRow ev, O.idxAt ev pw]
        obtain ⟨h2, e2, O⟩ := O.setAt ev pw (jn d p.1 p.2 + 1)
        rw [e2]
        simp only [go]
        refine wp_loop_cons (gq O) ?_
        simp only [turnSt, go, O.idxRow ew, O.idxAt ew pv]
        obtain ⟨h3, e3, O⟩ := O.setAt ew pv (updF (jn d) p.1 p.2 (jn d p.1 p.2 + 1) p.2 p.1 + 1)
        rw [e3]
        simp only [go]
        refine wp_loop_nil (gq O) ?_
        simp only [go]
        rw [jn_two _ c] at O
        exact ⟨_, _, _, _, _, rfl, O⟩
    · obtain ⟨a, b, c, e, L, rfl, O⟩ := i
      simp only [go]
      exact ⟨r, rs, L, rfl, hl, O⟩
end
end Ik80
namespace Ik80
open PySem TL TL.WP
section
variable {k : Nat} {h : Hw}
theorem row_sum {S : Option (Nat × Nat)} {h0 h : Hw} {L : List (Nat × HW)} {G : Web} {r v a : Nat} {rs : List Nat} (O : Own S h0 h (matO G.n (jn G.roads) r rs ++ L)) (e : rs[v]? = some a) : biOp .sum [.ref a] h = .ok (nW (ways G v)) h := by
  refine sum_ref (l := (List.range G.n).map fun w => jn G.roads v w) ?_
  rw [O.row e, rowO, List.map_map]; rfl
theorem r_law_is_steady {G : Web} (ok : G.Ok) {home : Nat} {p : List Int} (hp : p.length = G.n) : callF tb wf (k + 2) n__law_is_steady [webW G, nW home, intsW p] h = .ok (.bl (decide (unst G home p = []))) h := by
  have n1 := ok.2.1
  refine call_val (fn := f__law_is_steady) rfl rfl rfl rfl (nr_cons (nr_web G) (nr_cons rfl (nr_cons (nr_ints p) rfl))) rfl ?_
  simp only [f__law_is_steady, d__law_is_steady, go]
  refine r_law_joins ok fun r rs h1 hl O => ?_
  rw [← matO_nil] at O
  simp only [go, it_rng1 (k := G.n) (h := h1) (by omega)]
  rw [sz_rng n1]
  simp only [go]
  rw [loopC_filter nW id (fun v => (!decide (v = home)) && decide ((ways G v : Int) ≤ gi p v)) okG0 fun v m => by
    have hv := List.mem_range.mp m
    obtain ⟨a, ea⟩ : ∃ a, rs[v]? = some a := ⟨_, List.getElem?_eq_getElem (by omega)⟩
    simp only [WP.turnE, go]
    by_cases c : v = home
    · simp [c, go]
    · simp only [c, decide_false, Bool.not_false, go, idx_ints (gi_at (by omega : v < p.length)), O.idxRow ea, row_sum O ea, cmpI]
      cases decide ((ways G v : Int) ≤ gi p v) <;> rfl]
  simp only [go]
  refine wp_alloc O fun r1 h1 O1 => ?_
  refine wp_alloc O1 fun r2 h2 O2 => ?_
  rw [cmp_eq (eqW_nats (l := unst G home p) (m := []) (by rw [List.map_id] at O2; exact O2.at 1 rfl) (O2.at 0 rfl))]
  simp only [go]
theorem r_law_burnt {G : Web} (ok : G.Ok) {home : Nat} (hh : home < G.n) {p : List Int} (hp : p.length = G.n) {K : W → Hw → Prop} (c : ∀ r h', Own none h h' [(r, .lst ((burn G home p).map nW))] → K (.ref r) h') : wp (callF tb wf (k + 3) n__law_burnt [webW G, nW home, intsW p] h) K := by
  have n1 := ok.2.1
  refine call_lst (fn := f__law_burnt) rfl rfl rfl rfl (nr_cons (nr_web G) (nr_cons rfl (nr_cons (nr_ints p) rfl))) (noRefs_map (fun _ => rfl) _) ?_ c
  simp only [f__law_burnt, d__law_burnt, go]
  refine r_law_joins ok fun r rs h1 hl O => ?_
  refine wp_alloc O fun f h2 O => ?_
  refine wp_alloc O fun l h3 O => ?_
  refine wp_whl (fun k s h => ∃ found late f l x, s = [some (webW G), some (nW home), some (intsW p), some (.ref r), some (.ref f), some (.ref l), x, none, none] ∧ Own none Hw.nil h ((l, .lst (late.map nW)) :: (f, .lst (found.map nW)) :: matO G.n (jn G.roads) r rs) ∧
    burnL G p k found late = burn G home p ∧ (late ≠ [] → G.n < found.length + k) ∧ found.Nodup ∧ ∀ x ∈ found, x < G.n) G.n (by show G.n < 100000; omega) ⟨[home], [home], f, l, none, rfl, O, rfl, fun _ => by simp, by simp, fun x m => by simp at m; omega⟩ (fun k s h i => ?_)
  obtain ⟨found, late, f, l, x, rfl, O, hb, hk, nd, hf⟩ := i
  have fl := nodup_len nd hf
  simp only [go]
  refine wp_alloc O fun e h1 O1 => ?_
  rw [cmp_ne (eqW_nats (l := late) (m := []) (O1.at 1 rfl) (O1.at 0 rfl))]
  simp only [go]
  by_cases c : late = []
  · simp only [c, decide_true, Bool.not_true, go]
    have : found = burn G home p := by
      rw [← hb, c]
      cases k <;> rfl
    rw [this] at O1
    exact ⟨f, _, rfl, O1.sub (List.Sublist.cons _ (List.Sublist.cons _ (List.Sublist.refl _)))⟩
  · simp only [c, decide_false, Bool.not_false, go]
    have hk := hk c
    obtain ⟨m, rfl⟩ : ∃ m, k = m + 1 := ⟨k - 1, by omega⟩
    refine ⟨m, rfl, ?_⟩
    simp only [it_rng1 (k := G.n) (h := h1) (by omega), go]
    rw [sz_rng n1]
    simp only [go]
    rw [loopC_filter nW id (fun v => !decide (v ∈ found)) okG0 fun v m => by
      simp only [WP.turnE, go, cmp_notin (in_list (O1.at 2 rfl))]
      cases decide (v ∈ found) <;> rfl]
    simp only [go]
    refine wp_alloc O1 fun q h2 O2 => ?_
    rw [List.map_id] at O2
    simp only [it_ref (O2.at 0 rfl), go]
    rw [sz_map (by have := List.length_filter_le (fun v => !decide (v ∈ found)) (List.range G.n); rw [List.length_range] at this; omega)]
    simp only [go]
    refine wp_loopC_own nW (fun v => bif decide ((ways G v : Int) ≤ gi p v + (rto G v found : Nat)) then some v else none) O2 (fun h O => okG1 (O.at 0 rfl) (beqs_id beq_nat _)) (fun v m h O => ?_) (fun h O => ?_)
    · have hv := List.mem_range.mp (List.mem_filter.mp m).1
      obtain ⟨a, ea⟩ : ∃ a, rs[v]? = some a := ⟨_, List.getElem?_eq_getElem (by omega)⟩
      have OM := O.sub (L' := matO G.n (jn G.roads) r rs ++ []) (by rw [List.append_nil]; exact List.Sublist.cons _ (List.Sublist.cons _ (List.Sublist.cons _ (List.Sublist.cons _ (List.Sublist.refl _)))))
      simp only [WP.turnE, go, idx_ints (gi_at (by omega : v < p.length)), it_ref (O.at 3 rfl)]
      rw [sz_map (by omega)]
      simp only [go]
      rw [loopC_map nW (fun w => jn G.roads v w) (okG1 (O.at 3 rfl) (beqs_id beq_nat _)) fun w m => by simp only [WP.turnE, go, OM.idxRow ea, OM.idxAt ea (hf w m)]]
      simp only [go]
      refine wp_alloc O fun z h5 Oz => ?_
      have OM := Oz.sub (L' := matO G.n (jn G.roads) r rs ++ []) (by rw [List.append_nil]; exact List.Sublist.cons _ (List.Sublist.cons _ (List.Sublist.cons _ (List.Sublist.cons _ (List.Sublist.cons _ (List.Sublist.refl _))))))
      have es : biOp .sum [.ref z] h5 = .ok (nW (rto G v found)) h5 := sum_ref (Oz.at 0 rfl)
      simp only [es, go, addI, OM.idxRow ea, row_sum OM ea, cmpI]
      cases decide ((ways G v : Int) ≤ gi p v + (rto G v found : Nat))
      · exact ⟨rfl, [_], Oz⟩
      · exact ⟨rfl, [_], Oz⟩
    · refine wp_alloc O fun l2 h3 O3 => ?_
      have e2 : (((List.range G.n).filter fun v => !decide (v ∈ found)).filterMap fun v => bif decide ((ways G v : Int) ≤ gi p v + (rto G v found : Nat)) then some v else none) = burnS G p found := by
        rw [fm_bif (fun v => v)]
        exact List.map_id _
      rw [e2] at O3
      simp only [go]
      rw [cat_ref (O3.at 4 rfl) (O3.at 0 rfl) (by
        rw [List.length_map, List.length_map]
        have := nodup_len (burnS_nodup G p found) fun x m => (burnS_mem.mp m).1.1
        omega)]
      refine wp_alloc O3 fun f2 h4 O4 => ?_
      rw [← List.map_append] at O4
      refine ⟨found ++ burnS G p found, burnS G p found, f2, l2, _, rfl, ?_, ?_, fun z => ?_, ?_, fun x m => ?_⟩
      · refine (O4.sub (L' := (f2, .lst ((found ++ burnS G p found).map nW)) :: (l2, .lst ((burnS G p found).map nW)) :: matO G.n (jn G.roads) r rs) ?_).perm (List.Perm.swap _ _ _)
        exact List.Sublist.cons_cons _ (List.Sublist.cons_cons _ (List.Sublist.cons _ (List.Sublist.cons _ (List.Sublist.cons _ (List.Sublist.cons _ (List.Sublist.refl _))))))
      · rw [← hb]
        show _ = if late = [] then found else _
        rw [if_neg c]
      · have : 0 < (burnS G p found).length := List.length_pos_iff.mpr z
        rw [List.length_append]
        omega
      · exact List.nodup_append.mpr ⟨nd, burnS_nodup G p found, fun a ha b hb e => (burnS_mem.mp hb).1.2 (e ▸ ha)⟩
      · rcases List.mem_append.mp m with m | m
        · exact hf x m
        · exact (burnS_mem.mp m).1.1
theorem r_law_comes {G : Web} (ok : G.Ok) {home : Nat} (hh : home < G.n) {p : List Int} (hp : p.length = G.n) : callF tb wf (k + 4) n__law_comes [webW G, nW home, intsW p] h = .ok (.bl (comes G home p)) h := by
  refine call_val (fn := f__law_comes) rfl rfl rfl rfl (nr_cons (nr_web G) (nr_cons rfl (nr_cons (nr_ints p) rfl))) rfl ?_
  simp only [f__law_comes, d__law_comes, go, r_law_is_steady ok hp]
  unfold comes
  by_cases c : unst G home p = []
  · simp only [c, decide_true, go, Bool.true_and]
    refine r_law_burnt ok hh hp fun r h1 O => ?_
    simp only [go, len_ref (O.at 0 rfl), List.length_map]
  · simp only [c, decide_false, go, Bool.false_and]
theorem ways_le (G : Web) (v : Nat) : ways G v ≤ G.roads.length := jn_row v G.n G.roads
end
end Ik80
namespace Ik80
open PySem TL TL.WP
section
variable {k : Nat} {h : Hw}
theorem call_c {f : Nat} {fn : Fn} {ws cs : List W} {L : List W → List W → Hw → R W} (e : tb[f]? = some fn) (hl : Nat.beq (ws.length + 1) fn.np = true) (h1 : fn.lam.isNone = true) (h2 : fn.clo = true) : (callF tb wf (k + 1)).c f ws cs L h = runC (callF tb wf k) wf fn ws cs L h := by
  show (match tb[f]? with
      | some fn => bif Nat.beq (ws.length + 1) fn.np && (fn.lam.isNone && fn.clo) then runC (callF tb wf k) wf fn ws cs L h else .err
      | none => .err) = _
  rw [e]
  simp only [hl, h1, h2]
  rfl
theorem wp_runC {C : CT} {fn : Fn} {ws cs : List W} {L : List W → List W → Hw → R W} {K : W → Hw → Prop} : wp (runC C wf fn ws cs L h) K = wp (exL (C.with L) wf fn.body ((ws ++ [W.clo cs]).map some ++ List.replicate (fn.ns - fn.np) none) h) (outK K) := by
  unfold runC
  rw [wp_bind]
  congr 1
  funext p h1
  unfold outK
  obtain ⟨s, fl⟩ := p
  cases fl <;> rfl
def cntL (n : Nat) (hi : Hist) : List Nat := (List.range n).map (cntOf hi)
theorem withV {C : CT} {v : List W → List W → Hw → R W} : (C.with v).v = v := rfl
theorem cntL_at {n : Nat} {hi : Hist} {a : Nat} (ha : a < n) : ((cntL n hi).map nW)[a]? = some (nW (cntOf hi a)) := by
  unfold cntL
  rw [List.getElem?_map, List.getElem?_map, List.getElem?_range ha]; rfl
theorem cntL_step {n : Nat} {hi : Hist} {r a : Nat} {b : Bool} : (cntL n hi).set a (cntOf hi a + 1) = cntL n (hi ++ [(r, a, b)]) := by
  unfold cntL
  rw [set_range]
  apply List.map_congr_left
  intro v _
  rw [cntOf_app]
  by_cases e : v = a
  · subst e; simp
  · have : ¬ a = v := fun z => e z.symm
    simp [e, this]
theorem beq_road (x : Nat × Nat × Bool) : (roadW x).beq (roadW x) = true := by
  obtain ⟨a, b, c⟩ := x
  cases c <;> simp [W.beq, W.beqs, roadW]
theorem r_law_by_numbers {G : Web} (ok : G.Ok) {home : Nat} (hh : home < G.n) {F : Nat → Nat → Nat → Bool} {cs : List W} {L : List W → List W → Hw → R W} (hL : ∀ r a c h' L', Own none h h' L' → a < G.n → L cs [nW r, nW a, nW c] h' = .ok (.bl (F r a c)) h')
    {K : W → Hw → Prop} (c : ∀ f t h', Own none h h' [(f, .lst ((runH (ruleN G home) F G.roads.length []).map roadW)), (t, .lst ((cntL G.n (runH (ruleN G home) F G.roads.length [])).map nW))] → K (.tup [.ref f, .ref t]) h') :
    wp ((callF tb wf (k + 1)).c n__law_by_numbers [webW G, nW home] cs L h) K := by
  have n1 := ok.2.1
  have n2 := ok.2.2.1
  rw [call_c (fn := f__law_by_numbers) rfl rfl rfl rfl, wp_runC]
  simp only [f__law_by_numbers, d__law_by_numbers, List.cons_append, List.nil_append, go]
  refine wp_alloc (Own.start _) fun li h1 O => ?_
  refine wp_alloc O fun fo h2 O => ?_
  refine wp_alloc O fun q h3 O => ?_
  simp only [go, rep_ref (O.at 0 rfl) n1 (by decide : [nW 0].length ≤ 1000), rep_one]
  refine wp_alloc O fun tr h4 O => ?_
  have z0 : List.replicate G.n (nW 0) = (cntL G.n []).map nW := by
    unfold cntL
    rw [rep_rng, List.map_map]
    apply List.map_congr_left
    intro v _
    simp [cntOf]
  rw [z0] at O
  rw [sz_map (by rw [List.length_zipIdx]; omega)]
  simp only [go]
  have O : Own none h h4 [(tr, .lst ((cntL G.n []).map nW)), (fo, .lst (([] : Hist).map roadW)), (li, .lst ((litOf home []).map nW))] := O.sub (List.Sublist.cons_cons _ (List.Sublist.cons _ (List.Sublist.refl _)))
  rw [loopC_filter nW Prod.snd (isDue G (litOf home []) (metOf [])) okG0 fun q m => by
    simp only [WP.turnE, go, cmp_in (in_list (O.at 2 rfl))]
    unfold isDue metOf
    simp only [List.map_nil, List.not_mem_nil, decide_false, Bool.not_false, Bool.true_and]
    cases (!(decide (q.1.1 ∈ litOf home []) == decide (q.1.2 ∈ litOf home []))) <;> rfl]
  simp only [go]
  refine wp_alloc O fun so h5 O => ?_
  obtain ⟨H, hH⟩ : ∃ H, runH (ruleN G home) F G.roads.length [] = H := ⟨_, rfl⟩
  rw [hH] at c
  refine wp_whl (fun k s h1 => ∃ hi li fo tr so a b c1 d e f g i, s = [some (webW G), some (nW home), some (.clo cs), some (.ref li), some (.ref fo), some (.ref tr), some (.ref so), a, b, c1, d, e, f, g, i] ∧
    Own none h h1 [(so, .lst ((dueN G home hi).map nW)), (tr, .lst ((cntL G.n hi).map nW)), (fo, .lst (hi.map roadW)), (li, .lst ((litOf home hi).map nW))] ∧
    HOk G home hi ∧ hi.length + k = G.roads.length ∧ runH (ruleN G home) F (G.roads.length - hi.length) hi = H) G.roads.length (by show _ < 100000; omega)
    ⟨[], li, fo, tr, so, none, none, none, none, none, none, none, none, rfl, O, HOk.nil, by simp, hH⟩ (fun k s h1 i => ?_)
  obtain ⟨hi, li, fo, tr, so, a0, b0, c0, d0, e0, f0, g0, i0, rfl, O, hok, hk, hrun⟩ := i
  simp only [go]
  refine wp_alloc O fun e1 h2 O => ?_
  rw [cmp_ne (eqW_nats (l := dueN G home hi) (m := []) (O.at 1 rfl) (O.at 0 rfl))]
  have hlen := hok.len
  cases hdue : dueN G home hi with
  | nil =>
    simp only [decide_true, Bool.not_true, go]
    have hru : ruleN G home hi = none := by unfold ruleN; rw [hdue]
    rw [runH_none hru] at hrun
    subst hrun
    exact c _ _ _ ((O.sub (L' := [(tr, _), (fo, _)]) (List.Sublist.cons _ (List.Sublist.cons _ (List.Sublist.cons_cons _ (List.Sublist.cons_cons _ (List.nil_sublist _)))))).perm (List.Perm.swap _ _ _))
  | cons r D2 =>
    rw [hdue] at O
    have hr1 := due_ok (G := G) (home := home) (hi := hi) (r := r) (by rw [hdue]; exact List.mem_cons_self)
    obtain ⟨a1, a2⟩ := atOf_ok ok hr1.1 hr1.2.2
    have hru : ruleN G home hi = some (r, atOf G (litOf home hi) r) := by unfold ruleN; rw [hdue]
    obtain ⟨a, ha⟩ : ∃ a, atOf G (litOf home hi) r = a := ⟨_, rfl⟩
    rw [ha] at a1 a2 hru
    obtain ⟨B, hB⟩ : ∃ B, F r a (cntOf hi a + 1) = B := ⟨_, rfl⟩
    have hok2 := hok.step B hr1.1 hr1.2.1 a1 a2
    have hl2 := hok2.len
    rw [List.length_append, List.length_singleton] at hl2
    have hrun2 : runH (ruleN G home) F (G.roads.length - (hi.length + 1)) (hi ++ [(r, a, B)]) = H := by
      rw [← hrun, show G.roads.length - hi.length = (G.roads.length - (hi.length + 1)) + 1 by omega, runH_some hru]
      unfold stepH
      rw [hB]
    obtain ⟨m, rfl⟩ : ∃ m, k = m + 1 := ⟨k - 1, by omega⟩
    simp only [decide_false, Bool.not_false, go, reduceCtorEq]
    refine ⟨m, rfl, ?_⟩
    simp only [idx_ref (k := 0) (xs := (r :: D2).map nW) (w := nW r) (O.at 1 rfl) rfl, go, idx_roads (ends_at hr1.1)]
    -- the crossing that is not lit
    have two : ((iterOf .seq [prW (endsOf G r)] h2)) = some ([(endsOf G r).1, (endsOf G r).2].map nW, []) := rfl
    have flt : [(endsOf G r).1, (endsOf G r).2].filter (fun v => !decide (v ∈ litOf home hi)) = [a] := by
      rw [← ha]
      unfold atOf
      have hd := hr1.2.2
      by_cases x : (endsOf G r).1 ∈ litOf home hi
      · have y : (endsOf G r).2 ∉ litOf home hi := fun y => hd ⟨fun _ => y, fun _ => x⟩
        simp [x, y]
      · have y : (endsOf G r).2 ∈ litOf home hi := Classical.byContradiction fun y => hd ⟨fun z => absurd z x, fun z => absurd z y⟩
        simp [x, y]
    rw [show ([nW (endsOf G r).1, nW (endsOf G r).2] : List W) = [(endsOf G r).1, (endsOf G r).2].map nW from rfl, loopC_filter (l := [(endsOf G r).1, (endsOf G r).2]) nW id (fun v => !decide (v ∈ litOf home hi)) okG0 fun v m => by
      simp only [WP.turnE, go, cmp_notin (in_list (O.at 4 rfl))]
      cases decide (v ∈ litOf home hi) <;> rfl]
    rw [flt]
    simp only [go]
    refine wp_alloc O fun e2 h3 O => ?_
    rw [idx_ref (k := 0) (w := nW a) (O.at 0 rfl) rfl]
    simp only [go, idx_ref (k := a) (O.at 3 rfl) (cntL_at a2)]
    rw [set_lst (k := a) (O.at 3 rfl) (by unfold cntL; rw [List.length_map, List.length_map, List.length_range]; exact a2)]
    have O := O.set 3 rfl (.lst (((cntL G.n hi).map nW).set a (nW (cntOf hi a + 1))))
    rw [← List.map_set, cntL_step (r := r) (b := B)] at O ⊢
    generalize h3.set tr _ = h4 at O ⊢
    have ca : cntOf (hi ++ [(r, a, B)]) a = cntOf hi a + 1 := by rw [cntOf_app]; simp
    have O : Own none h h4 ((e2, .lst ([a].map nW)) :: (e1, .lst []) :: (so, .lst ((r :: D2).map nW)) :: (tr, .lst ((cntL G.n (hi ++ [(r, a, B)])).map nW)) :: [(fo, .lst (hi.map roadW)), (li, .lst ((litOf home hi).map nW))]) := O
    have gi : ((cntL G.n (hi ++ [(r, a, B)])).map nW)[a]? = some (nW (cntOf hi a + 1)) := by rw [cntL_at a2, ca]
    simp only [go, cloOf, List.getElem?_cons_succ, List.getElem?_cons_zero, idx_ref (k := a) (O.at 3 rfl) gi, withV]
    rw [hL r a (cntOf hi a + 1) h4 _ O a2, hB]
    simp only [go, recv_lst (m := .append) (O.at 4 rfl)]
    have fin : ∀ (li' : Nat) (h5 : Hw) (L' : List (Nat × HW)) (e0 : Option W), Own none h h5 ((li', .lst ((litOf home (hi ++ [(r, a, B)])).map nW)) :: (fo, .lst ((hi ++ [(r, a, B)]).map roadW)) :: (tr, .lst ((cntL G.n (hi ++ [(r, a, B)])).map nW)) :: L') →
        wp (exL ((callF tb wf k).with L) wf [(.set 13 (.comp (.var 14) (.tp [(.nm 14), (.nm 11)]) .seq [(.var 4)] [] [14, 11])), (.set 6 (.comp (.var 7) (.tp [(.nm 7), (.nm 8)]) .enm [(.idx (.var 0) (.int 1))] [(.and [(.cmp .notin (.var 7) (.var 13)), (.cmp .ne (.cmp .isin (.idx (.var 8) (.int 0)) (.var 3)) (.cmp .isin (.idx (.var 8) (.int 1)) (.var 3)))])] [7, 8]))]
          [some (webW G), some (nW home), some (.clo cs), some (.ref li'), some (.ref fo), some (.ref tr), some (.ref so), a0, b0, some (nW r), some (nW a), e0, some (.bl B), g0, i0] h5)
        (loopK (fun s h1 => ∃ hi li fo tr so a b c1 d e f g i, s = [some (webW G), some (nW home), some (.clo cs), some (.ref li), some (.ref fo), some (.ref tr), some (.ref so), a, b, c1, d, e, f, g, i] ∧
          Own none h h1 [(so, .lst ((dueN G home hi).map nW)), (tr, .lst ((cntL G.n hi).map nW)), (fo, .lst (hi.map roadW)), (li, .lst ((litOf home hi).map nW))] ∧
          HOk G home hi ∧ hi.length + m = G.roads.length ∧ runH (ruleN G home) F (G.roads.length - hi.length) hi = H) fun _ _ => True) := by
      intro li' h5 L' e0 O
      have asr : ∀ (x : Nat × Nat × Bool) (ts : List Tg) (s : TL.Env) (h : Hw), asg (.tp ts) (roadW x) s h = asgs ts [nW x.1, bif x.2.2 then nW x.2.1 else .non] s h := fun _ _ _ _ => rfl
      simp only [go, it_ref (O.at 1 rfl)]
      rw [sz_map (by rw [List.length_append, List.length_singleton]; omega)]
      simp only [go]
      rw [loopC_map nW (fun x : Nat × Nat × Bool => x.1) (okG1 (O.at 1 rfl) (beqs_id beq_road _)) fun x _ => by simp only [WP.turnE, asr, go]]
      simp only [go]
      refine wp_alloc O fun me h6 O => ?_
      rw [sz_map (by rw [List.length_zipIdx]; omega)]
      simp only [go]
      rw [loopC_filter nW Prod.snd (isDue G (litOf home (hi ++ [(r, a, B)])) (metOf (hi ++ [(r, a, B)]))) okG0 fun q _ => by
        have gm : h6.get me = some (.lst ((metOf (hi ++ [(r, a, B)])).map nW)) := O.at 0 rfl
        simp only [WP.turnE, go, cmp_notin (in_list gm), cmp_in (in_list (O.at 1 rfl))]
        unfold isDue
        cases decide (q.2 ∈ metOf (hi ++ [(r, a, B)]))
        · simp only [Bool.not_false, go, Bool.true_and]
          cases (!(decide (q.1.1 ∈ litOf home (hi ++ [(r, a, B)])) == decide (q.1.2 ∈ litOf home (hi ++ [(r, a, B)])))) <;> rfl
        · rfl]
      simp only [go]
      refine wp_alloc O fun so2 h7 O => ?_
      refine ⟨hi ++ [(r, a, B)], li', fo, tr, so2, _, _, _, _, _, _, _, _, rfl, ?_, hok2, by rw [List.length_append, List.length_singleton]; omega, by rw [List.length_append, List.length_singleton]; exact hrun2⟩
      refine (O.sub (L' := [(so2, _), (li', _), (fo, _), (tr, _)]) (List.Sublist.cons_cons _ (List.Sublist.cons _ (List.Sublist.cons_cons _ (List.Sublist.cons_cons _ (List.Sublist.cons_cons _ (List.nil_sublist _))))))).perm ?_
      exact (List.Perm.cons _ ((List.perm_append_comm (l₁ := [_])).trans ((List.Perm.swap _ _ _).trans (List.Perm.refl _))))
    have hl := litOf_app home hi (r, a, B)
    have e9 : hi.map roadW ++ [roadW (r, a, B)] = (hi ++ [(r, a, B)]).map roadW := by rw [List.map_append]; rfl
    cases B with
    | false =>
      simp only [go]
      rw [app_lst (w := .tup [nW r, .non]) (O.at 4 rfl) (by rw [List.length_map]; omega)]
      have e9 : hi.map roadW ++ [.tup [nW r, .non]] = (hi ++ [(r, a, false)]).map roadW := e9
      have O := O.set 4 rfl (.lst (hi.map roadW ++ [.tup [nW r, .non]]))
      rw [e9] at O ⊢
      generalize h4.set fo _ = h5 at O ⊢
      have O : Own none h h5 ((li, .lst ((litOf home (hi ++ [(r, a, false)])).map nW)) :: (fo, .lst ((hi ++ [(r, a, false)]).map roadW)) :: (tr, .lst ((cntL G.n (hi ++ [(r, a, false)])).map nW)) :: []) := by
        rw [hl]
        exact (O.sub (L' := [(tr, _), (fo, _), (li, _)]) (List.Sublist.cons _ (List.Sublist.cons _ (List.Sublist.cons _ (List.Sublist.refl _))))).perm (((List.perm_append_comm (l₁ := [_, _]) (l₂ := [_]))).trans (List.Perm.cons _ (List.Perm.swap _ _ _)))
      have z := fin li h5 [] e0 O
      simp only [go] at z ⊢
      exact z
    | true =>
      simp only [go]
      rw [app_lst (w := .tup [nW r, nW a]) (O.at 4 rfl) (by rw [List.length_map]; omega)]
      have e9 : hi.map roadW ++ [.tup [nW r, nW a]] = (hi ++ [(r, a, true)]).map roadW := e9
      have O := O.set 4 rfl (.lst (hi.map roadW ++ [.tup [nW r, nW a]]))
      rw [e9] at O ⊢
      generalize h4.set fo _ = h5 at O ⊢
      simp only [go]
      refine wp_alloc O fun q2 h6 O => ?_
      rw [cat_ref (O.at 6 rfl) (O.at 0 rfl) (by rw [List.length_map]; have := nodup_len hok.lit (hok.litLt hh); simp; omega)]
      refine wp_alloc O fun li2 h7 O => ?_
      have e8 : (litOf home hi).map nW ++ [nW a] = (litOf home (hi ++ [(r, a, true)])).map nW := by rw [hl]; simp
      rw [e8] at O
      have O : Own none h h7 ((li2, .lst ((litOf home (hi ++ [(r, a, true)])).map nW)) :: (fo, .lst ((hi ++ [(r, a, true)]).map roadW)) :: (tr, .lst ((cntL G.n (hi ++ [(r, a, true)])).map nW)) :: []) :=
        (O.sub (L' := [(li2, _), (tr, _), (fo, _)]) (List.Sublist.cons_cons _ (List.Sublist.cons _ (List.Sublist.cons _ (List.Sublist.cons _ (List.Sublist.cons _ (List.Sublist.cons_cons _ (List.Sublist.cons_cons _ (List.nil_sublist _))))))))).perm (List.Perm.cons _ (List.Perm.swap _ _ _))
      have z := fin li2 h7 [] e0 O
      simp only [go] at z ⊢
      exact z
end
end Ik80
namespace Ik80
open PySem TL TL.WP
section
variable {k : Nat} {h : Hw}
theorem r_law_pile {p : Nat × Nat} {h0 : Hw} {L : List (Nat × HW)} (O : Own (some p) h0 h L) {G : Web} (ok : G.Ok) (n2 : G.roads.length ≤ 40) {home way : Nat} (hw : way < 3) {K : W → Hw → Prop}
    (c : ∀ (pile : List Nat) (h' : Hw), pile.length = G.n → (∀ x ∈ pile, x ≤ 40) → (∀ v, v = home → gn pile v = 0) → Own (some p) h0 h' L → K (natsW pile) h') :
    wp (callF tb wf (k + 2) n__law_pile [.ref p.1, webW G, nW home, nW way] h) K := by
  have n1 := ok.2.1
  rw [call_open (fn := f__law_pile) rfl rfl rfl rfl (by simp only [W.noRefs, W.noRef, Bool.false_and]), wp_runF]
  simp only [f__law_pile, d__law_pile, go]
  refine r_law_joins ok fun r rs h1 hl Oj => ?_
  simp only [it_ref (Oj.at 0 rfl), go]
  rw [sz_map (by omega)]
  simp only [go]
  rw [rowSums (L := []) (by rw [List.append_nil]; exact Oj) hl fun a v _ e => by simp only [WP.turnE, go, e]]
  simp only [go]
  refine wp_alloc (O.run0 Oj) fun wy h2 O => ?_
  refine wp_alloc O fun fo h3 O => ?_
  have O : Own (some p) h0 h3 ((fo, .lst (([] : List Nat).map nW)) :: (wy, .lst ((waysL G).map nW)) :: L) := O.sub (List.Sublist.cons_cons _ (List.Sublist.cons_cons _ (List.sublist_append_right _ _)))
  have wl : (waysL G).length = G.n := by unfold waysL; rw [List.length_map, List.length_range]
  have gw : h3.get wy = some (.lst ((waysL G).map nW)) := O.at 1 rfl
  simp only [it_enm_ref gw, enums_map, go]
  refine wp_loopS (fun d s h => ∃ (pl : List Nat) (a b c : Option W), s = [some (.ref p.1), some (webW G), some (nW home), some (nW way), some (.ref wy), none, some (.ref fo), a, b, c] ∧ pl.length = d.length ∧ (∀ x ∈ pl, x ≤ 40) ∧ (∀ v, v = home → gn pl v = 0) ∧ Own (some p) h0 h ((fo, .lst (pl.map nW)) :: (wy, .lst ((waysL G).map nW)) :: L)) (waysL G).zipIdx ⟨[], none, none, none, rfl, rfl, fun _ m => (nomatch m), fun _ _ => rfl, O⟩ (fun d s h i => ?_) (fun d q t e s h i => ?_) (fun s h i => ?_)
  · obtain ⟨_, _, _, _, _, _, _, _, O⟩ := i
    exact okG1 (O.at 1 rfl) (beqs_id beq_nat _)
  · obtain ⟨pl, a, b, c1, rfl, hp, hx, hh, O⟩ := i
    obtain ⟨many, v⟩ := q
    have ev := zip_at (l := waysL G) (q := (many, v)) (by rw [e]; simp)
    have hv : v < G.n := by rw [← wl]; exact (List.getElem?_eq_some_iff.mp ev).1
    rw [waysL_at hv] at ev
    obtain rfl := Option.some.inj ev
    have hvd : v = d.length := by
      have z : (waysL G).zipIdx[d.length]? = some (ways G v, v) := by rw [e]; simp
      rw [List.getElem?_zipIdx] at z
      cases y : (waysL G)[d.length]? with
      | none => rw [y] at z; cases z
      | some y2 => rw [y] at z; simp at z; omega
    have wle := ways_le G v
    simp only [turnSt, go, evs2]
    refine r_pick O (by omega) (by omega) fun x1 h4 hx1 O => ?_
    try simp only [go, evs2]
    have sub2 : ∀ (a : Nat) (h : Hw), binOp .sub (nW (ways G v)) (nW 1) h = .ok (.int ((ways G v : Int) - ((1 : Nat) : Int))) h := fun _ _ => rfl
    rw [sub2 0]
    try simp only [go]
    refine r_pick O (by decide) (by decide) fun x2 h5 hx2 O => ?_
    obtain ⟨y2, ey2, hy2⟩ : ∃ y2 : Nat, biOp .max2 [nW 0, .int (((ways G v : Int) - ((1 : Nat) : Int)) - (x2 : Int))] h5 = .ok (nW y2) h5 ∧ y2 ≤ 40 := by
      refine ⟨(((ways G v : Int) - ((1 : Nat) : Int)) - (x2 : Int)).toNat, ?_, by omega⟩
      show R.ok (W.int (if (((ways G v : Int) - ((1 : Nat) : Int)) - (x2 : Int)) > ((0 : Nat) : Int) then (((ways G v : Int) - ((1 : Nat) : Int)) - (x2 : Int)) else ((0 : Nat) : Int))) h5 = _
      congr 2
      split <;> omega
    simp only [subI, go, ey2]
    refine r_pick O (by decide) (by decide) fun x3 h6 hx3 O => ?_
    refine wp_alloc O fun on h7 O => ?_
    obtain ⟨val, eval, hval⟩ : ∃ val, ([nW x1, nW y2, nW x3] : List W)[way]? = some (nW val) ∧ val ≤ 40 := by
      rcases (show way = 0 ∨ way = 1 ∨ way = 2 by omega) with rfl | rfl | rfl
      · exact ⟨x1, rfl, by omega⟩
      · exact ⟨y2, rfl, hy2⟩
      · exact ⟨x3, rfl, by omega⟩
    have mw : min way 2 = way := by omega
    simp only [go, evs2, mw, idx_ref (k := way) (O.at 0 rfl) eval, recv_lst (m := .append) (O.at 1 rfl)]
    have w3 : way < 3 := hw
    have fin : ∀ x, x ≤ 40 → (v = home → x = 0) → ∀ h8, h8 = h7.set fo (.lst (pl.map nW ++ [nW x])) → ∃ (pl' : List Nat) (a b c : Option W), [some (.ref p.1), some (webW G), some (nW home), some (nW way), some (.ref wy), none, some (.ref fo), some (nW v), some (nW (ways G v)), some (nW val)] = [some (.ref p.1), some (webW G), some (nW home), some (nW way), some (.ref wy), none, some (.ref fo), a, b, c] ∧ pl'.length = (d ++ [(ways G v, v)]).length ∧ (∀ x ∈ pl', x ≤ 40) ∧ (∀ v, v = home → gn pl' v = 0) ∧ Own (some p) h0 h8 ((fo, .lst (pl'.map nW)) :: (wy, .lst ((waysL G).map nW)) :: L) := by
      intro x hx0 hx00 h8 e8
      subst e8
      have O := O.set 1 rfl (.lst (pl.map nW ++ [nW x]))
      refine ⟨pl ++ [x], _, _, _, rfl, by simp [hp], fun y m => ?_, fun u hu => ?_, ?_⟩
      · rcases List.mem_append.mp m with m | m
        · exact hx y m
        · simp at m; omega
      · unfold gn
        rw [List.getD_eq_getElem?_getD]
        by_cases cu : u < pl.length
        · rw [List.getElem?_append_left cu]
          have := hh u hu
          unfold gn at this
          rw [List.getD_eq_getElem?_getD] at this
          exact this
        · rw [List.getElem?_append_right (by omega)]
          by_cases c2 : u = pl.length
          · rw [c2, Nat.sub_self]
            exact hx00 (by omega)
          · rw [List.getElem?_eq_none (by simp; omega)]; rfl
      · rw [List.map_append]
        exact O.sub (List.sublist_cons_self _ _)
    by_cases cv : v = home
    · simp only [cv, decide_true, go]
      rw [app_lst (O.at 1 rfl) (by rw [List.length_map, hp]; have := congrArg List.length e; rw [List.length_zipIdx, wl, List.length_append] at this; omega)]
      simp only [go]
      have z := fin 0 (by omega) (fun _ => rfl) _ rfl
      rw [cv] at z
      exact z
    · simp only [cv, w3, decide_true, decide_false, go]
      rw [app_lst (O.at 1 rfl) (by rw [List.length_map, hp]; have := congrArg List.length e; rw [List.length_zipIdx, wl, List.length_append] at this; omega)]
      simp only [go]
      exact fin val hval (fun z => absurd z cv) _ rfl
  · obtain ⟨pl, a, b, c1, rfl, hp, hx, hh, O⟩ := i
    rw [List.length_zipIdx, wl] at hp
    simp only [go, tuple_ref (O.at 0 rfl)]
    exact c pl h hp hx hh (O.sub (List.Sublist.cons _ (List.Sublist.cons _ (List.Sublist.refl _))))
end
end Ik80
namespace Ik80
open PySem TL TL.WP
section
variable {k : Nat} {h : Hw}
theorem cals :
    (∀ (C : CT) (s : TL.Env) (h : Hw) (f : Nat) (es : List Ex) (np : Nat) (caps : List Nat) (body : Ex), evE C (.callC f es np caps body) s h = (evL C es s h).bind fun ws h1 => match optAll (caps.map (slotV s)) with
      | some cs => C.c f ws cs (fun cs us h2 => bif Nat.beq us.length np then evE C body (us.map some ++ cs.map some) h2 else .err) h1
      | none => .err) ∧
    (∀ (C : CT) (s : TL.Env) (h : Hw) (f : Nat) (es : List Ex) (g : Nat) (es2 : List Ex), evE C (.callM f es g es2) s h = (evL C es s h).bind fun ws h1 => (evL C es2 s h1).bind fun us h2 => (C.m g us h2).bind fun p h3 => C.c f ws p.1 p.2 h3) ∧
    (∀ α : Type, optAll ([] : List (Option α)) = some []) ∧
    (∀ (α : Type) (a : α) (r : List (Option α)), optAll (some a :: r) = match optAll r with | some as => some (a :: as) | none => none) :=
  ⟨fun _ _ _ _ _ _ _ _ => rfl, fun _ _ _ _ _ _ _ => rfl, fun _ => rfl, fun _ _ _ => rfl⟩
/-- what is called is refused -/
theorem r_is_refused {cs : List W} {L : List W → List W → Hw → R W} (e : L cs [] h = .exc 0 [] h) : (callF tb wf (k + 1)).c n__law_is_refused [] cs L h = .ok (.bl true) h := by
  rw [call_c (fn := f__law_is_refused) rfl rfl rfl rfl]
  unfold runC
  have e1 : evE ((callF tb wf k).with L) (.callv 0 []) [some (.clo cs)] h = .exc 0 [] h := by
    simp only [evs, cloOf, List.getElem?_cons_zero, withV]
    exact e
  have e2 : exS ((callF tb wf k).with L) wf (.tryR (.callv 0 []) false [0] (.bl true)) [some (.clo cs)] h = .ok ([some (.clo cs)], .rt (.bl true)) h := by
    simp only [exS, e1]
    rfl
  show (exL ((callF tb wf k).with L) wf [(.tryR (.callv 0 []) false [0] (.bl true)), (.ret (.bl false))] [some (.clo cs)] h).bind outF = _
  simp only [exL, e2, R.bind]
  rfl
theorem call_m {f : Nat} {fn : Fn} {ws : List W} (e : tb[f]? = some fn) (hl : Nat.beq ws.length fn.np = true) : (callF tb wf (k + 1)).m f ws h = runM (callF tb wf k) wf fn ws h := by
  show (match tb[f]? with
      | some fn => bif Nat.beq ws.length fn.np then runM (callF tb wf k) wf fn ws h else .err
      | none => .err) = _
  rw [e]
  simp only [hl]
  rfl
theorem gi_due {G : Web} {p : List Int} {a : Nat} (ha : a < G.n) : gi (dueP G p) a = (ways G a : Int) - gi p a := by
  unfold dueP gi
  rw [List.getD_eq_getElem?_getD, List.getElem?_map, List.getElem?_range ha]; rfl
theorem r_lights {G : Web} (ok : G.Ok) {p : List Int} (hp : p.length = G.n) {K : List W × (List W → List W → Hw → R W) → Hw → Prop}
    (c : ∀ cs L h' L', Own none h h' L' → (∀ r a c h'' L'', Own none h' h'' L'' → a < G.n → L cs [nW r, nW a, nW c] h'' = .ok (.bl (lightsP none (dueP G p) r a c)) h'') → K (cs, L) h') :
    wp ((callF tb wf (k + 2)).m n__law_lights [webW G, intsW p] h) K := by
  rw [call_m (fn := f__law_lights) rfl rfl]
  have n1 := ok.2.1
  show wp ((exL (callF tb wf (k + 1)) wf d__law_lights [some (webW G), some (intsW p), none, none] h).bind (outM (callF tb wf (k + 1)) 3 [2, 1] (.cmp .eq (.var 2) (.bin .sub (.idx (.var 3) (.var 1)) (.idx (.var 4) (.var 1)))))) K
  rw [wp_bind]
  simp only [d__law_lights, go]
  refine r_law_joins ok fun r rs h1 hl Oj => ?_
  simp only [it_ref (Oj.at 0 rfl), go]
  rw [sz_map (by omega)]
  simp only [go]
  rw [rowSums (L := []) (by rw [List.append_nil]; exact Oj) hl fun a v _ e => by simp only [WP.turnE, go, e]]
  simp only [go]
  refine wp_alloc Oj fun wy h2 O => ?_
  simp only [outM, capsOf, go, cals]
  refine c _ _ _ _ O fun r a c h3 L3 O3 ha => ?_
  have gw : h3.get wy = some (.lst ((waysL G).map nW)) := O3.old (O.own _ List.mem_cons_self).2.1 (fun p e => (nomatch e)) (O.at 0 rfl)
  have e1 : ((waysL G).map nW)[a]? = some (nW (ways G a)) := by rw [List.getElem?_map, waysL_at ha]; rfl
  simp only [List.length_cons, List.length_nil, Nat.reduceAdd, Nat.beq, go, idx_ref (k := a) gw e1, idx_ints (gi_at (by omega : a < p.length)), subI, cmpI]
  unfold lightsP
  simp only [gi_due ha]
  congr 3
  simp only [eq_iff_iff]
  omega
end
end Ik80
namespace Ik80
open PySem TL TL.WP
section
variable {k : Nat} {h : Hw}
def roadD (x : Nat × Nat × Bool) : PyData := .tuple [.int (x.1 : Int), bif x.2.2 then .int (x.2.1 : Int) else .none]
theorem toD_road (f : Nat) (x : Nat × Nat × Bool) : toD (f + 2) h (roadW x) = some (roadD x) := by
  obtain ⟨a, b, c⟩ := x
  cases c <;> rfl
theorem dat_roads {r : Nat} {l : Hist} (g : h.get r = some (.lst (l.map roadW))) : dat h (.ref r) = some (.list (l.map roadD)) :=
  dat_ref g (by rw [List.map_map]; exact optAll_map (fun a => toD_road 37 a) l)
theorem tny_road {x : Nat × Nat × Bool} (h1 : x.1 < 64) (h2 : x.2.1 < 64) : Tny 1 (roadD x) := by
  refine .tup (by simp) fun d m => ?_
  simp only [List.mem_cons, List.not_mem_nil, or_false] at m
  rcases m with rfl | rfl
  · exact .int 0 h1
  · cases x.2.2
    · exact .non 0
    · exact .int 0 h2
theorem tny_roads {l : Hist} (hl : l.length ≤ 100) (h : ∀ x ∈ l, x.1 < 64 ∧ x.2.1 < 64) (n : Nat) : Tny (n + 2) (.list (l.map roadD)) := by
  have up : ∀ n x, x ∈ l → Tny (n + 1) (roadD x) := fun n x m => by
    refine .tup (by simp) fun d m2 => ?_
    simp only [List.mem_cons, List.not_mem_nil, or_false] at m2
    rcases m2 with rfl | rfl
    · exact .int n (h x m).1
    · cases x.2.2
      · exact .non n
      · exact .int n (h x m).2
  refine .lst (by rw [List.length_map]; exact hl) fun d m => ?_
  obtain ⟨x, mx, rfl⟩ := List.mem_map.mp m
  exact up n x mx
def natD (l : List Nat) : PyData := .tuple (l.map fun k : Nat => PyData.int (k : Int))
theorem toD_tnats (f : Nat) (l : List Nat) : toD (f + 2) h (natsW l) = some (natD l) := by
  have e := toD_nats (h := h) f l
  show toD (f + 2) h (.tup (l.map nW)) = _
  simp only [toD, e]
  rfl
theorem tny_tnats {l : List Nat} (hl : l.length ≤ 100) (h : ∀ x ∈ l, x < 64) (n : Nat) : Tny (n + 1) (natD l) := by
  refine .tup (by rw [List.length_map]; exact hl) fun d m => ?_
  obtain ⟨x, mx, rfl⟩ := List.mem_map.mp m
  exact .int n (h x mx)
theorem nats_ints2 (l : List Nat) : natsW l = intsW (l.map fun k : Nat => (k : Int)) := by
  unfold natsW intsW
  rw [List.map_map]; rfl
def castL (l : List Nat) : List Int := l.map fun k : Nat => (k : Int)
theorem nonloop_le (G : Web) : (G.roads.zipIdx.filter fun q => !decide (q.1.1 = q.1.2)).length ≤ G.roads.length := by
  have := List.length_filter_le (fun q : (Nat × Nat) × Nat => !decide (q.1.1 = q.1.2)) G.roads.zipIdx
  rw [List.length_zipIdx] at this
  exact this
def nonl (G : Web) : Nat := (G.roads.zipIdx.filter fun q => !decide (q.1.1 = q.1.2)).length
theorem r_pile_right {G : Web} (ok : G.Ok) (n1 : G.n ≤ 40) (n2 : G.roads.length ≤ 40) {home : Nat} (hh : home < G.n) {pile : List Nat} (hp : pile.length = G.n) (hb : ∀ x ∈ pile, x < 64)
    (math : comes G home (castL pile) = true → ∀ H, H = triesP G home (castL pile) → (∀ x ∈ H, x.1 < G.roads.length ∧ x.2.1 < G.n) ∧ H.length ≤ nonl G ∧ levelP G home (castL pile) = ((nonl G - H.length : Nat) : Int) ∧
      treeB G (castL (srt (litR H))) = true ∧ (∀ x ∈ triesT G home (castL (srt (litR H))), x.2.1 < G.n) ∧ pileT G home (triesT G home (castL (srt (litR H)))) = castL pile) :
    callF tb wf (k + 8) n__law_pile_right [webW G, nW home, natsW pile] h = .ok (.bl true) h := by
  have hpi : (castL pile).length = G.n := by unfold castL; rw [List.length_map]; exact hp
  have e0 : natsW pile = intsW (castL pile) := nats_ints2 pile
  rw [e0]
  refine call_val (fn := f__law_pile_right) rfl rfl rfl rfl (nr_cons (nr_web G) (nr_cons rfl (nr_cons (nr_ints _) rfl))) rfl ?_
  simp only [f__law_pile_right, d__law_pile_right, go, r_law_comes ok hh hpi]
  cases hc : comes G home (castL pile) with
  | false =>
    simp only [go, Bool.not_false, cals]
    rw [r_is_refused (by simp only [List.length_nil, Nat.beq, go, x_tree_of_pile ok hh hpi hc])]
    simp only [go, Bool.not_true, cals]
    rw [r_is_refused (by simp only [List.length_nil, Nat.beq, go, x_level ok hh hpi hc])]
    simp only [go, Bool.not_true, cals]
    rw [r_is_refused (by simp only [List.length_nil, Nat.beq, go, x_tried_roads ok hh hpi hc])]
    simp only [go]
  | true =>
    obtain ⟨hH, hlen, hlev, htree, hat, hpile⟩ := math hc _ rfl
    simp only [go, Bool.not_true, cals]
    refine r_lights ok hpi fun cs L h1 L1 O1 hL => ?_
    simp only [go]
    refine r_law_by_numbers ok hh (F := lightsP none (dueP G (castL pile))) hL fun f t h2 O2 => ?_
    have O := O1.run0 O2
    have O := O.sub (L' := [(f, .lst ((triesP G home (castL pile)).map roadW))]) (List.Sublist.cons_cons _ (List.nil_sublist _))
    obtain ⟨H, eH⟩ : ∃ H, triesP G home (castL pile) = H := ⟨_, rfl⟩
    rw [eH] at O hH hlen hlev htree hat hpile
    have hl : H.length ≤ 40 := by have := nonloop_le G; unfold nonl at hlen; omega
    simp only [go, it_ref (O.at 0 rfl)]
    rw [sz_map (by omega)]
    simp only [go]
    have asr : ∀ (x : Nat × Nat × Bool) (ts : List Tg) (s : TL.Env) (h : Hw), asg (.tp ts) (roadW x) s h = asgs ts [nW x.1, bif x.2.2 then nW x.2.1 else .non] s h := fun _ _ _ _ => rfl
    rw [loopC_filter nW (fun x : Nat × Nat × Bool => x.1) (fun x => x.2.2) (okG1 (O.at 0 rfl) (beqs_id beq_road _)) fun x _ => by
      simp only [WP.turnE, asr, go]
      obtain ⟨a, b, c⟩ := x
      cases c <;> rfl]
    simp only [go]
    refine wp_alloc O fun q h3 O => ?_
    rw [sorted_ref (l := litR H) (O.at 0 rfl)]
    refine wp_alloc O fun q2 h4 O => ?_
    rw [tuple_ref (O.at 0 rfl)]
    rw [show W.tup ((srt (litR H)).map nW) = natsW (srt (litR H)) from rfl]
    obtain ⟨T, hT⟩ : ∃ T, srt (litR H) = T := ⟨_, rfl⟩
    rw [hT] at htree hat hpile ⊢
    have O := O.sub (L' := [(f, .lst (H.map roadW))]) (List.Sublist.cons _ (List.Sublist.cons _ (List.Sublist.refl _)))
    have hTlit : ∀ x ∈ T, x < 64 := fun x m => by
      rw [← hT] at m
      have m := (srt_perm _).mem_iff.mp m
      unfold litR at m
      obtain ⟨y, my, rfl⟩ := List.mem_map.mp m
      have := (hH y (List.mem_filter.mp my).1).1
      omega
    have hTlen : T.length ≤ 100 := by
      rw [← hT, (srt_perm _).length_eq]
      unfold litR
      rw [List.length_map]
      have := List.length_filter_le (fun x : Nat × Nat × Bool => x.2.2) H
      omega
    have tH : Tny 3 (.list (H.map roadD)) := tny_roads (by omega) (fun x m => by have := hH x m; omega) 1
    simp only [go, it_rng1 (k := 2) (h := h4) (by decide)]
    refine wp_loopS (fun d s h => ∃ a b L, s = [some (webW G), some (nW home), some (intsW (castL pile)), some (.ref f), some (natsW T), none, none, a, b, none, none, none, none] ∧ Own none Hw.nil h ((f, .lst (H.map roadW)) :: L)) (List.range 2) ⟨none, none, [], rfl, O⟩ (fun _ _ _ _ => rfl) (fun d x l e s h i => ?_) (fun s h i => ?_)
    · obtain ⟨a, b, L, rfl, O⟩ := i
      simp only [turnSt, go]
      refine r_tried_roads ok hh hpi hc fun r h5 Or => ?_
      rw [eH] at Or
      have O := O.run0 Or
      have gr : h5.get r = some (.lst (H.map roadW)) := O.at 0 rfl
      have gf : h5.get f = some (.lst (H.map roadW)) := O.at 1 rfl
      have iL : biOp (.isinst 4) [.ref r] h5 = .ok (.bl true) h5 := by simp only [biOp, isT, gr]; rfl
      simp only [go, iL, Bool.not_true, repr_ok tH (dat_roads gr), repr_ok tH (dat_roads gf), cmp_ne (eqS tH), recv_lst (m := .append) gr]
      rw [app_lst gr (by rw [List.length_map]; omega)]
      have O := O.set 0 rfl (.lst (H.map roadW ++ [.non]))
      simp only [go]
      exact ⟨_, _, _, rfl, O.perm (List.Perm.swap _ _ _)⟩
    · obtain ⟨a, b, L, rfl, O⟩ := i
      simp only [go]
      rw [sz_map (by rw [List.length_zipIdx]; omega)]
      simp only [go]
      rw [loopC_filter nW Prod.snd (fun q : (Nat × Nat) × Nat => !decide (q.1.1 = q.1.2)) okG0 fun q _ => by
        simp only [WP.turnE, go]
        cases decide (q.1.1 = q.1.2) <;> rfl]
      simp only [go]
      refine wp_alloc O fun q h5 O => ?_
      have gq : h5.get q = _ := O.at 0 rfl
      have gf : h5.get f = some (.lst (H.map roadW)) := O.at 1 rfl
      have lq : biOp .len [.ref q] h5 = .ok (nW (nonl G)) h5 := by rw [len_ref gq]; unfold nonl; rw [List.length_map, List.length_map]
      have lf : biOp .len [.ref f] h5 = .ok (nW H.length) h5 := by rw [len_ref gf, List.length_map]
      have nle := nonloop_le G
      have tl : Tny 3 (.int ((nonl G - H.length : Nat) : Int)) := .int 3 (by unfold nonl; omega)
      have dl : ∀ h, dat h (nW (nonl G - H.length)) = some (.int ((nonl G - H.length : Nat) : Int)) := fun _ => rfl
      simp only [go, r_level ok hh hpi hc, hlev, lq, lf, subN hlen, repr_ok tl (dl _), cmp_ne (eqS tl), Bool.not_true]
      have pt : ∀ h, callF tb wf (k + 7) 21 [webW G, nW home, natsW T, .str "numbers"] h = .ok (natsW pile) h := fun h => by
        have := r_pile_of_tree (k := k + 2) (h := h) ok hh (t := castL T) (by unfold castL; rw [List.length_map]; omega) htree hat
        rw [hpile] at this
        rw [e0, nats_ints2 T]
        exact this
      have tp : ∀ h, callF tb wf (k + 7) 20 [webW G, nW home, intsW (castL pile), .str "numbers"] h = .ok (natsW T) h := fun h => by
        have := r_tree_of_pile (k := k + 1) (h := h) ok hh hpi hc
        rw [eH, hT] at this
        exact this
      simp only [tp, go, pt]
      have tb3 : Tny 3 (.list [natD T, natD pile]) := by
        refine .lst (by simp) fun d m => ?_
        simp only [List.mem_cons, List.not_mem_nil, or_false] at m
        rcases m with rfl | rfl
        · exact tny_tnats hTlen hTlit 1
        · exact tny_tnats (by omega) hb 1
      have d1 : ∀ h r, h.get r = some (.lst [natsW T, natsW pile]) → dat h (.ref r) = some (.list [natD T, natD pile]) := fun h r g => dat_ref g (by
        simp only [List.map_cons, List.map_nil, toD_tnats 37]
        rfl)
      refine wp_alloc O fun b1 h6 O => ?_
      simp only [go, repr_ok tb3 (d1 h6 b1 (O.at 0 rfl))]
      refine wp_alloc O fun b2 h7 O => ?_
      rw [← e0] at O
      rw [repr_ok tb3 (d1 h7 b2 (O.at 0 rfl))]
      simp only [go, cmp_eq (eqS tb3)]
end
end Ik80
namespace Ik80
open PySem TL TL.WP
/-- what the mathematics says -/
structure Math : Prop where
  tree : ∀ (G : Web) (l : List Nat), WOk G → l.Perm (List.range G.roads.length) → treeB G (castL (srt (greedy G [] l))) = true ∧ (∀ x ∈ srt (greedy G [] l), x < G.roads.length) ∧
    ∀ home, home < G.n → ∀ H, H = runH (ruleN G home) (fun r _ _ => decide (r ∈ srt (greedy G [] l))) G.roads.length [] →
      (∀ x ∈ H, x.1 < G.roads.length ∧ x.2.1 < G.n) ∧ (∀ v, v < G.n → cntOf H v ≤ ways G v) ∧ cntOf H home = 0 ∧ comes G home (pileT G home H) = true ∧ triesP G home (pileT G home H) = H
  right : ∀ (G : Web) (home : Nat) (pile : List Nat), WOk G → home < G.n → pile.length = G.n → gn pile home = 0 → comes G home (castL pile) = true → ∀ H, H = triesP G home (castL pile) → (∀ x ∈ H, x.1 < G.roads.length ∧ x.2.1 < G.n) ∧ H.length ≤ nonl G ∧ levelP G home (castL pile) = ((nonl G - H.length : Nat) : Int) ∧
      treeB G (castL (srt (litR H))) = true ∧ (∀ x ∈ triesT G home (castL (srt (litR H))), x.2.1 < G.n) ∧ pileT G home (triesT G home (castL (srt (litR H)))) = castL pile
  odd : ∀ (G : Web) (t : List Int), lawTree G t = false → treeB G t = false
section
variable {k : Nat} {h : Hw}
def prD (p : Nat × Nat) : PyData := .tuple [.int (p.1 : Int), .int (p.2 : Int)]
def webD (G : Web) : PyData := .tuple [.int (G.n : Int), .tuple (G.roads.map prD), .tuple (G.turns.map natD)]
theorem dat_web (G : Web) : dat h (webW G) = some (webD G) := by
  have e1 : optAll ((G.roads.map prW).map (toD 38 h)) = some (G.roads.map prD) := by rw [List.map_map]; exact optAll_map (fun a => rfl) _
  have e2 : optAll ((G.turns.map natsW).map (toD 38 h)) = some (G.turns.map natD) := by rw [List.map_map]; exact optAll_map (fun a => toD_tnats 36 a) _
  have f1 : toD 39 h (roadsW G.roads) = some (.tuple (G.roads.map prD)) := by unfold roadsW; simp only [toD, e1]
  have f2 : toD 39 h (turnsW G.turns) = some (.tuple (G.turns.map natD)) := by unfold turnsW; simp only [toD, e2]
  show toD 40 h (.tup [nW G.n, roadsW G.roads, turnsW G.turns]) = _
  have f0 : toD 39 h (nW G.n) = some (.int (G.n : Int)) := rfl
  simp only [toD, List.map_cons, List.map_nil, f0, f1, f2, optAll]
  rfl
theorem tny_web {G : Web} (o : WOk G) (h1 : G.n ≤ 40) (h2 : G.roads.length ≤ 30) : Tny 3 (webD G) := by
  refine .tup (by simp) fun d m => ?_
  simp only [List.mem_cons, List.not_mem_nil, or_false] at m
  rcases m with rfl | rfl | rfl
  · exact .int 2 (by omega)
  · refine .tup (by rw [List.length_map]; omega) fun d m => ?_
    obtain ⟨p, mp, rfl⟩ := List.mem_map.mp m
    have := o.road p mp
    refine .tup (by simp) fun d m => ?_
    simp only [List.mem_cons, List.not_mem_nil, or_false] at m
    rcases m with rfl | rfl
    · exact .int 0 (by omega)
    · exact .int 0 (by omega)
  · refine .tup (by rw [List.length_map, o.tl]; omega) fun d m => ?_
    obtain ⟨t, mt, rfl⟩ := List.mem_map.mp m
    obtain ⟨v, ev⟩ := List.getElem?_of_mem mt
    have lt := o.turnLt mt
    have := nodup_len (l := t) (n := 2 * G.roads.length) ((o.turn _ _ ev).nodup_iff.mpr (List.nodup_range.filter _)) lt
    exact tny_tnats (by omega) (fun x mx => by have := lt x mx; omega) 0
def lapI (p : Nat × Nat) (h0 : Hw) (ns : List Int) (s : TL.Env) (h : Hw) : Prop := ∃ (x2 x3 x4 x5 x6 x7 x9 x10 x11 x12 x13 x15 : Option W), s = [some (.frl (ns.map W.int)), some (.ref p.1), x2, x3, x4, x5, x6, x7, none, x9, x10, x11, x12, x13, none, x15] ∧ Own (some p) h0 h []
def lapB : List St := match d_law with
  | [_, .loop _ _ _ b, _] => b
  | _ => []
def turnB : List St := match lapB with
  | [_, _, _, .loop _ _ _ b, _] => b
  | _ => []
def turnI (p : Nat × Nat) (h0 : Hw) (ns : List Int) (lap cr : Nat) (G : Web) (home wy : Nat) (s : TL.Env) (h : Hw) : Prop := ∃ (x9 x10 x11 x12 x13 x15 : Option W), s = [some (.frl (ns.map W.int)), some (.ref p.1), some (nW lap), some (nW cr), some (webW G), some (nW home), some (.ref wy), some (.str (webD G).shown), none, x9, x10, x11, x12, x13, none, x15] ∧ Own (some p) h0 h [(wy, .lst ((waysL G).map nW))]
theorem r_law_turn (M : Math) {p : Nat × Nat} {h0 : Hw} {ns : List Int} {lap cr : Nat} {G : Web} (o : WOk G) (n1 : G.n ≤ 20) (n2 : G.roads.length ≤ 28) {home wy : Nat} (hh : home < G.n) (O : Own (some p) h0 h [(wy, .lst ((waysL G).map nW))]) (x9 x10 x11 x12 x13 x15 : Option W) {Q : TL.Env × Fl → Hw → Prop} :
    wp (exL (callF tb wf (k + 12)) wf turnB [some (.frl (ns.map W.int)), some (.ref p.1), some (nW lap), some (nW cr), some (webW G), some (nW home), some (.ref wy), some (.str (webD G).shown), none, x9, x10, x11, x12, x13, none, x15] h) (loopK (turnI p h0 ns lap cr G home wy) Q) := by
  have ok := o.ok (by omega) (by omega)
  simp only [turnB, lapB, d_law, go]
  refine r_some_tree O ok fun l h1 pl O => ?_
  obtain ⟨m1, m2, m3⟩ := M.tree G l o pl
  obtain ⟨T, hT⟩ : ∃ T, srt (greedy G [] l) = T := ⟨_, rfl⟩
  rw [hT] at m1 m2 m3 ⊢
  have hTl : T.length ≤ 20 := by
    have := of_decide_eq_true (Bool.and_eq_true_iff.mp m1).1
    unfold castL at this
    rw [List.length_map] at this
    omega
  simp only [go, cals]
  refine r_law_by_numbers ok hh (F := fun r _ _ => decide (r ∈ T)) (fun r a c h' L' _ _ => by
    simp only [List.length_cons, List.length_nil, Nat.reduceAdd, Nat.beq, go, frm, cmp_in in_nats]) fun f t h2 O2 => ?_
  obtain ⟨H, hH⟩ : ∃ H, runH (ruleN G home) (fun r _ _ => decide (r ∈ T)) G.roads.length [] = H := ⟨_, rfl⟩
  rw [hH] at O2
  obtain ⟨q1, q2, q3, q4, q5⟩ := m3 home hh H hH.symm
  have O := O.run0 O2
  have O : Own (some p) h0 h2 [(f, .lst (H.map roadW)), (t, .lst ((cntL G.n H).map nW)), (wy, .lst ((waysL G).map nW))] := O
  simp only [go, it_rng1 (k := G.n) (h := h2) (by omega)]
  rw [sz_rng (by omega)]
  simp only [go]
  rw [loopC_map W.int (fun v => (if v = home then 0 else (ways G v : Int)) - (cntOf H v : Int)) okG0 fun v m => by
    have hv := List.mem_range.mp m
    have ew : ((waysL G).map nW)[v]? = some (nW (ways G v)) := by rw [List.getElem?_map, waysL_at hv]; rfl
    simp only [WP.turnE, go]
    by_cases c : v = home
    · simp only [c, decide_true, go, q3, if_true]
      rfl
    · simp only [c, decide_false, go, if_false, idx_ref (k := v) (O.at 2 rfl) ew, idx_ref (k := v) (O.at 1 rfl) (cntL_at hv), subI]]
  simp only [go]
  refine wp_alloc O fun pq h3 O => ?_
  rw [tuple_ref (O.at 0 rfl)]
  rw [show W.tup (((List.range G.n).map fun v => (if v = home then 0 else (ways G v : Int)) - (cntOf H v : Int)).map W.int) = intsW (pileT G home H) from rfl]
  obtain ⟨P, hP, hPl, hPh, hPb⟩ : ∃ P : List Nat, castL P = pileT G home H ∧ P.length = G.n ∧ gn P home = 0 ∧ ∀ x ∈ P, x < 64 := by
    refine ⟨(List.range G.n).map fun v => if v = home then 0 else ways G v - cntOf H v, ?_, by simp, ?_, fun x m => ?_⟩
    · unfold castL pileT
      rw [List.map_map]
      apply List.map_congr_left
      intro v mv
      have hv := List.mem_range.mp mv
      have := q2 v hv
      simp only [Function.comp]
      by_cases c : v = home
      · subst c; simp [q3]
      · simp only [c, if_false]; omega
    · unfold gn
      rw [List.getD_eq_getElem?_getD, List.getElem?_map, List.getElem?_range hh]; simp
    · obtain ⟨v, _, rfl⟩ := List.mem_map.mp m
      have := ways_le G v
      split <;> omega
  have hpl : (pileT G home H).length = G.n := by rw [← hP]; unfold castL; rw [List.length_map]; exact hPl
  have O := O.sub (L' := [(f, .lst (H.map roadW)), (wy, .lst ((waysL G).map nW))]) (List.Sublist.cons _ (List.Sublist.cons_cons _ (List.Sublist.cons _ (List.Sublist.cons_cons _ (List.nil_sublist _)))))
  have hHl : H.length ≤ 28 := by
    have := run_len (rule := ruleN G home) (F := fun r _ _ => decide (r ∈ T)) G.roads.length []
    rw [hH] at this
    simp at this
    omega
  have tH : Tny 3 (.list (H.map roadD)) := tny_roads (by omega) (fun x m => by have := q1 x m; omega) 1
  simp only [go, r_law_comes ok hh hpl, q4, Bool.not_true, cals]
  refine r_lights ok hpl fun cs L h4 L1 O1 hL => ?_
  simp only [go]
  refine r_law_by_numbers ok hh (F := lightsP none (dueP G (pileT G home H))) hL fun f2 t2 h5 O2 => ?_
  rw [show runH (ruleN G home) (lightsP none (dueP G (pileT G home H))) G.roads.length [] = H from q5] at O2
  have O := (O.run0 O1).run0 O2
  have O := O.sub (L' := (f2, .lst (H.map roadW)) :: [(f, .lst (H.map roadW)), (wy, .lst ((waysL G).map nW))]) (List.Sublist.cons_cons _ (List.Sublist.cons _ (List.sublist_append_right _ _)))
  simp only [go, cmp_ne (eqW_same tH (dat_roads (O.at 0 rfl)) (dat_roads (O.at 1 rfl))), Bool.not_true]
  have eT : natsW T = intsW (castL T) := nats_ints2 T
  have eP : intsW (pileT G home H) = natsW P := by rw [← hP]; exact (nats_ints2 P).symm
  have tT : triesT G home (castL T) = H := by
    rw [← hH]
    unfold triesT
    congr 1
    funext r a c
    show decide ((r : Int) ∈ castL T) = decide (r ∈ T)
    unfold castL
    rw [decide_eq_decide, List.mem_map]
    exact ⟨fun ⟨x, hx, e⟩ => by rw [show r = x by omega]; exact hx, fun hx => ⟨r, hx, rfl⟩⟩
  have pt : ∀ h, callF tb wf (k + 12) 21 [webW G, nW home, natsW T, .str "numbers"] h = .ok (natsW P) h := fun h => by
    have := r_pile_of_tree (k := k + 7) (h := h) ok hh (t := castL T) (by unfold castL; rw [List.length_map]; omega) m1 (by rw [tT]; exact fun x m => (q1 x m).2)
    rw [tT, eP] at this
    rw [eT]
    exact this
  have tP : Tny 3 (natD P) := tny_tnats (by omega) hPb 2
  have dP : ∀ h, dat h (natsW P) = some (natD P) := fun h => toD_tnats 38 P
  have pr : ∀ (pile : List Nat) (h : Hw), pile.length = G.n → (∀ x ∈ pile, x < 64) → gn pile home = 0 → callF tb wf (k + 12) 45 [webW G, nW home, natsW pile] h = .ok (.bl true) h := fun pile h a b c =>
    r_pile_right (k := k + 4) (h := h) ok (by omega) (by omega) hh a b fun hc H' e => M.right G home pile o hh a c hc H' e
  simp only [eP, pt, go, repr_ok tP (dP _), cmp_ne (eqS tP), Bool.not_true, pr P _ hPl hPb hPh]
  refine r_pick O (by decide) (by decide) fun way h6 hway O => ?_
  try simp only [go]
  refine r_law_pile O ok (by omega) (home := home) hway fun pile h7 pl1 pb ph O => ?_
  try simp only [go]
  rw [pr pile h7 pl1 (fun x m => by have := pb x m; omega) (ph home rfl)]
  have cn : ∀ (i : Int) (l : List Nat) (h : Hw), l.length ≤ 1000 → binOp .add (.tup [.int i]) (natsW l) h = .ok (intsW (i :: castL l)) h := fun i l h hl => by
    rw [nats_ints2]
    show (bif szOk (1 + ((castL l).map W.int).length) then R.ok (W.tup ([W.int i] ++ (castL l).map W.int)) h else .err) = _
    rw [szOk_of (by unfold castL; rw [List.length_map, List.length_map]; omega)]; rfl
  have c1 : ∀ h, binOp .add (natsW T) (.tup [nW 0]) h = .ok (natsW (T ++ [0])) h := fun h => cat_nats1 (by omega)
  have c2 : ∀ h, binOp .add (natsW (T.drop 1)) (natsW (T.take 1)) h = .ok (natsW (T.drop 1 ++ T.take 1)) h := fun h => cat_nats (by rw [List.length_drop, List.length_take]; omega)
  have c3 : ∀ (x : Nat) (h : Hw), binOp .mul (.tup [nW x]) (nW (G.n - 1)) h = .ok (natsW (List.replicate (G.n - 1) x)) h := fun x h => tmul (by omega)
  simp only [go, Bool.not_true, c1, slc_fromA, slc_toA, c2, subN o.pos, c3, slc_last]
  refine wp_alloc O fun oq h8 O => ?_
  simp only [go, slc_fromA]
  rw [cn _ _ _ (by rw [List.length_drop]; omega)]
  simp only [go]
  refine wp_alloc O fun oq2 h9 O => ?_
  rw [cat_ref (O.at 1 rfl) (O.at 0 rfl) (by simp)]
  refine wp_alloc O fun oq3 h10 O => ?_
  have ec : ([natsW (T ++ [0]), natsW (T.drop 1 ++ T.take 1), natsW (List.replicate (G.n - 1) G.roads.length), natsW (T.take (T.length - 1)), natsW (List.replicate (G.n - 1) 0)] ++ [intsW ((-((1 : Nat) : Int)) :: castL (T.drop 1))] : List W) =
      [castL (T ++ [0]), castL (T.drop 1 ++ T.take 1), castL (List.replicate (G.n - 1) G.roads.length), castL (T.take (T.length - 1)), castL (List.replicate (G.n - 1) 0), (-((1 : Nat) : Int)) :: castL (T.drop 1)].map intsW := by
    simp only [nats_ints2]; rfl
  rw [ec] at O
  have clen : ∀ t ∈ [castL (T ++ [0]), castL (T.drop 1 ++ T.take 1), castL (List.replicate (G.n - 1) G.roads.length), castL (T.take (T.length - 1)), castL (List.replicate (G.n - 1) 0), (-((1 : Nat) : Int)) :: castL (T.drop 1)], t.length ≤ 60 := by
    intro t m
    simp only [List.mem_cons, List.not_mem_nil, or_false] at m
    unfold castL at m
    rcases m with rfl | rfl | rfl | rfl | rfl | rfl <;> simp only [List.length_map, List.length_append, List.length_drop, List.length_take, List.length_replicate, List.length_cons, List.length_nil] <;> omega
  have c0 : [castL (T ++ [0]), castL (T.drop 1 ++ T.take 1), castL (List.replicate (G.n - 1) G.roads.length), castL (T.take (T.length - 1)), castL (List.replicate (G.n - 1) 0), (-((1 : Nat) : Int)) :: castL (T.drop 1)] ≠ [] := by simp
  have c9 : [castL (T ++ [0]), castL (T.drop 1 ++ T.take 1), castL (List.replicate (G.n - 1) G.roads.length), castL (T.take (T.length - 1)), castL (List.replicate (G.n - 1) 0), (-((1 : Nat) : Int)) :: castL (T.drop 1)].length ≤ 10 := by simp
  generalize [castL (T ++ [0]), castL (T.drop 1 ++ T.take 1), castL (List.replicate (G.n - 1) G.roads.length), castL (T.take (T.length - 1)), castL (List.replicate (G.n - 1) 0), (-((1 : Nat) : Int)) :: castL (T.drop 1)] = cands at O clen c0 c9
  refine r_of O (xs := cands.map intsW) List.mem_cons_self (by rw [List.length_map]; exact List.length_pos_iff.mpr c0) (by rw [List.length_map]; omega) fun x w h11 ex O => ?_
  rw [List.getElem?_map] at ex
  cases et : cands[x]? with
  | none => rw [et] at ex; cases ex
  | some t0 =>
    rw [et] at ex
    obtain rfl := Option.some.inj ex
    have tl := clen t0 (List.mem_of_getElem? et)
    simp only [go, r_law_is_tree ok tl]
    have O := O.sub (L' := [(wy, .lst ((waysL G).map nW))]) (List.Sublist.cons _ (List.Sublist.cons _ (List.Sublist.cons _ (List.Sublist.cons _ (List.Sublist.cons _ (List.Sublist.refl _))))))
    cases hb : lawTree G t0 with
    | true =>
      simp only [Bool.not_true, go]
      exact ⟨_, _, _, _, _, _, rfl, O⟩
    | false =>
      have hx := x_pile_of_tree (k := k + 7) (h := h11) ok (home := home) (by omega : t0.length ≤ 1000) (M.odd G t0 hb)
      simp only [Bool.not_false, go, cals]
      rw [r_is_refused (by simp only [List.length_nil, Nat.beq, go]; exact hx)]
      simp only [go, Bool.not_true]
      exact ⟨_, _, _, _, _, _, rfl, O⟩
theorem r_law_lap (M : Math) {p : Nat × Nat} {h0 : Hw} (O : Own (some p) h0 h []) {ns : List Int} {lap : Nat} (hlap : lap < 4) (x3 x4 x5 x6 x7 x9 x10 x11 x12 x13 x15 : Option W) {Q : TL.Env × Fl → Hw → Prop} :
    wp (exL (callF tb wf (k + 12)) wf lapB [some (.frl (ns.map W.int)), some (.ref p.1), some (nW lap), x3, x4, x5, x6, x7, none, x9, x10, x11, x12, x13, none, x15] h) (loopK (lapI p h0 ns) Q) := by
  obtain ⟨A, eA, hA1, hA2⟩ : ∃ A, ([nW 3, nW 4, nW 6, nW 8] : List W)[lap]? = some (nW A) ∧ 1 ≤ A ∧ A ≤ 8 := by
    rcases (show lap = 0 ∨ lap = 1 ∨ lap = 2 ∨ lap = 3 by omega) with rfl | rfl | rfl | rfl
    · exact ⟨3, rfl, by decide, by decide⟩
    · exact ⟨4, rfl, by decide, by decide⟩
    · exact ⟨6, rfl, by decide, by decide⟩
    · exact ⟨8, rfl, by decide, by decide⟩
  obtain ⟨B, eB, hB1, hB2⟩ : ∃ A, ([nW 4, nW 5, nW 6, nW 8] : List W)[lap]? = some (nW A) ∧ 1 ≤ A ∧ A ≤ 8 := by
    rcases (show lap = 0 ∨ lap = 1 ∨ lap = 2 ∨ lap = 3 by omega) with rfl | rfl | rfl | rfl
    · exact ⟨4, rfl, by decide, by decide⟩
    · exact ⟨5, rfl, by decide, by decide⟩
    · exact ⟨6, rfl, by decide, by decide⟩
    · exact ⟨8, rfl, by decide, by decide⟩
  simp only [lapB, d_law, go]
  refine wp_alloc O fun q1 h1 O => ?_
  rw [idx_ref (k := lap) (O.at 0 rfl) eA]
  simp only [go]
  refine r_pick O hA1 (by omega) fun cr h2 hcr O => ?_
  try simp only [go]
  refine wp_alloc O fun q2 h3 O => ?_
  rw [idx_ref (k := lap) (O.at 0 rfl) eB]
  simp only [go]
  refine r_pick O hB1 (by omega) fun more h4 hmore O => ?_
  try simp only [go]
  refine r_web O (cr := 1 + cr) (by omega) (by omega) (by omega) (by decide) fun G h5 o hn hm O => ?_
  have O := O.sub (L' := []) (List.nil_sublist _)
  have ok := o.ok (by omega) (by omega)
  simp only [go]
  refine r_pick O (by omega) (by omega) fun home h6 hhome O => ?_
  try simp only [go]
  refine r_law_joins ok fun r rs h7 hl Oj => ?_
  simp only [it_ref (Oj.at 0 rfl), go]
  rw [sz_map (by omega)]
  simp only [go]
  rw [rowSums (L := []) (by rw [List.append_nil]; exact Oj) hl fun a v _ e => by simp only [WP.turnE, go, e]]
  simp only [go]
  refine wp_alloc (O.run0 Oj) fun wy h8 O => ?_
  have O : Own (some p) h0 h8 [(wy, .lst ((waysL G).map nW))] := O.sub (List.Sublist.cons_cons _ (List.nil_sublist _))
  have tw := tny_web o (by omega) (by omega)
  simp only [go, repr_ok tw (dat_web G)]
  rw [it_rng1 (by decide)]
  simp only [go]
  refine wp_loopS (fun d s h => turnI p h0 ns lap (1 + cr) G home wy s h) (List.range 4) ⟨_, _, _, _, _, _, rfl, O⟩ (fun _ _ _ _ => rfl) (fun d x l e s h i => ?_) (fun s h i => ?_)
  · obtain ⟨x9, x10, x11, x12, x13, x15, rfl, O⟩ := i
    exact r_law_turn (k := k) (ns := ns) (lap := lap) (cr := 1 + cr) M o (by omega) (by omega) hhome O (some (nW x)) x10 x11 x12 x13 x15
  · obtain ⟨x9, x10, x11, x12, x13, x15, rfl, O⟩ := i
    simp only [go, repr_ok tw (dat_web G), cmp_ne (eqS tw), Bool.not_true]
    exact ⟨_, _, _, _, _, _, _, _, _, _, _, _, rfl, O.sub (List.nil_sublist _)⟩
theorem r_law (M : Math) (ns : List Int) (hl : ns.length ≤ 63) : ∃ g, callF tb wf (k + 13) 46 [.frl (ns.map W.int)] Hw.nil = .ok (.bl true) g := by
  refine ⟨Hw.nil, ?_⟩
  refine call_val (fn := f_law) rfl rfl rfl rfl (nr_cons (nr_frl ns) rfl) rfl ?_
  have nf : nc (W.frl (ns.map W.int)) = some (W.frl (ns.map W.int)) := rfl
  have eb : f_law.body = [(.set 1 (.call 23 [(.var 0)])), (.loop (.nm 2) .rng1 [(.int 4)] lapB), (.ret (.bl true))] := rfl
  rw [eb]
  simp only [go, show f_law.ns = 16 from rfl, show f_law.np = 1 from rfl]
  refine r_source ns hl fun r c h1 hr hc src => ?_
  have O := Own.begin (p := (r, c)) hr hc src
  rw [it_rng1 (by decide)]
  simp only [go]
  refine wp_loopS (fun d s h => lapI (r, c) h1 ns s h) (List.range 4) ⟨_, _, _, _, _, _, _, _, _, _, _, _, rfl, O⟩ (fun _ _ _ _ => rfl) (fun d x l e s h i => ?_) (fun s h i => ?_)
  · obtain ⟨x2, x3, x4, x5, x6, x7, x9, x10, x11, x12, x13, x15, rfl, O⟩ := i
    have hx : x < 4 := List.mem_range.mp (by rw [e]; simp)
    exact r_law_lap M O hx x3 x4 x5 x6 x7 x9 x10 x11 x12 x13 x15
  · obtain ⟨x2, x3, x4, x5, x6, x7, x9, x10, x11, x12, x13, x15, rfl, O⟩ := i
    simp only [go]
end
end Ik80
namespace Ik80
open PySem TL TL.WP
theorem sdup_sorted : ∀ {l : List Int}, l.Pairwise (· < ·) → sdup l = l
  | [], _ => rfl
  | x :: l, p => by
    obtain ⟨p1, p2⟩ := List.pairwise_cons.mp p
    show insD x (sdup l) = _
    rw [sdup_sorted p2]
    cases l with
    | nil => rfl
    | cons y l =>
      have := p1 y List.mem_cons_self
      simp only [insD, this, decide_true, cond_true]
theorem go_parts (G : Web) : ∀ (t : List Int) (prev : Option Int) (lots : List Nat), treeGo G prev lots t = true → (∀ x ∈ t, inR G x = true) ∧ t.Pairwise (· < ·) ∧ (∀ y, prev = some y → ∀ x ∈ t, y < x) ∧ (joinRun G lots (t.map Int.toNat)).isSome = true
  | [], _, _, _ => ⟨fun _ m => (nomatch m), List.Pairwise.nil, fun _ _ _ m => (nomatch m), rfl⟩
  | x :: t, prev, lots, h => by
    rw [treeGo_cons, Bool.and_eq_true, Bool.and_eq_true, Bool.and_eq_true] at h
    obtain ⟨h1, h2, h3, h4⟩ := h
    obtain ⟨a, b, c, d⟩ := go_parts G t _ _ h4
    have hx := c x rfl
    have pv : ∀ y, prev = some y → y < x := fun y e => by subst e; exact of_decide_eq_true h2
    refine ⟨fun y m => ?_, List.pairwise_cons.mpr ⟨hx, b⟩, fun y e z m => ?_, ?_⟩
    · cases m with
      | head => exact h1
      | tail _ m => exact a y m
    · have := pv y e
      cases m with
      | head => exact this
      | tail _ m => have := hx z m; omega
    · rw [List.map_cons]
      unfold joinRun
      rw [if_neg (by simpa using h3)]
      exact d
theorem math_odd (G : Web) (t : List Int) (h : lawTree G t = false) : treeB G t = false := by
  cases e : treeB G t with
  | false => rfl
  | true =>
    unfold treeB at e
    rw [Bool.and_eq_true] at e
    obtain ⟨a, b, _, d⟩ := go_parts G t _ _ e.2
    have : lawTree G t = true := by
      unfold lawTree
      rw [Bool.and_eq_true, Bool.and_eq_true, Bool.and_eq_true]
      refine ⟨e.1, decide_eq_true (sdup_sorted b), decide_eq_true ?_, d⟩
      rw [List.filter_eq_nil_iff]
      intro x m
      simp [a x m]
    rw [this] at h
    cases h
end Ik80
namespace Ik80
open PySem TL TL.WP
theorem gn_range {n v : Nat} (h : v < n) : gn (List.range n) v = v := by
  unfold gn
  rw [List.getD_eq_getElem?_getD, List.getElem?_range h]; rfl
theorem join_id {G : Web} (o : WOk G) {t : List Nat} (h : ∀ r ∈ t, r < G.roads.length) : (joinRun G (List.range G.n) t).isSome = (jf id (t.map (endsOf G))).isSome :=
  join_jf G o.road t _ id List.length_range (fun v hv => gn_range hv) h
/-- what is drawn greedily joins all that roads join -/
theorem greedy_ok {G : Web} (o : WOk G) : ∀ (l found : List Nat) (f : Nat → Nat), (∀ r ∈ found, r < G.roads.length) → (∀ r ∈ l, r < G.roads.length) → jf id (found.map (endsOf G)) = some f →
    ∃ g f', greedy G found l = found ++ g ∧ jf id ((found ++ g).map (endsOf G)) = some f' ∧ (∀ v w, f v = f w → f' v = f' w) ∧ (∀ r ∈ l, f' (endsOf G r).1 = f' (endsOf G r).2) ∧ g.Sublist l
  | [], found, f, _, _, e => ⟨[], f, (List.append_nil _).symm, by rw [List.append_nil]; exact e, fun _ _ h => h, fun _ m => (nomatch m), List.Sublist.slnil⟩
  | r :: l, found, f, h1, h2, e => by
    have hr := h2 r List.mem_cons_self
    have h3 : ∀ x ∈ found ++ [r], x < G.roads.length := fun x m => by
      rcases List.mem_append.mp m with m | m
      · exact h1 x m
      · simp at m; omega
    have hj := join_id o h3
    have e1 : jf id ((found ++ [r]).map (endsOf G)) = if f (endsOf G r).1 = f (endsOf G r).2 then none else some (mg f (endsOf G r).1 (endsOf G r).2) := by
      rw [List.map_append, jf_app, e]; rfl
    rw [greedy_cons]
    by_cases c : f (endsOf G r).1 = f (endsOf G r).2
    · rw [e1, if_pos c] at hj
      have : (joinRun G (List.range G.n) (found ++ [r])).isSome = false := hj
      rw [this]
      obtain ⟨g, f', a, b, d, x, y⟩ := greedy_ok o l found f h1 (fun z m => h2 z (List.mem_cons_of_mem _ m)) e
      refine ⟨g, f', a, b, d, fun z m => ?_, List.Sublist.cons _ y⟩
      cases m with
      | head => exact d _ _ c
      | tail _ m => exact x z m
    · rw [e1, if_neg c] at hj
      have : (joinRun G (List.range G.n) (found ++ [r])).isSome = true := hj
      rw [this]
      rw [if_neg c] at e1
      obtain ⟨g, f', a, b, d, x, y⟩ := greedy_ok o l (found ++ [r]) _ h3 (fun z m => h2 z (List.mem_cons_of_mem _ m)) e1
      have fm : ∀ v w, f v = f w → f' v = f' w := fun v w h => d v w (by unfold mg; rw [h])
      refine ⟨r :: g, f', by rw [if_pos rfl, a, List.append_assoc]; rfl, by rw [show found ++ r :: g = found ++ [r] ++ g by rw [List.append_assoc]; rfl]; exact b, fm, fun z m => ?_, List.Sublist.cons_cons _ y⟩
      cases m with
      | head => refine d _ _ ?_; unfold mg; grind
      | tail _ m => exact x z m
theorem go_of (G : Web) : ∀ (t : List Nat) (prev : Option Int) (lots : List Nat), (∀ r ∈ t, r < G.roads.length) → t.Pairwise (· < ·) → (∀ y, prev = some y → ∀ x ∈ t, y < (x : Int)) → (joinRun G lots t).isSome = true → treeGo G prev lots (castL t) = true
  | [], _, _, _, _, _, _ => rfl
  | r :: t, prev, lots, h1, h2, h3, h4 => by
    have e : castL (r :: t) = (r : Int) :: castL t := rfl
    have hr := h1 r List.mem_cons_self
    obtain ⟨p1, p2⟩ := List.pairwise_cons.mp h2
    unfold joinRun at h4
    by_cases c : gn lots (endsOf G r).1 = gn lots (endsOf G r).2
    · rw [if_pos c] at h4; cases h4
    · rw [if_neg c] at h4
      have ih := go_of G t (some (r : Int)) _ (fun x m => h1 x (List.mem_cons_of_mem _ m)) p2 (fun y e x m => by
        obtain rfl := Option.some.inj e
        have := p1 x m
        omega) h4
      rw [e, treeGo_cons, Int.toNat_natCast, Bool.and_eq_true, Bool.and_eq_true, Bool.and_eq_true]
      refine ⟨decide_eq_true ⟨by omega, by omega⟩, ?_, by simp [c], ih⟩
      cases prev with
      | none => rfl
      | some y => exact decide_eq_true (h3 y rfl r List.mem_cons_self)
end Ik80
namespace Ik80
open PySem TL TL.WP
theorem castL_mem {T : List Nat} {r : Nat} : (r : Int) ∈ castL T ↔ r ∈ T := by
  unfold castL
  rw [List.mem_map]
  exact ⟨fun ⟨x, hx, e⟩ => by rw [show r = x by omega]; exact hx, fun hx => ⟨r, hx, rfl⟩⟩
theorem srt_lt {l : List Nat} (nd : l.Nodup) : (srt l).Pairwise (· < ·) := by
  have h1 := srt_sorted l
  have h2 : (srt l).Nodup := (srt_perm l).nodup_iff.mpr nd
  exact (h1.and h2).imp fun ⟨a, b⟩ => by omega
/-- a list of roads that join, as many as wanted, is a tree -/
theorem treeB_of {G : Web} (o : WOk G) {A : List Nat} (h1 : ∀ r ∈ A, r < G.roads.length) (nd : A.Nodup) (hl : A.length = G.n - 1) {f : Nat → Nat} (hj : jf id (A.map (endsOf G)) = some f) : treeB G (castL (srt A)) = true := by
  have p := srt_perm A
  have h3 : ∀ r ∈ srt A, r < G.roads.length := fun r m => h1 r (p.mem_iff.mp m)
  unfold treeB
  rw [Bool.and_eq_true]
  refine ⟨decide_eq_true (by unfold castL; rw [List.length_map, p.length_eq, hl]), go_of G (srt A) none _ h3 (srt_lt nd) (fun _ e => by cases e) ?_⟩
  rw [join_id o h3]
  have b := jf_perm (p.map (endsOf G)) id
  rw [hj] at b
  cases e : jf id ((srt A).map (endsOf G)) with
  | none => rw [e] at b; exact b.elim
  | some g => rfl
theorem nonl_eq (G : Web) : nonl G = G.roads.countP fun p => !decide (p.1 = p.2) := by
  unfold nonl
  rw [← List.countP_eq_length_filter]
  have h : G.roads.countP (fun p => !decide (p.1 = p.2)) = (G.roads.zipIdx.map Prod.fst).countP fun p => !decide (p.1 = p.2) := by rw [List.zipIdx_map_fst]
  rw [h, List.countP_map]; rfl
section
variable {G : Web} {home : Nat} {rule : Hist → Option (Nat × Nat)}
theorem g_tree {l : List Nat} (o : WOk G) (pl : l.Perm (List.range G.roads.length)) : (∀ x ∈ srt (greedy G [] l), x < G.roads.length) ∧ ∃ f, jf id ((srt (greedy G [] l)).map (endsOf G)) = some f ∧ ∀ r, r < G.roads.length → f (endsOf G r).1 = f (endsOf G r).2 := by
  have hl : ∀ r ∈ l, r < G.roads.length := fun r m => List.mem_range.mp (pl.mem_iff.mp m)
  obtain ⟨g, f', e, j, _, s, sub⟩ := greedy_ok o l [] id (fun _ m => (nomatch m)) hl rfl
  rw [List.nil_append] at e j
  rw [e]
  have p := srt_perm g
  refine ⟨fun x m => hl x (sub.subset (p.mem_iff.mp m)), ?_⟩
  have b := jf_perm (p.map (endsOf G)) id
  rw [j] at b
  cases e2 : jf id ((srt g).map (endsOf G)) with
  | none => rw [e2] at b; exact b.elim
  | some f =>
    rw [e2] at b
    refine ⟨f, rfl, fun r hr => (b _ _).mpr (s r (pl.mem_iff.mpr (List.mem_range.mpr hr)))⟩
/-- the tries of a drawn tree -/
theorem g_tries {l : List Nat} (o : WOk G) (R : RuleOk G home rule) (hh : home < G.n) (pl : l.Perm (List.range G.roads.length)) {H : Hist} (hH : H = runH rule (fun r _ _ => decide (r ∈ srt (greedy G [] l))) G.roads.length []) :
    treeB G (castL (srt (greedy G [] l))) = true ∧ (∀ x ∈ H, x.1 < G.roads.length ∧ x.2.1 < G.n) ∧ (∀ v, v < G.n → cntOf H v ≤ ways G v) ∧ cntOf H home = 0 ∧ comes G home (pileT G home H) = true ∧ runH rule (lightsP none (dueP G (pileT G home H))) G.roads.length [] = H := by
  obtain ⟨t1, f, t2, t3⟩ := g_tree o pl
  obtain ⟨T, hT⟩ : ∃ T, srt (greedy G [] l) = T := ⟨_, rfl⟩
  rw [hT] at hH t1 t2 ⊢
  have hs : srt T = T := by
    rw [← hT]
    have : ∀ l : List Nat, l.Pairwise (· ≤ ·) → srt l = l := by
      intro l
      induction l with
      | nil => intro _; rfl
      | cons a l ih =>
        intro p
        obtain ⟨p1, p2⟩ := List.pairwise_cons.mp p
        show insS _ a (srt l) = _
        rw [ih p2]
        cases l with
        | nil => rfl
        | cons b l =>
          have := p1 b List.mem_cons_self
          simp only [insS, this, decide_true, cond_true]
    exact this _ (srt_sorted _)
  have hH := hH.symm
  obtain ⟨all, iff⟩ := tree_tries o R hh t1 t2 t3 hH
  obtain ⟨ho, tr⟩ := run_tries (F := fun r _ _ => decide (r ∈ T)) R G.roads.length
  have lc := lit_count (hi := H) (by rw [← hH]; exact ho) hh all
  have c1 := fun v => cnt_ways (F := fun r _ _ => decide (r ∈ T)) R o G.roads.length v
  have c2 := cnt_home (F := fun r _ _ => decide (r ∈ T)) R G.roads.length
  rw [hH] at ho tr c1 c2
  refine ⟨?_, fun x m => ⟨ho.road x m, ho.at_ x m⟩, fun v _ => c1 v, c2, run_comes o R hh hH all, run_again R hH all⟩
  have nd : ((H.filter fun x => x.2.2).map fun x => x.1).Nodup := List.Nodup.sublist ((List.filter_sublist).map _) ho.met
  have tn : T.Nodup := by
    rw [← hT]
    obtain ⟨g, f', e, j, _, s, sub⟩ := greedy_ok o l [] id (fun _ m => (nomatch m)) (fun r m => List.mem_range.mp (pl.mem_iff.mp m)) rfl
    rw [e, List.nil_append]
    exact (srt_perm g).nodup_iff.mpr (List.Nodup.sublist sub (pl.nodup_iff.mpr List.nodup_range))
  have pm : T.Perm ((H.filter fun x => x.2.2).map fun x => x.1) := (List.perm_ext_iff_of_nodup tn nd).mpr iff
  have := treeB_of o t1 tn (by rw [pm.length_eq, List.length_map, lc]) t2
  rw [hs] at this
  exact this
/-- the tries of a pile that comes again -/
theorem g_pile {pile : List Nat} (o : WOk G) (R : RuleOk G home rule) (hh : home < G.n) (hp : pile.length = G.n) (h0 : gn pile home = 0) (hc : comes G home (castL pile) = true) {H : Hist} (hH : H = runH rule (lightsP none (dueP G (castL pile))) G.roads.length []) :
    (∀ x ∈ H, x.1 < G.roads.length ∧ x.2.1 < G.n) ∧ H.length ≤ nonl G ∧ levelP G home (castL pile) = ((nonl G - H.length : Nat) : Int) ∧ treeB G (castL (srt (litR H))) = true ∧ runH rule (lightsP (some (castL (srt (litR H)))) []) G.roads.length [] = H ∧ pileT G home H = castL pile := by
  have hH := hH.symm
  obtain ⟨ho, tr⟩ := run_tries (F := lightsP none (dueP G (castL pile))) R G.roads.length
  have all := pile_lit o R hh hc hH
  have tl := tries_nonl R (F := lightsP none (dueP G (castL pile))) (k := G.roads.length)
  obtain ⟨f, j, _, _⟩ := lit_joins (F := lightsP none (dueP G (castL pile))) R G.roads.length
  have ps := pile_sum o R hh hp h0 hc hH
  have sw := sum_ways o
  rw [hH] at ho tr tl j
  have lc := lit_count (hi := H) ho hh all
  rw [← nonl_eq] at tl sw
  have nd : (litR H).Nodup := List.Nodup.sublist ((List.filter_sublist).map _) ho.met
  have lr : ∀ r ∈ litR H, r < G.roads.length := fun r m => by
    obtain ⟨y, my, rfl⟩ := List.mem_map.mp m
    exact ho.road y (List.mem_filter.mp my).1
  refine ⟨fun x m => ⟨ho.road x m, ho.at_ x m⟩, tl, ?_, treeB_of o lr nd (by unfold litR; rw [List.length_map, lc]) (f := f) ?_, tree_again R hH fun r => ?_, pile_back o R hh (by unfold castL; rw [List.length_map]; exact hp) (by rw [show castL pile = pile.map fun k : Nat => (k : Int) from rfl, gi_cast, h0]; rfl) hc hH⟩
  · unfold levelP
    rw [show castL pile = pile.map fun k : Nat => (k : Int) from rfl, sum_cast, show ((waysL G).sum : Int).fdiv 2 = (nonl G : Int) by
      rw [sw, Int.fdiv_eq_ediv_of_nonneg _ (by decide)]; omega]
    omega
  · rw [show (litR H).map (endsOf G) = (H.filter fun x => x.2.2).map fun x => endsOf G x.1 by unfold litR; rw [List.map_map]; rfl]
    exact j
  · rw [castL_mem, (srt_perm _).mem_iff]; rfl
end
theorem math : Math := by
  refine ⟨fun G l o pl => ?_, fun G home pile o hh hp h0 hc H hH => ?_, math_odd⟩
  · refine ⟨(g_tries (home := 0) o (ruleN_ok o.road 0) o.pos pl rfl).1, (g_tree o pl).1, fun home hh H hH => ?_⟩
    obtain ⟨_, a, b, c, d, e⟩ := g_tries o (ruleN_ok o.road home) hh pl hH
    exact ⟨a, b, c, d, e⟩
  · obtain ⟨a, b, c, d, e, f⟩ := g_pile o (ruleN_ok o.road home) hh hp h0 hc hH
    have e : triesT G home (castL (srt (litR H))) = H := e
    rw [e]
    exact ⟨a, b, c, d, fun x m => (a x m).2, f⟩
theorem law_run : ∀ ns : List Int, ns.length ≤ 63 → ∃ g, callF tb wf 20 46 [.frl (ns.map W.int)] Hw.nil = .ok (.bl true) g := fun ns hl => r_law (k := 7) math ns hl
end Ik80
open PySem PySem.W PyProof.Rows
theorem bn_of {mg : Str → Option Value} (h1 : mg "len" = none) (h2 : mg "list" = none) (h3 : mg "tuple" = none) (h4 : mg "sum" = none) (h5 : mg "sorted" = none) (h6 : mg "min" = none) (h7 : mg "max" = none) (h8 : mg "int" = none) (h9 : mg "abs" = none) (h10 : mg "isinstance" = none) (h11 : mg "repr" = none) (h12 : mg "range" = none) (h13 : mg "enumerate" = none) (h14 : mg "zip" = none) (h15 : mg "bool" = none) (h16 : mg "str" = none) (h17 : mg "dict" = none) (h18 : mg "set" = none) : ∀ y ∈ TL.bnames, mg y = none := by
  intro y hy
  simp only [TL.bnames, List.mem_cons, List.not_mem_nil, or_false] at hy
  rcases hy with e | e | e | e | e | e | e | e | e | e | e | e | e | e | e | e | e | e <;> (rw [e]; assumption)
set_option maxHeartbeats 0 in
theorem PySem.Challenge.cw_treelattice_k80_whole_trees_by_numbers_holds : PySem.Challenge.rw_treelattice_k80_whole_trees_by_numbers.Holds := by
  w_on; o_law; k_head; (case hw => w_witness2)
  k_fill
  refine TL.walk_x (l := PySem.Challenge.rw_treelattice_k80_whole_trees_by_numbers) (n := 63) (k := 20) (tb := Ik80.tb) (wf := Ik80.wf) (T := Ik80.TT) (mk := Ik80.MK) (cn := Ik80.CN) (il := 46) rfl (by decide) rfl ⟨rfl, by decide, by decide⟩ (fun w h Y => PySem.W.km_in_of Y) (fun w h Y => PySem.W.km_tabs_of Y) rfl (fun w => by kernel_rfl) ?F Ik80.law_run
  case F =>
    intro w mg h KX G
    refine' ⟨bn_of (PySem.W.mg_none_of KX G ?b1) (PySem.W.mg_none_of KX G ?b2) (PySem.W.mg_none_of KX G ?b3) (PySem.W.mg_none_of KX G ?b4) (PySem.W.mg_none_of KX G ?b5) (PySem.W.mg_none_of KX G ?b6) (PySem.W.mg_none_of KX G ?b7) (PySem.W.mg_none_of KX G ?b8) (PySem.W.mg_none_of KX G ?b9) (PySem.W.mg_none_of KX G ?b10) (PySem.W.mg_none_of KX G ?b11) (PySem.W.mg_none_of KX G ?b12) (PySem.W.mg_none_of KX G ?b13) (PySem.W.mg_none_of KX G ?b14) (PySem.W.mg_none_of KX G ?b15) (PySem.W.mg_none_of KX G ?b16) (PySem.W.mg_none_of KX G ?b17) (PySem.W.mg_none_of KX G ?b18), TL.xc_one KX G ?x1 ?x2 ?x3 ?x4 ?x5 ?x6, ?_⟩
    (case x1 => k_is); (case x2 => k_exc); (case x3 => k_is); (case x4 => k_is); (case x5 => k_is); (case x6 => (first | k_is | kernel_rfl))
    (case b1 => k_is); (case b2 => k_is); (case b3 => k_is); (case b4 => k_is); (case b5 => k_is); (case b6 => k_is); (case b7 => k_is); (case b8 => k_is); (case b9 => k_is); (case b10 => k_is); (case b11 => k_is); (case b12 => k_is); (case b13 => k_is); (case b14 => k_is); (case b15 => k_is); (case b16 => k_is); (case b17 => k_is); (case b18 => k_is)
    refine' TL.AllFI.cons (TL.fi_mk KX G (st := Ik80.s_begun) (fn := Ik80.f_begun) rfl rfl rfl Ik80.sc_begun Ik80.mb_begun (fun z => nomatch z) (fun _ _ _ _ _ _ us hl => match us, hl with | [_], _ => rfl) ?a0 ?l0 ?c0 ?k0) ?_
    (case a0 => k_is); (case l0 => k_is); (case c0 => k_is); (case k0 => k_is)
    refine' TL.AllFI.cons (TL.fi_mk KX G (st := Ik80.s_ends_at) (fn := Ik80.f_ends_at) rfl rfl rfl Ik80.sc_ends_at Ik80.mb_ends_at (fun z => nomatch z) (fun _ _ _ _ _ _ us hl => match us, hl with | [_, _], _ => rfl) ?a1 ?l1 ?c1 ?k1) ?_
    (case a1 => k_is); (case l1 => k_is); (case c1 => k_is); (case k1 => k_is)
    refine' TL.AllFI.cons (TL.fi_mk KX G (st := Ik80.s_is_integer) (fn := Ik80.f_is_integer) rfl rfl rfl Ik80.sc_is_integer Ik80.mb_is_integer (fun z => nomatch z) (fun _ _ _ _ _ _ us hl => match us, hl with | [_], _ => rfl) ?a2 ?l2 ?c2 ?k2) ?_
    (case a2 => k_is); (case l2 => k_is); (case c2 => k_is); (case k2 => k_is)
    refine' TL.AllFI.cons (TL.fi_mk KX G (st := Ik80.s_is_below) (fn := Ik80.f_is_below) rfl rfl rfl Ik80.sc_is_below Ik80.mb_is_below (fun z => nomatch z) (fun _ _ _ _ _ _ us hl => match us, hl with | [_, _], _ => rfl) ?a3 ?l3 ?c3 ?k3) ?_
    (case a3 => k_is); (case l3 => k_is); (case c3 => k_is); (case k3 => k_is)
    refine' TL.AllFI.cons (TL.fi_mk KX G (st := Ik80.s_is_tuple) (fn := Ik80.f_is_tuple) rfl rfl rfl Ik80.sc_is_tuple Ik80.mb_is_tuple (fun z => nomatch z) (fun _ _ _ _ _ _ us hl => match us, hl with | [_, _], _ => rfl) ?a4 ?l4 ?c4 ?k4) ?_
    (case a4 => k_is); (case l4 => k_is); (case c4 => k_is); (case k4 => k_is)
    refine' TL.AllFI.cons (TL.fi_mk KX G (st := Ik80.s_wrong_tree) (fn := Ik80.f_wrong_tree) rfl rfl rfl Ik80.sc_wrong_tree Ik80.mb_wrong_tree (fun z => nomatch z) (fun _ _ _ _ _ _ us hl => match us, hl with | [_, _], _ => rfl) ?a5 ?l5 ?c5 ?k5) ?_
    (case a5 => k_is); (case l5 => k_is); (case c5 => k_is); (case k5 => k_is)
    refine' TL.AllFI.cons (TL.fi_mk KX G (st := Ik80.s_is_tree) (fn := Ik80.f_is_tree) rfl rfl rfl Ik80.sc_is_tree Ik80.mb_is_tree (fun z => nomatch z) (fun _ _ _ _ _ _ us hl => match us, hl with | [_, _], _ => rfl) ?a6 ?l6 ?c6 ?k6) ?_
    (case a6 => k_is); (case l6 => k_is); (case c6 => k_is); (case k6 => k_is)
    refine' TL.AllFI.cons (TL.fi_mk KX G (st := Ik80.s_joins) (fn := Ik80.f_joins) rfl rfl rfl Ik80.sc_joins Ik80.mb_joins (fun z => nomatch z) (fun _ _ _ _ _ _ us hl => match us, hl with | [_], _ => rfl) ?a7 ?l7 ?c7 ?k7) ?_
    (case a7 => k_is); (case l7 => k_is); (case c7 => k_is); (case k7 => k_is)
    refine' TL.AllFI.cons (TL.fi_mk KX G (st := Ik80.s_outs) (fn := Ik80.f_outs) rfl rfl rfl Ik80.sc_outs Ik80.mb_outs (fun z => nomatch z) (fun _ _ _ _ _ _ us hl => match us, hl with | [_], _ => rfl) ?a8 ?l8 ?c8 ?k8) ?_
    (case a8 => k_is); (case l8 => k_is); (case c8 => k_is); (case k8 => k_is)
    refine' TL.AllFI.cons (TL.fi_mk KX G (st := Ik80.s_is_steady) (fn := Ik80.f_is_steady) rfl rfl rfl Ik80.sc_is_steady Ik80.mb_is_steady (fun z => nomatch z) (fun _ _ _ _ _ _ us hl => match us, hl with | [_, _, _], _ => rfl) ?a9 ?l9 ?c9 ?k9) ?_
    (case a9 => k_is); (case l9 => k_is); (case c9 => k_is); (case k9 => k_is)
    refine' TL.AllFI.cons (TL.fi_mk KX G (st := Ik80.s_roads_to) (fn := Ik80.f_roads_to) rfl rfl rfl Ik80.sc_roads_to Ik80.mb_roads_to (fun z => nomatch z) (fun _ _ _ _ _ _ us hl => match us, hl with | [_, _], _ => rfl) ?a10 ?l10 ?c10 ?k10) ?_
    (case a10 => k_is); (case l10 => k_is); (case c10 => k_is); (case k10 => k_is)
    refine' TL.AllFI.cons (TL.fi_mk KX G (st := Ik80.s_burnt) (fn := Ik80.f_burnt) rfl rfl rfl Ik80.sc_burnt Ik80.mb_burnt (fun z => nomatch z) (fun _ _ _ _ _ _ us hl => match us, hl with | [_, _, _], _ => rfl) ?a11 ?l11 ?c11 ?k11) ?_
    (case a11 => k_is); (case l11 => k_is); (case c11 => k_is); (case k11 => k_is)
    refine' TL.AllFI.cons (TL.fi_mk KX G (st := Ik80.s_comes_again) (fn := Ik80.f_comes_again) rfl rfl rfl Ik80.sc_comes_again Ik80.mb_comes_again (fun z => nomatch z) (fun _ _ _ _ _ _ us hl => match us, hl with | [_, _, _], _ => rfl) ?a12 ?l12 ?c12 ?k12) ?_
    (case a12 => k_is); (case l12 => k_is); (case c12 => k_is); (case k12 => k_is)
    refine' TL.AllFI.cons (TL.fi_mk KX G (st := Ik80.s_tries_by_numbers) (fn := Ik80.f_tries_by_numbers) rfl rfl rfl Ik80.sc_tries_by_numbers Ik80.mb_tries_by_numbers (fun z => nomatch z) (fun _ _ _ _ _ _ us hl => match us, hl with | [_, _, _, _], _ => rfl) ?a13 ?l13 ?c13 ?k13) ?_
    (case a13 => k_is); (case l13 => k_is); (case c13 => k_is); (case k13 => k_is)
    refine' TL.AllFI.cons (TL.fi_mk KX G (st := Ik80.s_is_lighting) (fn := Ik80.f_is_lighting) rfl rfl rfl Ik80.sc_is_lighting Ik80.mb_is_lighting (fun z => nomatch z) (fun _ _ _ _ _ _ us hl => match us, hl with | [_, _, _, _], _ => rfl) ?a14 ?l14 ?c14 ?k14) ?_
    (case a14 => k_is); (case l14 => k_is); (case c14 => k_is); (case k14 => k_is)
    refine' TL.AllFI.cons (TL.fi_mk KX G (st := Ik80.s_ends_behind) (fn := Ik80.f_ends_behind) rfl rfl rfl Ik80.sc_ends_behind Ik80.mb_ends_behind (fun z => nomatch z) (fun _ _ _ _ _ _ us hl => match us, hl with | [_, _], _ => rfl) ?a15 ?l15 ?c15 ?k15) ?_
    (case a15 => k_is); (case l15 => k_is); (case c15 => k_is); (case k15 => k_is)
    refine' TL.AllFI.cons (TL.fi_mk KX G (st := Ik80.s_tries_by_turns) (fn := Ik80.f_tries_by_turns) rfl rfl rfl Ik80.sc_tries_by_turns Ik80.mb_tries_by_turns (fun z => nomatch z) (fun _ _ _ _ _ _ us hl => match us, hl with | [_, _, _, _], _ => rfl) ?a16 ?l16 ?c16 ?k16) ?_
    (case a16 => k_is); (case l16 => k_is); (case c16 => k_is); (case k16 => k_is)
    refine' TL.AllFI.cons (TL.fi_mk KX G (st := Ik80.s_tries) (fn := Ik80.f_tries) rfl rfl rfl Ik80.sc_tries Ik80.mb_tries (fun z => nomatch z) (fun _ _ _ _ _ _ us hl => match us, hl with | [_, _, _, _, _], _ => rfl) ?a17 ?l17 ?c17 ?k17) ?_
    (case a17 => k_is); (case l17 => k_is); (case c17 => k_is); (case k17 => k_is)
    refine' TL.AllFI.cons (TL.fi_mk KX G (st := Ik80.s_tries_of_pile) (fn := Ik80.f_tries_of_pile) rfl rfl rfl Ik80.sc_tries_of_pile Ik80.mb_tries_of_pile (fun z => nomatch z) (fun _ _ _ _ _ _ us hl => match us, hl with | [_, _, _, _], _ => rfl) ?a18 ?l18 ?c18 ?k18) ?_
    (case a18 => k_is); (case l18 => k_is); (case c18 => k_is); (case k18 => k_is)
    refine' TL.AllFI.cons (TL.fi_mk KX G (st := Ik80.s_tried_roads) (fn := Ik80.f_tried_roads) rfl rfl rfl Ik80.sc_tried_roads Ik80.mb_tried_roads (fun z => nomatch z) (fun _ _ _ _ _ _ us hl => match us, hl with | [_, _, _, _], _ => rfl) ?a19 ?l19 ?c19 ?k19) ?_
    (case a19 => k_is); (case l19 => k_is); (case c19 => k_is); (case k19 => k_is)
    refine' TL.AllFI.cons (TL.fi_mk KX G (st := Ik80.s_tree_of_pile) (fn := Ik80.f_tree_of_pile) rfl rfl rfl Ik80.sc_tree_of_pile Ik80.mb_tree_of_pile (fun z => nomatch z) (fun _ _ _ _ _ _ us hl => match us, hl with | [_, _, _, _], _ => rfl) ?a20 ?l20 ?c20 ?k20) ?_
    (case a20 => k_is); (case l20 => k_is); (case c20 => k_is); (case k20 => k_is)
    refine' TL.AllFI.cons (TL.fi_mk KX G (st := Ik80.s_pile_of_tree) (fn := Ik80.f_pile_of_tree) rfl rfl rfl Ik80.sc_pile_of_tree Ik80.mb_pile_of_tree (fun z => nomatch z) (fun _ _ _ _ _ _ us hl => match us, hl with | [_, _, _, _], _ => rfl) ?a21 ?l21 ?c21 ?k21) ?_
    (case a21 => k_is); (case l21 => k_is); (case c21 => k_is); (case k21 => k_is)
    refine' TL.AllFI.cons (TL.fi_mk KX G (st := Ik80.s_level) (fn := Ik80.f_level) rfl rfl rfl Ik80.sc_level Ik80.mb_level (fun z => nomatch z) (fun _ _ _ _ _ _ us hl => match us, hl with | [_, _, _], _ => rfl) ?a22 ?l22 ?c22 ?k22) ?_
    (case a22 => k_is); (case l22 => k_is); (case c22 => k_is); (case k22 => k_is)
    refine' TL.AllFI.cons (TL.fi_mk KX G (st := Ik80.s__law_source) (fn := Ik80.f__law_source) rfl rfl rfl Ik80.sc__law_source Ik80.mb__law_source (fun z => nomatch z) (fun _ _ _ _ _ _ us hl => match us, hl with | [_], _ => rfl) ?a23 ?l23 ?c23 ?k23) ?_
    (case a23 => k_is); (case l23 => k_is); (case c23 => k_is); (case k23 => k_is)
    refine' TL.AllFI.cons (TL.fi_mk KX G (st := Ik80.s__law_pick) (fn := Ik80.f__law_pick) rfl rfl rfl Ik80.sc__law_pick Ik80.mb__law_pick (fun z => nomatch z) (fun _ _ _ _ _ _ us hl => match us, hl with | [_, _], _ => rfl) ?a24 ?l24 ?c24 ?k24) ?_
    (case a24 => k_is); (case l24 => k_is); (case c24 => k_is); (case k24 => k_is)
    refine' TL.AllFI.cons (TL.fi_mk KX G (st := Ik80.s__law_of) (fn := Ik80.f__law_of) rfl rfl rfl Ik80.sc__law_of Ik80.mb__law_of (fun z => nomatch z) (fun _ _ _ _ _ _ us hl => match us, hl with | [_, _], _ => rfl) ?a25 ?l25 ?c25 ?k25) ?_
    (case a25 => k_is); (case l25 => k_is); (case c25 => k_is); (case k25 => k_is)
    refine' TL.AllFI.cons (TL.fi_mk KX G (st := Ik80.s__law_mixed) (fn := Ik80.f__law_mixed) rfl rfl rfl Ik80.sc__law_mixed Ik80.mb__law_mixed (fun z => nomatch z) (fun _ _ _ _ _ _ us hl => match us, hl with | [_, _], _ => rfl) ?a26 ?l26 ?c26 ?k26) ?_
    (case a26 => k_is); (case l26 => k_is); (case c26 => k_is); (case k26 => k_is)
    refine' TL.AllFI.cons (TL.fi_mk KX G (st := Ik80.s__law_other) (fn := Ik80.f__law_other) rfl rfl rfl Ik80.sc__law_other Ik80.mb__law_other (fun z => nomatch z) (fun _ _ _ _ _ _ us hl => match us, hl with | [_], _ => rfl) ?a27 ?l27 ?c27 ?k27) ?_
    (case a27 => k_is); (case l27 => k_is); (case c27 => k_is); (case k27 => k_is)
    refine' TL.AllFI.cons (TL.fi_mk KX G (st := Ik80.s__law_nexts) (fn := Ik80.f__law_nexts) rfl rfl rfl Ik80.sc__law_nexts Ik80.mb__law_nexts (fun z => nomatch z) (fun _ _ _ _ _ _ us hl => match us, hl with | [_], _ => rfl) ?a28 ?l28 ?c28 ?k28) ?_
    (case a28 => k_is); (case l28 => k_is); (case c28 => k_is); (case k28 => k_is)
    refine' TL.AllFI.cons (TL.fi_mk KX G (st := Ik80.s__law_spots) (fn := Ik80.f__law_spots) rfl rfl rfl Ik80.sc__law_spots Ik80.mb__law_spots (fun z => nomatch z) (fun _ _ _ _ _ _ us hl => match us, hl with | [_], _ => rfl) ?a29 ?l29 ?c29 ?k29) ?_
    (case a29 => k_is); (case l29 => k_is); (case c29 => k_is); (case k29 => k_is)
    refine' TL.AllFI.cons (TL.fi_mk KX G (st := Ik80.s__law_face) (fn := Ik80.f__law_face) rfl rfl rfl Ik80.sc__law_face Ik80.mb__law_face (fun z => nomatch z) (fun _ _ _ _ _ _ us hl => match us, hl with | [_, _], _ => rfl) ?a30 ?l30 ?c30 ?k30) ?_
    (case a30 => k_is); (case l30 => k_is); (case c30 => k_is); (case k30 => k_is)
    refine' TL.AllFI.cons (TL.fi_mk KX G (st := Ik80.s__law_grown) (fn := Ik80.f__law_grown) rfl rfl rfl Ik80.sc__law_grown Ik80.mb__law_grown (fun z => nomatch z) (fun _ _ _ _ _ _ us hl => match us, hl with | [_, _, _], _ => rfl) ?a31 ?l31 ?c31 ?k31) ?_
    (case a31 => k_is); (case l31 => k_is); (case c31 => k_is); (case k31 => k_is)
    refine' TL.AllFI.cons (TL.fi_mk KX G (st := Ik80.s__law_renamed) (fn := Ik80.f__law_renamed) rfl rfl rfl Ik80.sc__law_renamed Ik80.mb__law_renamed (fun z => nomatch z) (fun _ _ _ _ _ _ us hl => match us, hl with | [_, _], _ => rfl) ?a32 ?l32 ?c32 ?k32) ?_
    (case a32 => k_is); (case l32 => k_is); (case c32 => k_is); (case k32 => k_is)
    refine' TL.AllFI.cons (TL.fi_mk KX G (st := Ik80.s__law_web) (fn := Ik80.f__law_web) rfl rfl rfl Ik80.sc__law_web Ik80.mb__law_web (fun z => nomatch z) (fun _ _ _ _ _ _ us hl => match us, hl with | [_, _, _, _], _ => rfl) ?a33 ?l33 ?c33 ?k33) ?_
    (case a33 => k_is); (case l33 => k_is); (case c33 => k_is); (case k33 => k_is)
    refine' TL.AllFI.cons (TL.fi_mk KX G (st := Ik80.s__law_joined) (fn := Ik80.f__law_joined) rfl rfl rfl Ik80.sc__law_joined Ik80.mb__law_joined (fun z => nomatch z) (fun _ _ _ _ _ _ us hl => match us, hl with | [_, _], _ => rfl) ?a34 ?l34 ?c34 ?k34) ?_
    (case a34 => k_is); (case l34 => k_is); (case c34 => k_is); (case k34 => k_is)
    refine' TL.AllFI.cons (TL.fi_mk KX G (st := Ik80.s__law_some_tree) (fn := Ik80.f__law_some_tree) rfl rfl rfl Ik80.sc__law_some_tree Ik80.mb__law_some_tree (fun z => nomatch z) (fun _ _ _ _ _ _ us hl => match us, hl with | [_, _], _ => rfl) ?a35 ?l35 ?c35 ?k35) ?_
    (case a35 => k_is); (case l35 => k_is); (case c35 => k_is); (case k35 => k_is)
    refine' TL.AllFI.cons (TL.fi_mk KX G (st := Ik80.s__law_is_tree) (fn := Ik80.f__law_is_tree) rfl rfl rfl Ik80.sc__law_is_tree Ik80.mb__law_is_tree (fun z => nomatch z) (fun _ _ _ _ _ _ us hl => match us, hl with | [_, _], _ => rfl) ?a36 ?l36 ?c36 ?k36) ?_
    (case a36 => k_is); (case l36 => k_is); (case c36 => k_is); (case k36 => k_is)
    refine' TL.AllFI.cons (TL.fi_mk KX G (st := Ik80.s__law_joins) (fn := Ik80.f__law_joins) rfl rfl rfl Ik80.sc__law_joins Ik80.mb__law_joins (fun z => nomatch z) (fun _ _ _ _ _ _ us hl => match us, hl with | [_], _ => rfl) ?a37 ?l37 ?c37 ?k37) ?_
    (case a37 => k_is); (case l37 => k_is); (case c37 => k_is); (case k37 => k_is)
    refine' TL.AllFI.cons (TL.fi_mk KX G (st := Ik80.s__law_pile) (fn := Ik80.f__law_pile) rfl rfl rfl Ik80.sc__law_pile Ik80.mb__law_pile (fun z => nomatch z) (fun _ _ _ _ _ _ us hl => match us, hl with | [_, _, _, _], _ => rfl) ?a38 ?l38 ?c38 ?k38) ?_
    (case a38 => k_is); (case l38 => k_is); (case c38 => k_is); (case k38 => k_is)
    refine' TL.AllFI.cons (TL.fi_mk KX G (st := Ik80.s__law_burnt) (fn := Ik80.f__law_burnt) rfl rfl rfl Ik80.sc__law_burnt Ik80.mb__law_burnt (fun z => nomatch z) (fun _ _ _ _ _ _ us hl => match us, hl with | [_, _, _], _ => rfl) ?a39 ?l39 ?c39 ?k39) ?_
    (case a39 => k_is); (case l39 => k_is); (case c39 => k_is); (case k39 => k_is)
    refine' TL.AllFI.cons (TL.fi_mk KX G (st := Ik80.s__law_is_steady) (fn := Ik80.f__law_is_steady) rfl rfl rfl Ik80.sc__law_is_steady Ik80.mb__law_is_steady (fun z => nomatch z) (fun _ _ _ _ _ _ us hl => match us, hl with | [_, _, _], _ => rfl) ?a40 ?l40 ?c40 ?k40) ?_
    (case a40 => k_is); (case l40 => k_is); (case c40 => k_is); (case k40 => k_is)
    refine' TL.AllFI.cons (TL.fi_mk KX G (st := Ik80.s__law_comes) (fn := Ik80.f__law_comes) rfl rfl rfl Ik80.sc__law_comes Ik80.mb__law_comes (fun z => nomatch z) (fun _ _ _ _ _ _ us hl => match us, hl with | [_, _, _], _ => rfl) ?a41 ?l41 ?c41 ?k41) ?_
    (case a41 => k_is); (case l41 => k_is); (case c41 => k_is); (case k41 => k_is)
    refine' TL.AllFI.cons (TL.fi_mk KX G (st := Ik80.s__law_by_numbers) (fn := Ik80.f__law_by_numbers) rfl rfl rfl Ik80.sc__law_by_numbers Ik80.mb__law_by_numbers (fun z => nomatch z) (fun _ _ _ _ _ _ us hl => match us, hl with | [_, _, _], _ => rfl) ?a42 ?l42 ?c42 ?k42) ?_
    (case a42 => k_is); (case l42 => k_is); (case c42 => k_is); (case k42 => k_is)
    refine' TL.AllFI.cons (TL.fi_mk KX G (st := Ik80.s__law_lights) (fn := Ik80.f__law_lights) rfl rfl rfl Ik80.sc__law_lights Ik80.mb__law_lights (fun _ => by decide +kernel) (fun _ _ _ _ _ _ us hl => match us, hl with | [_, _], _ => rfl) ?a43 ?l43 ?c43 ?k43) ?_
    (case a43 => k_is); (case l43 => k_is); (case c43 => k_is); (case k43 => k_is)
    refine' TL.AllFI.cons (TL.fi_mk KX G (st := Ik80.s__law_is_refused) (fn := Ik80.f__law_is_refused) rfl rfl rfl Ik80.sc__law_is_refused Ik80.mb__law_is_refused (fun z => nomatch z) (fun _ _ _ _ _ _ us hl => match us, hl with | [_], _ => rfl) ?a44 ?l44 ?c44 ?k44) ?_
    (case a44 => k_is); (case l44 => k_is); (case c44 => k_is); (case k44 => k_is)
    refine' TL.AllFI.cons (TL.fi_mk KX G (st := Ik80.s__law_pile_right) (fn := Ik80.f__law_pile_right) rfl rfl rfl Ik80.sc__law_pile_right Ik80.mb__law_pile_right (fun _ => by decide +kernel) (fun _ _ _ _ _ _ us hl => match us, hl with | [_, _, _], _ => rfl) ?a45 ?l45 ?c45 ?k45) ?_
    (case a45 => k_is); (case l45 => k_is); (case c45 => k_is); (case k45 => k_is)
    refine' TL.AllFI.cons (TL.fi_mk KX G (st := Ik80.s_law) (fn := Ik80.f_law) rfl rfl rfl Ik80.sc_law Ik80.mb_law (fun _ => by decide +kernel) (fun _ _ _ _ _ _ us hl => match us, hl with | [_], _ => rfl) ?a46 ?l46 ?c46 ?k46) ?_
    (case a46 => k_is); (case l46 => k_is); (case c46 => k_is); (case k46 => k_is)
    exact trivial
