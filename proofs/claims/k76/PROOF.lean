import PyProof.Rows.All
import Wide.All
import OpenK.AllK
import Wide.FinOn
import HandS.ForMost
import HandS.ForExc
import HandS.TupAny
import HandS.Deep
import HandS.SortInts
import HandS.IsInst
import HandS.ExcIs
import HandS.Wide
import HandS.Style
import HandS.Conv
import HandS.RaiseMore
import HandS.More
import HandS.Defaults
import KE.DataMinMax
import KE.SortData
import KE.DataFind
import KE.DataIsa
import PyProof.ReprReads
import KE.KStateDown
import HandS.HeadEnd
import HandS.HeadHook2
import HandS.Head0
import HandS.Head1
import HandS.Head2
import HandS.HeadHook1
import HandS.HeadHook3
import HandS.HeadHook4
import HandS.Small
import HandS.ListItems
import PyProof.SumAny
import HandS.SetFor
import HandS.TupSets
import PyProof.ReprRoads
import HandS.ExcValue
import KE.KDictZip
import HandS.Flt
import HandS.HotCalls
import HandS.Text
import HandS.Iter
import PyProof.P3In
import KE.KDictWalk
import KE.KDictCopyH
import PyProof.EqKinds
import KE.DataCmp
import KE.Datum
import KE.DatumMore
import PySem.Challenge.RW_farorders_k76_whole_listers_otherwise
set_option Elab.async false
set_option linter.all false
set_option maxRecDepth 100000
namespace VL
open PySem
/-- a thing with things of its own: frozen data, or a new list, tuple, instance (of a class of the module, by its attributes) of such -/
inductive Nd where
  | lst
  | tup
  | ins (c : Str) (fs : List Str)
inductive Tr where
  | fr (d : PyData)
  | nd (k : Nd) (ts : List Tr)
mutual
/-- as data, where nothing is an instance -/
def Tr.dat : Tr → Option PyData
  | .fr d => some d
  | .nd .lst ts => (Tr.dats ts).map .list
  | .nd .tup ts => (Tr.dats ts).map .tuple
  | .nd (.ins _ _) _ => none
def Tr.dats : List Tr → Option (List PyData)
  | [] => some []
  | t :: ts => t.dat.bind fun d => (Tr.dats ts).map (d :: ·)
end
/-- what a name holds: frozen data; a list or dict of its own, which may be changed; an error; another thing of its own, told by data -/
inductive B where
  | fr (d : PyData)
  | ow (ds : List PyData)
  | od (kvs : List (PyData × PyData))
  | ex (c : Str)
  | rs (k : Nat) (d : PyData)
  | sc (ns : List Int)
  | tr (t : Tr)
abbrev Env := List (Option B)
/-- an operand: the name in a slot, or a value -/
inductive O where
  | s (i : Nat)
  | b (x : B)
inductive Out (α : Type) where
  | ok (a : α) (e : Env)
  | ex (c : Str) (e : Env)
inductive SO where
  | nx (e : Env)
  | rt (b : B) (e : Env)
  | bk (e : Env)
  | ct (e : Env)
  | ex (c : Str) (e : Env)
abbrev FE := Env → Option (Out O)
abbrev FD := Env → Option (Out (List PyData))
abbrev FA := Env → Option (Out (List O))
abbrev FT := Env → Option (Out Bool)
abbrev FS := Env → Option SO
def B.dat : B → Option PyData
  | .fr d => some d
  | .ow ds => some (.list ds)
  | .od kvs => some (.dict kvs)
  | .ex _ => none
  | .rs _ _ => none
  | .sc _ => none
  | .tr _ => none
def at? (e : Env) (i : Nat) : Option B := match e[i]? with
  | some x => x
  | none => none
/-- what is read -/
def res (e : Env) : O → Option PyData
  | .s i => (at? e i).bind B.dat
  | .b b => b.dat
/-- frozen: data that is not changed any more -/
def fz (e : Env) : O → Option (PyData × Env)
  | .s i => match at? e i with
    | some (.fr d) => some (d, e)
    | some (.ow ds) => some (.list ds, e.set i (some (.fr (.list ds))))
    | some (.od kvs) => some (.dict kvs, e.set i (some (.fr (.dict kvs))))
    | some (.tr t) => t.dat.map fun d => (d, e.set i (some (.fr d)))
    | _ => none
  | .b b => match b with
    | .fr d => some (d, e)
    | .ow ds => some (.list ds, e)
    | .od kvs => some (.dict kvs, e)
    | .tr t => t.dat.map fun d => (d, e)
    | _ => none
/-- frozen, or an error, or the script -/
def fzB (e : Env) : O → Option (B × Env)
  | .s i => match at? e i with
    | some (.ex c) => some (.ex c, e)
    | some (.sc ns) => some (.sc ns, e)
    | _ => (fz e (.s i)).map fun p => (.fr p.1, p.2)
  | .b b => match b with
    | .ex c => some (.ex c, e)
    | .sc ns => some (.sc ns, e)
    | _ => (fz e (.b b)).map fun p => (.fr p.1, p.2)
def bnd {α β : Type} (r : Option (Out α)) (k : α → Env → Option (Out β)) : Option (Out β) := match r with
  | none => none
  | some (.ok a e) => k a e
  | some (.ex c e) => some (.ex c e)
def bndS {α : Type} (r : Option (Out α)) (k : α → Env → Option SO) : Option SO := match r with
  | none => none
  | some (.ok a e) => k a e
  | some (.ex c e) => some (.ex c e)
def ok {α : Type} (a : α) (e : Env) : Option (Out α) := some (.ok a e)
/-- frozen data as an operand -/
def okD (d : PyData) (e : Env) : Option (Out O) := some (.ok (.b (.fr d)) e)
def fVar (i : Nat) : FE := fun e => match at? e i with
  | some _ => some (.ok (.s i) e)
  | none => none
def fC (d : PyData) : FE := fun e => okD d e
def fBin (op : PyData → PyData → Option B) (fa fb : FE) : FE := fun e => bnd (fa e) fun o1 e1 => bnd (fb e1) fun o2 e2 =>
  (res e2 o1).bind fun x => (res e2 o2).bind fun y => (op x y).bind fun z => some (.ok (.b z) e2)
def fUn (op : PyData → Option B) (fa : FE) : FE := fun e => bnd (fa e) fun o1 e1 => (res e1 o1).bind fun x => (op x).bind fun z => some (.ok (.b z) e1)
/-- items of a display, each frozen -/
def dNil : FD := fun e => some (.ok [] e)
def dCons (f : FE) (r : FD) : FD := fun e => bnd (f e) fun o e1 => (fz e1 o).bind fun p => bnd (r p.2) fun ds e2 => some (.ok (p.1 :: ds) e2)
def fLst (r : FD) : FE := fun e => bnd (r e) fun ds e1 => if ds.length ≤ 1000 then some (.ok (.b (.ow ds)) e1) else none
def fTup (r : FD) : FE := fun e => bnd (r e) fun ds e1 => if ds.length ≤ 1000 then some (.ok (.b (.fr (.tuple ds))) e1) else none
/-- tests -/
def fTest (f : FE) : FT := fun e => bnd (f e) fun o e1 => match res e1 o with
  | some (.bool b) => some (.ok b e1)
  | _ => none
def tAnd (t u : FT) : FT := fun e => bnd (t e) fun b e1 => match b with
  | true => u e1
  | false => some (.ok false e1)
def tOr (t u : FT) : FT := fun e => bnd (t e) fun b e1 => match b with
  | true => some (.ok true e1)
  | false => u e1
def tNot (t : FT) : FT := fun e => bnd (t e) fun b e1 => some (.ok (!b) e1)
def fIf (t : FT) (fa fb : FE) : FE := fun e => bnd (t e) fun b e1 => match b with
  | true => fa e1
  | false => fb e1
def sNil : FS := fun e => some (.nx e)
def sSeq (f g : FS) : FS := fun e => match f e with
  | some (.nx e1) => g e1
  | r => r
def sExpr (f : FE) : FS := fun e => bndS (f e) fun _ e1 => some (.nx e1)
/-- x = e, frozen -/
def sAsg (i : Nat) (f : FE) : FS := fun e => bndS (f e) fun o e1 => (fzB e1 o).bind fun p => some (.nx (p.2.set i (some p.1)))
/-- x = e, x's own from here on -/
def sOwn (i : Nat) (f : FE) : FS := fun e => bndS (f e) fun o e1 => match o with
  | .b b => some (.nx (e1.set i (some b)))
  | .s _ => none
/-- return of a new list: the caller's own -/
def sRetO (f : FE) : FS := fun e => bndS (f e) fun o e1 => match o with
  | .b b => some (.rt b e1)
  | .s i => (at? e1 i).bind fun b => some (.rt b (e1.set i none))
def sRetN : FS := fun e => some (.rt (.fr .none) e)
def sIf (t : FT) (f g : FS) : FS := fun e => bndS (t e) fun b e1 => match b with
  | true => f e1
  | false => g e1
def sRaise (c : Str) : FS := fun e => some (.ex c e)
def sBrk : FS := fun e => some (.bk e)
/-- names forgotten -/
def forget (vs : List Nat) (e : Env) : Env := vs.foldl (fun e i => e.set i none) e
end VL
namespace VL
open PySem L2
def aNil : FA := fun e => some (.ok [] e)
def aCons (f : FE) (r : FA) : FA := fun e => bnd (f e) fun o e1 => bnd (r e1) fun os e2 => some (.ok (o :: os) e2)
def resAll (e : Env) : List O → Option (List PyData)
  | [] => some []
  | o :: os => (res e o).bind fun d => (resAll e os).bind fun ds => some (d :: ds)
def fCB (g : List PyData → Option B) (fa : FA) : FE := fun e => bnd (fa e) fun os e1 => (resAll e1 os).bind fun ds => (g ds).bind fun z => some (.ok (.b z) e1)
/-- a < b < c -/
def fChain (g h : PyData → PyData → Option B) (fa fb fc : FE) : FE := fun e => bnd (fa e) fun o1 e1 => bnd (fb e1) fun o2 e2 =>
  (res e2 o1).bind fun x => (res e2 o2).bind fun y => match g x y with
    | some (.fr (.bool true)) => bnd (fc e2) fun o3 e3 => (res e3 o2).bind fun y' => (res e3 o3).bind fun z => (h y' z).bind fun r => some (.ok (.b r) e3)
    | some (.fr (.bool false)) => some (.ok (.b (.fr (.bool false))) e2)
    | _ => none
def fAndV (fa fb : FE) : FE := fun e => bnd (fa e) fun o e1 => match res e1 o with
  | some (.bool true) => fb e1
  | some (.bool false) => okD (.bool false) e1
  | _ => none
def fOrV (fa fb : FE) : FE := fun e => bnd (fa e) fun o e1 => match res e1 o with
  | some (.bool true) => okD (.bool true) e1
  | some (.bool false) => fb e1
  | _ => none
def fNotV (fa : FE) : FE := fun e => bnd (fa e) fun o e1 => match res e1 o with
  | some (.bool b) => okD (.bool (!b)) e1
  | _ => none
def big : Nat := 1000000
def oAdd : PyData → PyData → Option B
  | .int i, .int j => some (.fr (.int (i + j)))
  | .str a, .str b => if a.length + b.length ≤ big then some (.fr (.str (a ++ b))) else none
  | .list xs, .list ys => if xs.length + ys.length ≤ big then some (.ow (xs ++ ys)) else none
  | .tuple xs, .tuple ys => if xs.length + ys.length ≤ big then some (.fr (.tuple (xs ++ ys))) else none
  | _, _ => none
def cMul (i j : Int) : Bool := decide (i.natAbs < 2 ^ 64) || decide (j.natAbs < 2 ^ 64)
def oMul : PyData → PyData → Option B
  | .int i, .int j => if cMul i j = true then some (.fr (.int (i * j))) else none
  | .list xs, .int k => if k.natAbs < 2 ^ 63 ∧ xs.length * k.toNat ≤ big then some (.ow (List.replicate k.toNat xs).flatten) else none
  | _, _ => none
def cFdiv (i j : Int) : Bool := decide (0 < j) && decide (j.natAbs < 2 ^ 200)
def isE : PyData → PyData → Option Bool
  | .list xs, .list [] => some xs.isEmpty
  | .str a, .str b => some (a == b)
  | _, _ => none
def oEq : PyData → PyData → Option B := fun x y => if SeqAt.shaped x = true ∧ SeqAt.shaped y = true then some (.fr (.bool (PyData.eqv x y))) else (isE x y).map fun b => .fr (.bool b)
def oNe : PyData → PyData → Option B := fun x y => if SeqAt.shaped x = true ∧ SeqAt.shaped y = true then some (.fr (.bool (!PyData.eqv x y))) else (isE x y).map fun b => .fr (.bool (!b))
def oNotIn : PyData → PyData → Option B
  | x, .list ds => if SeqAt.shaped x = true ∧ SeqAt.shaped (.list ds) = true then some (.fr (.bool (!ds.any fun z => PyData.eqv z x))) else none
  | .str a, .str z => if a.cps.size = 1 then some (.fr (.bool (!decide (a.cps.getD 0 0 ∈ z.cps.toList)))) else none
  | _, _ => none
def isNone : PyData → Bool
  | .none => true
  | _ => false
def oIs : PyData → PyData → Option B
  | x, .none => some (.fr (.bool (isNone x)))
  | .bool a, .bool b => some (.fr (.bool (decide (a = b))))
  | _, _ => none
def oIsNot : PyData → PyData → Option B
  | x, .none => some (.fr (.bool (!isNone x)))
  | .bool a, .bool b => some (.fr (.bool (!decide (a = b))))
  | _, _ => none
def oIx : PyData → PyData → Option B
  | .list ds, .int i => (atI ds i).map .fr
  | .tuple ds, .int i => (atI ds i).map .fr
  | .str z, .int i => if z.length ≤ big then (atI z.cps.toList i).map fun c => .fr (.str ⟨#[c]⟩) else none
  | _, _ => none
/-- a part of a slice -/
abbrev FO := Env → Option (Out (Option Int))
def oNo : FO := fun e => some (.ok none e)
def oSome (f : FE) : FO := fun e => bnd (f e) fun o e1 => match res e1 o with
  | some (.int i) => some (.ok (some i) e1)
  | _ => none
def cutD {α : Type} (xs : List α) (lo hi : Option Int) : List α := (xs.drop (HT.sIx xs.length 0 lo)).take (HT.sIx xs.length xs.length hi - HT.sIx xs.length 0 lo)
def oSl : PyData → Option Int → Option Int → Option B
  | .list ds, lo, hi => some (.ow (cutD ds lo hi))
  | .str z, lo, hi => if z.length ≤ big then some (.fr (.str (cutS z lo hi))) else none
  | _, _, _ => none
def fSl (fa : FE) (fl fh : FO) : FE := fun e => bnd (fa e) fun o e1 => bnd (fl e1) fun l e2 => bnd (fh e2) fun h e3 => (res e3 o).bind fun x => (oSl x l h).bind fun z => some (.ok (.b z) e3)
def oRev : PyData → Option B
  | .list ds => some (.ow ds.reverse)
  | _ => none
def asInts : List PyData → Option (List Int)
  | [] => some []
  | .int i :: ds => (asInts ds).map (i :: ·)
  | _ => none
def gLen : List PyData → Option B
  | [.list ds] => some (.fr (.int ds.length))
  | [.tuple ds] => some (.fr (.int ds.length))
  | [.str z] => if z.length ≤ big then some (.fr (.int z.length)) else none
  | [.dict ks] => some (.fr (.int ks.length))
  | _ => none
def gAbs : List PyData → Option B
  | [.int i] => some (.fr (.int (if i < 0 then -i else i)))
  | _ => none
def maxI : List Int → Int
  | [] => 0
  | x :: xs => xs.foldl max x
def minI : List Int → Int
  | [] => 0
  | x :: xs => xs.foldl min x
def gMax : List PyData → Option B
  | [.int i, .int j] => some (.fr (.int (if j > i then j else i)))
  | [.list (d :: ds)] => (asInts (d :: ds)).map fun ns => .fr (.int (maxI ns))
  | _ => none
def gMin : List PyData → Option B
  | [.int i, .int j] => some (.fr (.int (if j < i then j else i)))
  | [.list (d :: ds)] => (asInts (d :: ds)).map fun ns => .fr (.int (minI ns))
  | _ => none
def gInt : List PyData → Option B
  | [.int i] => some (.fr (.int i))
  | [.bool b] => some (.fr (.int (if b then 1 else 0)))
  | _ => none
def gList : List PyData → Option B
  | [.list ds] => some (.ow ds)
  | [.tuple ds] => some (.ow ds)
  | _ => none
def gTuple : List PyData → Option B
  | [.list ds] => some (.fr (.tuple ds))
  | [.tuple ds] => some (.fr (.tuple ds))
  | _ => none
/-- sorted, of ints -/
def leI (a b : Int) : Bool := decide (a ≤ b)
def gSorted : List PyData → Option B
  | [.list ds] => (asInts ds).map fun ns => .ow ((ns.mergeSort leI).map .int)
  | _ => none
end VL
namespace VL
open PySem L2
abbrev FI := Env → Option (Out (List PyData))
/-- a list (frozen), a tuple -/
def iSeq (f : FE) : FI := fun e => bnd (f e) fun o e1 => (fz e1 o).bind fun p => match p.1 with
  | .list ds => some (.ok ds p.2)
  | _ => none
def rngN (lo : Int) (n : Nat) : List PyData := (List.range n).map fun (i : Nat) => .int (lo + (i : Int))
def lim (i : Int) : Bool := decide (i.natAbs < 2 ^ 62)
def iRange1 (f : FE) : FI := fun e => bnd (f e) fun o e1 => match res e1 o with
  | some (.int j) => if lim j = true then some (.ok (rngN 0 j.toNat) e1) else none
  | _ => none
def iRange2 (f g : FE) : FI := fun e => bnd (f e) fun o e1 => bnd (g e1) fun o2 e2 => match res e2 o, res e2 o2 with
  | some (.int i), some (.int j) => if lim i = true ∧ lim j = true then some (.ok (rngN i (j - i).toNat) e2) else none
  | _, _ => none
def enumL : Nat → List PyData → List PyData
  | _, [] => []
  | i, d :: ds => .tuple [.int i, d] :: enumL (i + 1) ds
def iEnumr (f : FE) : FI := fun e => bnd (f e) fun o e1 => (fz e1 o).bind fun p => match p.1 with
  | .list ds => some (.ok (enumL 0 ds) p.2)
  | _ => none
def iZipp (f g : FE) : FI := fun e => bnd (f e) fun o e1 => (fz e1 o).bind fun p => bnd (g p.2) fun o2 e2 => (fz e2 o2).bind fun q => match p.1, q.1 with
  | .list ds, .list es => some (.ok (List.zipWith (fun a b => .tuple [a, b]) ds es) q.2)
  | _, _ => none
abbrev FG := PyData → Env → Option Env
def gN (i : Nat) : FG := fun d e => some (e.set i (some (.fr d)))
def gT2 (i j : Nat) : FG := fun d e => match d with
  | .tuple [a, b] => some ((e.set i (some (.fr a))).set j (some (.fr b)))
  | _ => none
def sForL (g : FG) (body : FS) (dead : List Nat) : List PyData → FS
  | [], e => some (.nx (forget dead e))
  | d :: ds, e => match g d e with
    | none => none
    | some e1 => match body e1 with
      | some (.nx e2) => sForL g body dead ds (forget dead e2)
      | some (.ct e2) => sForL g body dead ds (forget dead e2)
      | some (.bk e2) => some (.nx (forget dead e2))
      | some (.rt b e2) => some (.rt b e2)
      | some (.ex c e2) => some (.ex c e2)
      | none => none
def sFor (fi : FI) (g : FG) (body : FS) (dead : List Nat) : FS := fun e => bndS (fi e) fun ds e1 => sForL g body dead ds e1
def tTrue : FT := fun e => some (.ok true e)
def fLcL (g : FG) (t : FT) (f : FE) (vs : List Nat) : List PyData → List PyData → Env → Option (Out O)
  | [], acc, e => some (.ok (.b (.ow acc)) e)
  | d :: ds, acc, e => match g d e with
    | none => none
    | some e1 => match t e1 with
      | some (.ok true e2) => match f e2 with
        | some (.ok o e3) => match fz e3 o with
          | some p => if acc.length < big then fLcL g t f vs ds (acc ++ [p.1]) (forget vs p.2) else none
          | none => none
        | _ => none
      | some (.ok false e2) => fLcL g t f vs ds acc (forget vs e2)
      | _ => none
def fLc (fi : FI) (g : FG) (t : FT) (f : FE) (vs : List Nat) : FE := fun e => bnd (fi e) fun ds e1 => fLcL g t f vs ds [] (forget vs e1)
inductive FR where
  | ret (b : B) (e : Env)
  | ex (c : Str) (e : Env)
abbrev Fn := List B → Option FR
/-- a def by its body, n names in all -/
def runF (g : FS) (n : Nat) : Fn := fun bs => match g (bs.map some ++ List.replicate (n - bs.length) none) with
  | some (.nx e) => some (.ret (.fr .none) e)
  | some (.rt b e) => some (.ret b e)
  | some (.ex c e) => some (.ex c e)
  | _ => none
/-- arguments: frozen; a name of one's own handed in to be changed -/
def aF (f : FE) (r : FA) : FA := fun e => bnd (f e) fun o e1 => (fzB e1 o).bind fun p => bnd (r p.2) fun os e2 => some (.ok (.b p.1 :: os) e2)
def aM (i : Nat) (r : FA) : FA := fun e => match at? e i with
  | some _ => bnd (r e) fun os e2 => some (.ok (.s i :: os) e2)
  | none => none
def bindO (e : Env) : List O → Option (List B)
  | [] => some []
  | .b x :: os => (bindO e os).bind fun bs => some (x :: bs)
  | .s i :: os => (at? e i).bind fun x => (bindO e os).bind fun bs => some (x :: bs)
/-- mi: (the parameter's place, the caller's slot) -/
def putBack (e2 : Env) : List (Nat × Nat) → Env → Env
  | [], e => e
  | (j, i) :: r, e => putBack e2 r (e.set i (at? e2 j))
/-- where the arguments' slots are those of mi, and all else is frozen -/
def slotsOk (mi : List (Nat × Nat)) : Nat → List O → Bool
  | _, [] => true
  | j, .s i :: os => decide ((j, i) ∈ mi) && slotsOk mi (j + 1) os
  | j, .b x :: os => (match x with
    | .fr _ => true
    | .ex _ => true
    | .sc _ => true
    | _ => false) && slotsOk mi (j + 1) os
def miOk (mi : List (Nat × Nat)) (os : List O) : Bool := mi.all fun p => match os[p.1]? with
  | some (.s i) => i == p.2
  | _ => false
def fCall (F : Fn) (n : Nat) (mi : List (Nat × Nat)) (fa : FA) : FE := fun e => bnd (fa e) fun os e1 => if (slotsOk mi 0 os && miOk mi os && os.length == n) = true then (bindO e1 os).bind fun bs => match F bs with
  | none => none
  | some (.ret b e2) => some (.ok (.b b) (putBack e2 mi e1))
  | some (.ex c e2) => some (.ex c (putBack e2 mi e1)) else none
/-- names of one's own lent to be read; the answer is flat -/
def isFlat : PyData → Bool
  | .none => true
  | .bool _ => true
  | .int _ => true
  | .str _ => true
  | _ => false
def aP (f : FE) (r : FA) : FA := fun e => bnd (f e) fun o e1 => match o with
  | .s i => bnd (r e1) fun os e2 => some (.ok (.s i :: os) e2)
  | .b _ => (fzB e1 o).bind fun p => bnd (r p.2) fun os e2 => some (.ok (.b p.1 :: os) e2)
def lent : B → Option B
  | .fr d => some (.fr d)
  | .ow ds => some (.fr (.list ds))
  | .od ks => some (.fr (.dict ks))
  | .ex c => some (.ex c)
  | .sc ns => some (.sc ns)
  | .rs _ _ => none
  | .tr t => t.dat.map .fr
def lendO (e : Env) : List O → Option (List B)
  | [] => some []
  | .b x :: os => (lendO e os).bind fun bs => some (x :: bs)
  | .s i :: os => ((at? e i).bind lent).bind fun x => (lendO e os).bind fun bs => some (x :: bs)
/-- nothing owned in what is handed in as a value -/
def flatO : List O → Bool
  | [] => true
  | .s _ :: os => flatO os
  | .b x :: os => (match x with
    | .fr _ => true
    | .ex _ => true
    | .sc _ => true
    | _ => false) && flatO os
def fCallP (F : Fn) (n : Nat) (fa : FA) : FE := fun e => bnd (fa e) fun os e1 => if flatO os = true then (lendO e1 os).bind fun bs => if bs.length = n then match F bs with
  | some (.ret (.fr d) _) => if isFlat d = true then okD d e1 else none
  | some (.ex c _) => some (.ex c e1)
  | _ => none else none else none
end VL
namespace VL
open PySem L2
/-- x.m(..), x in slot i -/
def fMth (i : Nat) (g : List PyData → List PyData → Option (B × List PyData)) (fd : FD) : FE := fun e => match at? e i with
  | some (.ow _) => bnd (fd e) fun as e1 => match at? e1 i with
    | some (.ow ds) => (g ds as).bind fun p => some (.ok (.b p.1) (e1.set i (some (.ow p.2))))
    | _ => none
  | _ => none
def mAppend (ds : List PyData) : List PyData → Option (B × List PyData)
  | [d] => if ds.length < big then some (.fr .none, ds ++ [d]) else none
  | _ => none
def mExtend (ds : List PyData) : List PyData → Option (B × List PyData)
  | [.list es] => if ds.length + es.length ≤ big then some (.fr .none, ds ++ es) else none
  | _ => none
def lim63 (i : Int) : Bool := decide (i.natAbs < 2 ^ 63)
def mPop (ds : List PyData) : List PyData → Option (B × List PyData)
  | [] => (ds[ds.length - 1]?).map fun d => (.fr d, ds.dropLast)
  | [.int i] => if lim63 i = true then (seqIndex? i ds.length).bind fun k => (ds[k]?).map fun d => (.fr d, ds.eraseIdx k) else none
  | _ => none
def mInsert (ds : List PyData) : List PyData → Option (B × List PyData)
  | [.int i, d] => if 0 ≤ i ∧ i.natAbs < 2 ^ 62 ∧ ds.length < big then some (.fr .none, ds.take i.toNat ++ [d] ++ ds.drop i.toNat) else none
  | _ => none
def mRemove (ds : List PyData) : List PyData → Option (B × List PyData)
  | [d] => if SeqAt.shaped d = true ∧ SeqAt.shaped (.list ds) = true then (SeqAt.dataPlace ds d).map fun j => (.fr .none, ds.eraseIdx j) else none
  | _ => none
/-- x[f] = .., x in slot i -/
def putAt (i : Nat) (f : FE) (d : PyData) : Env → Option (Out Unit) := fun e => match at? e i with
  | none => none
  | some _ => bnd (f e) fun o e1 => match res e1 o, at? e1 i with
    | some (.int k), some (.ow ds) => (ixN ds.length k).bind fun j => some (.ok () (e1.set i (some (.ow (ds.set j d)))))
    | _, _ => none
def sPut (i : Nat) (fx fv : FE) : FS := fun e => bndS (fv e) fun o e1 => (fz e1 o).bind fun p => bndS (putAt i fx p.1 p.2) fun _ e2 => some (.nx e2)
/-- x[a], y[b] = u, v -/
def sPut2 (i : Nat) (fx : FE) (j : Nat) (fy : FE) (fd : FD) : FS := fun e => bndS (fd e) fun ds e1 => match ds with
  | [a, b] => bndS (putAt i fx a e1) fun _ e2 => bndS (putAt j fy b e2) fun _ e3 => some (.nx e3)
  | _ => none
/-- x op= e -/
def sAug (i : Nat) (op : PyData → PyData → Option B) (f : FE) : FS := fun e => match at? e i with
  | some (.fr d0) => bndS (f e) fun o e1 => match res e1 o with
    | some d => match op d0 d with
      | some (.fr z) => some (.nx (e1.set i (some (.fr z))))
      | _ => none
    | none => none
  | _ => none
/-- a target takes the value -/
def sTgt (g : FG) (f : FE) : FS := fun e => bndS (f e) fun o e1 => (fz e1 o).bind fun p => (g p.1 p.2).bind fun e2 => some (.nx e2)
end VL
set_option maxRecDepth 100000
namespace VL
open PySem L2
def kP : Key → PyData
  | .inl i => .int i
  | .inr x => .str x
mutual
inductive Rp (K : PySem.W.Frag) (G : Hp) : V → PyData → Prop
  | non : Rp K G .non .none
  | bl (b : Bool) : Rp K G (.bl b) (.bool b)
  | int (i : Int) : Rp K G (.int i) (.int i)
  | str (x : Str) : Rp K G (.str x) (.str x)
  | lst {a : Addr} {xs : List V} {ds : List PyData} : G a = some (.lst xs) → RpAll K G xs ds → Rp K G (.ref a) (.list ds)
  | tup {a : Addr} {xs : List V} {ds : List PyData} : G a = some (.tup xs) → RpAll K G xs ds → Rp K G (.ref a) (.tuple ds)
  | dic {a : Addr} {ks : List (Key × V)} {ds : List (PyData × PyData)} : G a = some (.dK ks) → ks.map (fun p => kP p.1) = ds.map (·.1) → RpAll K G (ks.map (·.2)) (ds.map (·.2)) → Rp K G (.ref a) (.dict ds)
inductive RpAll (K : PySem.W.Frag) (G : Hp) : List V → List PyData → Prop
  | nil : RpAll K G [] []
  | cons {v : V} {vs : List V} {d : PyData} {ds : List PyData} : Rp K G v d → RpAll K G vs ds → RpAll K G (v :: vs) (d :: ds)
end
section
variable {K : PySem.W.Frag} {G G' : Hp}
mutual
theorem Rp.mono (e : Same G G') : ∀ {v : V} {d : PyData}, Rp K G v d → Rp K G' v d
  | _, _, .non => .non
  | _, _, .bl b => .bl b
  | _, _, .int i => .int i
  | _, _, .str x => .str x
  | _, _, .lst h a => .lst (e _ _ h) (RpAll.mono e a)
  | _, _, .tup h a => .tup (e _ _ h) (RpAll.mono e a)
  | _, _, .dic h k a => .dic (e _ _ h) k (RpAll.mono e a)
theorem RpAll.mono (e : Same G G') : ∀ {vs : List V} {ds : List PyData}, RpAll K G vs ds → RpAll K G' vs ds
  | _, _, .nil => .nil
  | _, _, .cons h t => .cons (Rp.mono e h) (RpAll.mono e t)
end
theorem RpAll.length : ∀ {vs : List V} {ds : List PyData}, RpAll K G vs ds → vs.length = ds.length
  | _, _, .nil => rfl
  | _, _, .cons _ t => by rw [List.length_cons, List.length_cons, RpAll.length t]
theorem RpAll.append : ∀ {vs ws : List V} {ds es : List PyData}, RpAll K G vs ds → RpAll K G ws es → RpAll K G (vs ++ ws) (ds ++ es)
  | _, _, _, _, .nil, k => k
  | _, _, _, _, .cons h t, k => .cons h (RpAll.append t k)
theorem RpAll.get : ∀ {vs : List V} {ds : List PyData} {i : Nat} {d : PyData}, RpAll K G vs ds → ds[i]? = some d → ∃ v, vs[i]? = some v ∧ Rp K G v d
  | _, _, _, _, .nil, e => by simp at e
  | _, _, 0, _, .cons r _, e => by simp at e; subst e; exact ⟨_, rfl, r⟩
  | _, _, i + 1, d, .cons _ t, e => by
    obtain ⟨u, h1, h2⟩ := RpAll.get (i := i) (d := d) t (by simpa using e)
    exact ⟨u, by simpa using h1, h2⟩
theorem RpAll.set {v : V} {d : PyData} (r : Rp K G v d) : ∀ {vs : List V} {ds : List PyData} (i : Nat), RpAll K G vs ds → RpAll K G (vs.set i v) (ds.set i d)
  | _, _, _, .nil => .nil
  | _, _, 0, .cons _ t => .cons r t
  | _, _, i + 1, .cons q t => .cons q (RpAll.set r i t)
theorem RpAll.take : ∀ {vs : List V} {ds : List PyData} (n : Nat), RpAll K G vs ds → RpAll K G (vs.take n) (ds.take n)
  | _, _, 0, _ => .nil
  | _, _, _ + 1, .nil => .nil
  | _, _, n + 1, .cons r t => .cons r (RpAll.take n t)
theorem RpAll.drop : ∀ {vs : List V} {ds : List PyData} (n : Nat), RpAll K G vs ds → RpAll K G (vs.drop n) (ds.drop n)
  | _, _, 0, r => r
  | _, _, _ + 1, .nil => .nil
  | _, _, n + 1, .cons _ t => RpAll.drop n t
theorem RpAll.eraseIdx : ∀ {vs : List V} {ds : List PyData} (n : Nat), RpAll K G vs ds → RpAll K G (vs.eraseIdx n) (ds.eraseIdx n)
  | _, _, _, .nil => .nil
  | _, _, 0, .cons _ t => t
  | _, _, n + 1, .cons r t => .cons r (RpAll.eraseIdx n t)
theorem RpAll.reverse {vs : List V} {ds : List PyData} (h : RpAll K G vs ds) : RpAll K G vs.reverse ds.reverse := by
  have go : ∀ {vs : List V} {ds : List PyData}, RpAll K G vs ds → ∀ {ws : List V} {es : List PyData}, RpAll K G ws es → RpAll K G (vs.reverse ++ ws) (ds.reverse ++ es) := by
    intro vs
    induction vs with
    | nil => intro ds h ws es k; cases h; exact k
    | cons v vs ih =>
      intro ds h ws es k
      cases h with
      | cons h1 h2 =>
        rw [List.reverse_cons, List.reverse_cons, List.append_assoc, List.append_assoc]
        exact ih h2 (.cons h1 k)
  have z := go h .nil
  rwa [List.append_nil, List.append_nil] at z
mutual
/-- without dicts it is the kit's Dp -/
theorem Rp.dp : ∀ {v : V} (d : PyData), d.canLay0 = true → Rp K G v d → Dp K G v d
  | _, .none, _, .non => .non
  | _, .bool _, _, .bl b => .bl b
  | _, .int _, _, .int i => .int i
  | _, .str _, _, .str x => .str x
  | _, .list ds, c, .lst h a => .lst (.of h) (RpAll.dp ds (by simpa [PyData.canLay0] using c) a)
  | _, .tuple ds, c, .tup h a => .tup (.of h) (RpAll.dp ds (by simpa [PyData.canLay0] using c) a)
  | _, .dict _, c, _ => by simp [PyData.canLay0] at c
theorem RpAll.dp : ∀ {vs : List V} (ds : List PyData), PyData.canLayAll0 ds = true → RpAll K G vs ds → DpAll K G vs ds
  | _, [], _, .nil => .nil
  | _, d :: ds, c, .cons h t => by
    have c' : d.canLay0 = true ∧ PyData.canLayAll0 ds = true := by simpa [PyData.canLayAll0] using c
    exact .cons (Rp.dp d c'.1 h) (RpAll.dp ds c'.2 t)
end
end
structure Res where
  rep : PySem.W.Frag → Hp → Hp → V → PyData → (Addr → Prop) → Prop
  frame : ∀ {K : PySem.W.Frag} {G H G' H' : Hp} {v : V} {d : PyData} {fp : Addr → Prop}, rep K G H v d fp → Same G G' → (∀ a, fp a → H' a = H a ∧ G' a = G a) → rep K G' H' v d fp
  own : ∀ {K : PySem.W.Frag} {G H : Hp} {v : V} {d : PyData} {fp : Addr → Prop}, rep K G H v d fp → ∀ a, fp a → G a = none ∧ ∃ o, H a = some o
structure Cc where
  K : PySem.W.Frag
  mg : Str → Option Value
  rho : Nat → Res
/-- an exception of the class at A, that is held -/
def XO (A p : Addr) : HO := .ext fun h => ∃ (oe : Obj) (vs : Array Value), h.get? p = some oe ∧ Zc (.ref A) none oe ∧ oe.data = .fields vs
structure WS where
  G : Hp
  H : Hp
  fp : Nat → Addr → Prop
mutual
/-- a thing at v, its own at the addresses told -/
inductive TOk (C : Cc) (G H : Hp) : Tr → V → List Addr → Prop
  | fr {v : V} {d : PyData} : Rp C.K G v d → TOk C G H (.fr d) v []
  | lst {ts : List Tr} {p : Addr} {xs : List V} {as : List Addr} : G p = none → H p = some (.lst xs) → TAll C G H ts xs as → TOk C G H (.nd .lst ts) (.ref p) (p :: as)
  | tup {ts : List Tr} {p : Addr} {xs : List V} {as : List Addr} : G p = none → H p = some (.tup xs) → TAll C G H ts xs as → TOk C G H (.nd .tup ts) (.ref p) (p :: as)
  | ins {c : Str} {fs : List Str} {ts : List Tr} {p dx A : Addr} {xs : List V} {as : List Addr} : C.mg c = some (.ref A) → G p = none → H p = some (.ins A dx (fs.zip xs)) → fs.length = xs.length → G dx = none → H dx = some (.own p) → TAll C G H ts xs as → TOk C G H (.nd (.ins c fs) ts) (.ref p) (p :: dx :: as)
inductive TAll (C : Cc) (G H : Hp) : List Tr → List V → List Addr → Prop
  | nil : TAll C G H [] [] []
  | cons {t : Tr} {x : V} {as bs : List Addr} {ts : List Tr} {xs : List V} : TOk C G H t x as → TAll C G H ts xs bs → TAll C G H (t :: ts) (x :: xs) (as ++ bs)
end
section
variable {C : Cc} {G H G' H' : Hp}
mutual
theorem TOk.own : ∀ {t : Tr} {v : V} {as : List Addr}, TOk C G H t v as → ∀ a ∈ as, G a = none ∧ ∃ o, H a = some o
  | _, _, _, .fr _, a, ha => by cases ha
  | _, _, _, .lst h1 h2 t, a, ha => by
    rcases List.mem_cons.mp ha with rfl | ha
    · exact ⟨h1, _, h2⟩
    · exact TAll.own t a ha
  | _, _, _, .tup h1 h2 t, a, ha => by
    rcases List.mem_cons.mp ha with rfl | ha
    · exact ⟨h1, _, h2⟩
    · exact TAll.own t a ha
  | _, _, _, .ins _ h1 h2 _ h4 h5 t, a, ha => by
    rcases List.mem_cons.mp ha with rfl | ha
    · exact ⟨h1, _, h2⟩
    · rcases List.mem_cons.mp ha with rfl | ha
      · exact ⟨h4, _, h5⟩
      · exact TAll.own t a ha
theorem TAll.own : ∀ {ts : List Tr} {xs : List V} {as : List Addr}, TAll C G H ts xs as → ∀ a ∈ as, G a = none ∧ ∃ o, H a = some o
  | _, _, _, .nil, a, ha => by cases ha
  | _, _, _, .cons h t, a, ha => by
    rcases List.mem_append.mp ha with ha | ha
    · exact TOk.own h a ha
    · exact TAll.own t a ha
end
mutual
theorem TOk.mono (e : Same G G') : ∀ {t : Tr} {v : V} {as : List Addr}, TOk C G H t v as → (∀ a ∈ as, H' a = H a ∧ G' a = G a) → TOk C G' H' t v as
  | _, _, _, .fr r, _ => .fr (r.mono e)
  | _, _, _, .lst h1 h2 t, k => by
    obtain ⟨k1, k2⟩ := k _ List.mem_cons_self
    exact .lst (k2.trans h1) (k1.trans h2) (TAll.mono e t fun a ha => k a (List.mem_cons_of_mem _ ha))
  | _, _, _, .tup h1 h2 t, k => by
    obtain ⟨k1, k2⟩ := k _ List.mem_cons_self
    exact .tup (k2.trans h1) (k1.trans h2) (TAll.mono e t fun a ha => k a (List.mem_cons_of_mem _ ha))
  | _, _, _, .ins h0 h1 h2 h3 h4 h5 t, k => by
    obtain ⟨k1, k2⟩ := k _ List.mem_cons_self
    obtain ⟨k3, k4⟩ := k _ (List.mem_cons_of_mem _ List.mem_cons_self)
    exact .ins h0 (k2.trans h1) (k1.trans h2) h3 (k4.trans h4) (k3.trans h5) (TAll.mono e t fun a ha => k a (List.mem_cons_of_mem _ (List.mem_cons_of_mem _ ha)))
theorem TAll.mono (e : Same G G') : ∀ {ts : List Tr} {xs : List V} {as : List Addr}, TAll C G H ts xs as → (∀ a ∈ as, H' a = H a ∧ G' a = G a) → TAll C G' H' ts xs as
  | _, _, _, .nil, _ => .nil
  | _, _, _, .cons h t, k => .cons (TOk.mono e h fun a ha => k a (List.mem_append_left _ ha)) (TAll.mono e t fun a ha => k a (List.mem_append_right _ ha))
end
mutual
/-- all its own frozen -/
theorem TOk.rp (e : Same G G') : ∀ {t : Tr} {v : V} {as : List Addr} {d : PyData}, TOk C G H t v as → (∀ a ∈ as, G' a = H a) → t.dat = some d → Rp C.K G' v d
  | _, _, _, _, .fr r, _, h => by cases h; exact r.mono e
  | .nd .lst ts, _, _, d, .lst h1 h2 t, k, h => by
    cases q : Tr.dats ts with
    | none => rw [Tr.dat, q] at h; cases h
    | some ds =>
      rw [Tr.dat, q] at h
      cases h
      exact .lst ((k _ List.mem_cons_self).trans h2) (TAll.rp e t (fun a ha => k a (List.mem_cons_of_mem _ ha)) q)
  | .nd .tup ts, _, _, d, .tup h1 h2 t, k, h => by
    cases q : Tr.dats ts with
    | none => rw [Tr.dat, q] at h; cases h
    | some ds =>
      rw [Tr.dat, q] at h
      cases h
      exact .tup ((k _ List.mem_cons_self).trans h2) (TAll.rp e t (fun a ha => k a (List.mem_cons_of_mem _ ha)) q)
  | .nd (.ins _ _) _, _, _, _, _, _, h => by rw [Tr.dat] at h; cases h
theorem TAll.rp (e : Same G G') : ∀ {ts : List Tr} {xs : List V} {as : List Addr} {ds : List PyData}, TAll C G H ts xs as → (∀ a ∈ as, G' a = H a) → Tr.dats ts = some ds → RpAll C.K G' xs ds
  | _, _, _, _, .nil, _, h => by cases h; exact .nil
  | t :: ts, _, _, ds, .cons r u, k, h => by
    rw [Tr.dats] at h
    cases q : t.dat with
    | none => rw [q] at h; cases h
    | some d =>
      cases q2 : Tr.dats ts with
      | none => rw [q, q2] at h; cases h
      | some es =>
        rw [q, q2] at h
        cases h
        exact .cons (TOk.rp e r (fun a ha => k a (List.mem_append_left _ ha)) q) (TAll.rp e u (fun a ha => k a (List.mem_append_right _ ha)) q2)
end
end
def BOk (C : Cc) (G H : Hp) : B → V → (Addr → Prop) → Prop
  | .fr d, v, fp => Rp C.K G v d ∧ ∀ a, ¬ fp a
  | .ow ds, v, fp => ∃ p xs, v = .ref p ∧ G p = none ∧ H p = some (.lst xs) ∧ RpAll C.K G xs ds ∧ ∀ a, fp a ↔ a = p
  | .od ds, v, fp => ∃ p ks, v = .ref p ∧ G p = none ∧ H p = some (.dK ks) ∧ ks.map (fun q => kP q.1) = ds.map (·.1) ∧ RpAll C.K G (ks.map (·.2)) (ds.map (·.2)) ∧ ∀ a, fp a ↔ a = p
  | .ex c, v, fp => (∃ p A, v = .ref p ∧ C.mg c = some (.ref A) ∧ G p = some (XO A p)) ∧ ∀ a, ¬ fp a
  | .rs k d, v, fp => (C.rho k).rep C.K G H v d fp
  | .sc ns, v, fp => (∃ p, v = .ref p ∧ SqL C.K G p (ns.map V.int)) ∧ ∀ a, ¬ fp a
  | .tr t, v, fp => ∃ as, TOk C G H t v as ∧ as.Nodup ∧ ∀ a, fp a ↔ a ∈ as
section
variable {C : Cc} {G H G' H' : Hp} {b : B} {v : V} {fp : Addr → Prop}
theorem BOk.own (h : BOk C G H b v fp) : ∀ a, fp a → G a = none ∧ ∃ o, H a = some o := by
  cases b with
  | fr d => exact fun a q => absurd q (h.2 a)
  | ow ds =>
    obtain ⟨p, xs, _, h1, h2, _, h3⟩ := h
    intro a q
    obtain rfl := (h3 a).mp q
    exact ⟨h1, _, h2⟩
  | od ds =>
    obtain ⟨p, xs, _, h1, h2, _, _, h3⟩ := h
    intro a q
    obtain rfl := (h3 a).mp q
    exact ⟨h1, _, h2⟩
  | ex c => exact fun a q => absurd q (h.2 a)
  | rs k d => exact (C.rho k).own h
  | sc ns => exact fun a q => absurd q (h.2 a)
  | tr t =>
    obtain ⟨as, h1, _, h2⟩ := h
    exact fun a q => h1.own a ((h2 a).mp q)
theorem BOk.mono (h : BOk C G H b v fp) (e : Same G G') (k : ∀ a, fp a → H' a = H a ∧ G' a = G a) : BOk C G' H' b v fp := by
  cases b with
  | fr d => exact ⟨h.1.mono e, h.2⟩
  | ow ds =>
    obtain ⟨p, xs, e0, h1, h2, h4, h3⟩ := h
    have q := k p ((h3 p).mpr rfl)
    exact ⟨p, xs, e0, q.2.trans h1, q.1.trans h2, h4.mono e, h3⟩
  | od ds =>
    obtain ⟨p, xs, e0, h1, h2, h4, h5, h3⟩ := h
    have q := k p ((h3 p).mpr rfl)
    exact ⟨p, xs, e0, q.2.trans h1, q.1.trans h2, h4, h5.mono e, h3⟩
  | ex c =>
    obtain ⟨⟨p, A, h1, h2, h3⟩, h4⟩ := h
    exact ⟨⟨p, A, h1, h2, e _ _ h3⟩, h4⟩
  | rs n d => exact (C.rho n).frame h e k
  | sc ns =>
    obtain ⟨⟨p, h1, h2⟩, h4⟩ := h
    exact ⟨⟨p, h1, e.seq h2⟩, h4⟩
  | tr t =>
    obtain ⟨as, h1, h2, h3⟩ := h
    exact ⟨as, h1.mono e fun a ha => k a ((h3 a).mpr ha), h2, h3⟩
end
/-- read in H, its items in G -/
def Rq (K : PySem.W.Frag) (G H : Hp) (v : V) : PyData → Prop
  | .none => v = .non
  | .bool b => v = .bl b
  | .int i => v = .int i
  | .str x => v = .str x
  | .list ds => ∃ a xs, v = .ref a ∧ H a = some (.lst xs) ∧ RpAll K G xs ds
  | .tuple ds => ∃ a xs, v = .ref a ∧ G a = some (.tup xs) ∧ RpAll K G xs ds
  | .dict ds => ∃ a ks, v = .ref a ∧ H a = some (.dK ks) ∧ ks.map (fun p => kP p.1) = ds.map (·.1) ∧ RpAll K G (ks.map (·.2)) (ds.map (·.2))
section
variable {K : PySem.W.Frag} {G H : Hp} {v : V} {d : PyData}
theorem Rq.rp (h : Rq K G H v d) (s : Same G H) : Rp K H v d := by
  cases d with
  | none => cases h; exact .non
  | bool b => cases h; exact .bl b
  | int i => cases h; exact .int i
  | str x => cases h; exact .str x
  | list ds =>
    obtain ⟨a, xs, rfl, h1, h2⟩ := h
    exact .lst h1 (h2.mono s)
  | tuple ds =>
    obtain ⟨a, xs, rfl, h1, h2⟩ := h
    exact .tup (s _ _ h1) (h2.mono s)
  | dict ds =>
    obtain ⟨a, xs, rfl, h1, h2, h3⟩ := h
    exact .dic h1 h2 (h3.mono s)
theorem Rp.rq (h : Rp K G v d) (s : Same G H) : Rq K G H v d := by
  cases h with
  | non => rfl
  | bl b => rfl
  | int i => rfl
  | str x => rfl
  | lst h1 h2 => exact ⟨_, _, rfl, s _ _ h1, h2⟩
  | tup h1 h2 => exact ⟨_, _, rfl, h1, h2⟩
  | dic h1 h2 h3 => exact ⟨_, _, rfl, s _ _ h1, h2, h3⟩
theorem BOk.dat {C : Cc} {b : B} {fp : Addr → Prop} (h : BOk C G H b v fp) (s : Same G H) (hd : b.dat = some d) : Rq C.K G H v d := by
  cases b with
  | fr d' => cases hd; exact h.1.rq s
  | ow ds =>
    cases hd
    obtain ⟨p, xs, rfl, h1, h2, h4, h3⟩ := h
    exact ⟨p, xs, rfl, h2, h4⟩
  | od ds =>
    cases hd
    obtain ⟨p, xs, rfl, h1, h2, h4, h5, h3⟩ := h
    exact ⟨p, xs, rfl, h2, h4, h5⟩
  | ex c => cases hd
  | rs n d' => cases hd
  | sc ns => cases hd
  | tr t => cases hd
end
structure Mt (C : Cc) (π : List (Nat × V)) (e : Env) (σ : St) (w : WS) : Prop where
  len : e.length = σ.length
  sub : Same w.G w.H
  bok : ∀ i b, at? e i = some b → ∃ v, σ[i]? = some (some v) ∧ BOk C w.G w.H b v (w.fp i)
  non : ∀ i, at? e i = none → ∀ a, ¬ w.fp i a
  dis : ∀ i j a, w.fp i a → w.fp j a → i = j
  pin : ∀ p ∈ π, σ[p.1]? = some (some p.2)
structure Frm (w w' : WS) : Prop where
  g : Same w.G w'.G
  k : ∀ a o, w.H a = some o → (∀ i, ¬ w.fp i a) → w'.H a = some o ∧ w'.G a = w.G a ∧ ∀ i, ¬ w'.fp i a
  t : ∀ a, w'.H a = none → w.H a = none
theorem Frm.refl (w : WS) : Frm w w := ⟨Same.refl _, fun _ _ h n => ⟨h, rfl, n⟩, fun _ h => h⟩
theorem Frm.trans {w w1 w2 : WS} (a : Frm w w1) (b : Frm w1 w2) : Frm w w2 := by
  refine ⟨a.g.trans b.g, fun p o h n => ?_, fun p h => a.t p (b.t p h)⟩
  obtain ⟨h1, h2, h3⟩ := a.k p o h n
  obtain ⟨k1, k2, k3⟩ := b.k p o h1 h3
  exact ⟨k1, k2.trans h2, k3⟩
/-- what is new, or a name's own -/
theorem Frm.back {w w1 : WS} (f : Frm w w1) {a : Addr} (h : w1.H a = none ∨ ∃ i, w1.fp i a) : w.H a = none ∨ ∃ i, w.fp i a := by
  cases q : w.H a with
  | none => exact .inl rfl
  | some o =>
    by_cases hn : ∃ i, w.fp i a
    · exact .inr hn
    · obtain ⟨h1, h2, h3⟩ := f.k a o q fun i z => hn ⟨i, z⟩
      rcases h with h | ⟨i, h⟩
      · rw [h] at h1; cases h1
      · exact absurd h (h3 i)
theorem Mt.own {C : Cc} {π : List (Nat × V)} {e : Env} {σ : St} {w : WS} (m : Mt C π e σ w) {i : Nat} {a : Addr} (h : w.fp i a) : w.G a = none ∧ ∃ o, w.H a = some o := by
  cases q : at? e i with
  | none => exact absurd h (m.non i q a)
  | some b =>
    obtain ⟨v, _, k⟩ := m.bok i b q
    exact k.own a h
def OOk (C : Cc) (σ : St) (w w' : WS) : O → V → Prop
  | .s i, v => σ[i]? = some (some v)
  | .b b, v => ∃ fp : Addr → Prop, BOk C w'.G w'.H b v fp ∧ ∀ a, fp a → (w.H a = none ∨ ∃ i, w.fp i a) ∧ ∀ i, ¬ w'.fp i a
section
variable {C : Cc} {σ : St} {w w1 w2 w' : WS} {o : O} {v : V}
theorem OOk.step (h : OOk C σ w w1 o v) (f : Frm w1 w2) : OOk C σ w w2 o v := by
  cases o with
  | s i => exact h
  | b b =>
    obtain ⟨fp, h1, h2⟩ := h
    refine ⟨fp, h1.mono f.g fun a ha => ?_, fun a ha => ?_⟩
    · obtain ⟨hg, o, ho⟩ := h1.own a ha
      obtain ⟨k1, k2, k3⟩ := f.k a o ho (h2 a ha).2
      exact ⟨k1.trans ho.symm, k2⟩
    · obtain ⟨hg, o, ho⟩ := h1.own a ha
      exact ⟨(h2 a ha).1, (f.k a o ho (h2 a ha).2).2.2⟩
theorem OOk.base (h : OOk C σ w1 w' o v) (f : Frm w w1) : OOk C σ w w' o v := by
  cases o with
  | s i => exact h
  | b b =>
    obtain ⟨fp, h1, h2⟩ := h
    exact ⟨fp, h1, fun a ha => ⟨f.back (h2 a ha).1, (h2 a ha).2⟩⟩
theorem OOk.fr {d : PyData} (h : Rp C.K w'.G v d) : OOk C σ w w' (.b (.fr d)) v := ⟨fun _ => False, ⟨h, fun _ z => z⟩, fun _ z => z.elim⟩
end
/-- what follows a part -/
def Post {α β : Type} (C : Cc) (W : WX) (π : List (Nat × V)) (σ : St) (w : WS) (r : Option (Out α)) (rel : WS → α → β → Prop) (Q : β → Hp → Prop) : Prop := match r with
  | none => False
  | some (.ok a e) => ∀ b w', Mt C π e σ w' → Frm w w' → rel w' a b → Q b w'.H
  | some (.ex c e) => ∀ w' A, C.mg c = some (.ref A) → Mt C π e σ w' → Frm w w' → W (.ref A) none σ w'.H
section
variable {C : Cc} {W : WX} {π : List (Nat × V)} {σ : St} {w w1 : WS} {α β α' β' : Type} {r : Option (Out α)} {rel : WS → α → β → Prop} {Q : β → Hp → Prop} {rel' : WS → α' → β' → Prop} {Q' : β' → Hp → Prop} {k : α → Env → Option (Out α')}
theorem Post.from (h : Post C W π σ w r rel Q) (f : Frm w w1) : Post C W π σ w1 r rel Q := by
  cases r with
  | none => exact h
  | some x =>
    cases x with
    | ok a e => exact fun b w' m f' q => h b w' m (f.trans f') q
    | ex c e => exact fun w' A hA m f' => h w' A hA m (f.trans f')
theorem Post.reb {r : Option (Out O)} {Q : VK} (f : Frm w w1) (h : Post C W π σ w r (OOk C σ w) Q) : Post C W π σ w1 r (OOk C σ w1) Q := by
  cases r with
  | none => exact h
  | some x =>
    cases x with
    | ok a e => exact fun b w' m f' q => h b w' m (f.trans f') (q.base f)
    | ex c e => exact fun w' A hA m f' => h w' A hA m (f.trans f')
theorem Post.bnd (h : Post C W π σ w (bnd r k) rel' Q') (hk : ∀ a e b w1, Mt C π e σ w1 → Frm w w1 → rel w1 a b → Post C W π σ w (k a e) rel' Q' → Q b w1.H) : Post C W π σ w r rel Q := by
  cases r with
  | none => exact h
  | some x =>
    cases x with
    | ok a e => exact fun b w' m f q => hk a e b w' m f q h
    | ex c e => exact h
end
/-- f tells the expression of the reading t -/
def SE (C : Cc) (W : WX) (t : TE) (f : FE) : Prop := ∀ π env σ w Q, Mt C π env σ w → Post C W π σ w (f env) (OOk C σ w) Q → t σ w.H Q
def SD (C : Cc) (W : WX) (t : TA) (f : FD) : Prop := ∀ π env σ w Q, Mt C π env σ w → Post C W π σ w (f env) (fun w' ds vs => RpAll C.K w'.G vs ds) Q → t σ w.H Q
def SA (C : Cc) (W : WX) (t : TA) (f : FA) : Prop := ∀ π env σ w Q, Mt C π env σ w → Post C W π σ w (f env) (fun w' os vs => Paired (OOk C σ w w') os vs) Q → t σ w.H Q
def ST (C : Cc) (W : WX) (t : TT) (f : FT) : Prop := ∀ π env σ w Q, Mt C π env σ w → Post C W π σ w (f env) (fun _ b b' => b = b') Q → t σ w.H Q
def PostS (C : Cc) (W : WX) (π : List (Nat × V)) (w : WS) (r : Option SO) (D : Ends) : Prop := match r with
  | none => False
  | some (.nx e) => ∀ σ' w', Mt C π e σ' w' → Frm w w' → D.nx σ' w'.H
  | some (.rt b e) => ∀ v σ' w', Mt C π e σ' w' → Frm w w' → OOk C σ' w w' (.b b) v → D.rt v w'.H
  | some (.bk e) => ∀ σ' w', Mt C π e σ' w' → Frm w w' → D.bk σ' w'.H
  | some (.ct e) => ∀ σ' w', Mt C π e σ' w' → Frm w w' → D.ct σ' w'.H
  | some (.ex c e) => ∀ σ' w' A, C.mg c = some (.ref A) → Mt C π e σ' w' → Frm w w' → W (.ref A) none σ' w'.H
def SS (C : Cc) (W : WX) (pn : List Nat) (t : TS) (g : FS) : Prop := ∀ π env σ w D, (∀ p ∈ π, p.1 ∈ pn) → Mt C π env σ w → PostS C W π w (g env) D → t D σ w.H
section
variable {C : Cc} {W : WX} {π : List (Nat × V)} {σ : St} {w w1 : WS} {α β : Type} {r : Option (Out α)} {rel : WS → α → β → Prop} {Q : β → Hp → Prop} {D : Ends} {k : α → Env → Option SO}
theorem PostS.from {r : Option SO} (h : PostS C W π w r D) (f : Frm w w1) : PostS C W π w1 r D := by
  cases r with
  | none => exact h
  | some x =>
    cases x with
    | nx e => exact fun σ' w' m f' => h σ' w' m (f.trans f')
    | rt b e => exact fun v σ' w' m f' q => h v σ' w' m (f.trans f') (q.base f)
    | bk e => exact fun σ' w' m f' => h σ' w' m (f.trans f')
    | ct e => exact fun σ' w' m f' => h σ' w' m (f.trans f')
    | ex c e => exact fun σ' w' A hA m f' => h σ' w' A hA m (f.trans f')
theorem PostS.bnd (h : PostS C W π w (bndS r k) D) (hk : ∀ a e b w1, Mt C π e σ w1 → Frm w w1 → rel w1 a b → PostS C W π w (k a e) D → Q b w1.H) : Post C W π σ w r rel Q := by
  cases r with
  | none => exact h.elim
  | some x =>
    cases x with
    | ok a e => exact fun b w' m f q => hk a e b w' m f q h
    | ex c e => exact fun w' A hA m f => h σ w' A hA m f
end
section
variable {C : Cc} {π : List (Nat × V)} {e : Env} {σ : St} {w w0 : WS} {p : Addr} {o : HO}
/-- a new object -/
def WS.new (w : WS) (p : Addr) (o : HO) : WS := { w with H := upd w.H p o }
theorem Mt.new (m : Mt C π e σ w) (hp : w.H p = none) : Mt C π e σ (w.new p o) := by
  have hG : w.G p = none := m.sub.free hp
  refine ⟨m.len, fun a u q => ?_, fun i b q => ?_, m.non, m.dis, m.pin⟩
  · show upd w.H p o a = some u
    rw [upd_ne (ne_of_none q hG)]
    exact m.sub a u q
  · obtain ⟨v, h1, h2⟩ := m.bok i b q
    refine ⟨v, h1, h2.mono (Same.refl _) fun a ha => ⟨?_, rfl⟩⟩
    obtain ⟨_, u, hu⟩ := h2.own a ha
    exact upd_ne (ne_of_none hu hp)
theorem Frm.new (hp : w.H p = none) : Frm w (w.new p o) := by
  refine ⟨Same.refl _, fun a u h n => ⟨?_, rfl, n⟩, fun a h => ?_⟩
  · show upd w.H p o a = some u
    rw [upd_ne (ne_of_none h hp)]
    exact h
  · by_cases z : a = p
    · rw [z]; exact hp
    · have h' : upd w.H p o a = none := h
      rw [upd_ne z] at h'
      exact h'
/-- a thing at p, not owned by a name, frozen -/
def WS.frz (w : WS) (p : Addr) (o : HO) : WS := { w with G := upd w.G p o }
theorem Mt.frz (m : Mt C π e σ w) (hp : w.H p = some o) (hG : w.G p = none) (hn : ∀ i, ¬ w.fp i p) : Mt C π e σ (w.frz p o) := by
  have sG : Same w.G (upd w.G p o) := fun a u q => by rw [upd_ne (ne_of_none q hG)]; exact q
  refine ⟨m.len, fun a u q => ?_, fun i b q => ?_, m.non, m.dis, m.pin⟩
  · have q' : upd w.G p o a = some u := q
    by_cases z : a = p
    · subst z
      rw [upd_same] at q'
      cases q'
      exact hp
    · rw [upd_ne z] at q'
      exact m.sub a u q'
  · obtain ⟨v, h1, h2⟩ := m.bok i b q
    refine ⟨v, h1, h2.mono sG fun a ha => ⟨rfl, upd_ne fun z => hn i (by rw [← z]; exact ha)⟩⟩
theorem Frm.frz (f : Frm w0 w) (hp : w0.H p = none ∨ ∃ i, w0.fp i p) (hG : w.G p = none) : Frm w0 (w.frz p o) := by
  refine ⟨fun a u q => ?_, fun a u h n => ?_, f.t⟩
  · show upd w.G p o a = some u
    rw [upd_ne (ne_of_none (f.g a u q) hG)]
    exact f.g a u q
  · obtain ⟨h1, h2, h3⟩ := f.k a u h n
    refine ⟨h1, ?_, h3⟩
    show upd w.G p o a = w0.G a
    have ne : a ≠ p := fun z => by
      subst z
      rcases hp with hp | ⟨i, hp⟩
      · rw [hp] at h; cases h
      · exact n i hp
    rw [upd_ne ne]
    exact h2
/-- the thing at p, owned by the name i, frozen -/
def WS.frzO (w : WS) (i : Nat) (p : Addr) (o : HO) : WS := { w with G := upd w.G p o, fp := fun j a => w.fp j a ∧ j ≠ i }
theorem at_set_same {e : Env} {i : Nat} {x : Option B} {b : B} (h : at? e i = some b) : at? (e.set i x) i = x := by
  unfold at? at h ⊢
  have hi : i < e.length := by
    cases q : e[i]? with
    | none => rw [q] at h; cases h
    | some y => exact (List.getElem?_eq_some_iff.mp q).1
  rw [List.getElem?_set_self hi]
theorem at_set_lt {e : Env} {i : Nat} {x : Option B} (hi : i < e.length) : at? (e.set i x) i = x := by
  unfold at?
  rw [List.getElem?_set_self hi]
theorem at_set_ne {e : Env} {i j : Nat} {x : Option B} (h : i ≠ j) : at? (e.set i x) j = at? e j := by
  unfold at?
  rw [List.getElem?_set_ne h]
theorem Mt.frzO {i : Nat} {b b' : B} {v : V} (m : Mt C π e σ w) (hb : at? e i = some b) (hv : σ[i]? = some (some v)) (hp : w.H p = some o) (hG : w.G p = none) (hf : ∀ a, w.fp i a ↔ a = p) (hb' : BOk C (upd w.G p o) w.H b' v fun _ => False) :
    Mt C π (e.set i (some b')) σ (w.frzO i p o) := by
  have sG : Same w.G (upd w.G p o) := fun a u q => by rw [upd_ne (ne_of_none q hG)]; exact q
  refine ⟨by rw [List.length_set]; exact m.len, fun a u q => ?_, fun j c q => ?_, fun j q a z => ?_, fun j k a h1 h2 => m.dis j k a h1.1 h2.1, m.pin⟩
  · have q' : upd w.G p o a = some u := q
    by_cases z : a = p
    · subst z
      rw [upd_same] at q'
      cases q'
      exact hp
    · rw [upd_ne z] at q'
      exact m.sub a u q'
  · by_cases hj : i = j
    · subst hj
      rw [at_set_same hb] at q
      cases q
      refine ⟨v, hv, ?_⟩
      have e1 : (w.frzO i p o).fp i = fun _ => False := by
        funext a
        exact propext ⟨fun z => z.2 rfl, fun z => z.elim⟩
      rw [e1]
      exact hb'
    · rw [at_set_ne hj] at q
      obtain ⟨u, h1, h2⟩ := m.bok j c q
      have e1 : (w.frzO i p o).fp j = w.fp j := by
        funext a
        exact propext ⟨fun z => z.1, fun z => ⟨z, fun q => hj q.symm⟩⟩
      rw [e1]
      refine ⟨u, h1, h2.mono sG fun a ha => ⟨rfl, upd_ne fun z => ?_⟩⟩
      subst z
      exact hj (m.dis i j a ((hf a).mpr rfl) ha)
  · by_cases hj : i = j
    · subst hj
      exact z.2 rfl
    · rw [at_set_ne hj] at q
      exact m.non j q a z.1
theorem Frm.frzO {i : Nat} (f : Frm w0 w) (hG : w.G p = none) (hf : w.fp i p) : Frm w0 (w.frzO i p o) := by
  refine ⟨fun a u q => ?_, fun a u h n => ?_, f.t⟩
  · show upd w.G p o a = some u
    rw [upd_ne (ne_of_none (f.g a u q) hG)]
    exact f.g a u q
  · obtain ⟨h1, h2, h3⟩ := f.k a u h n
    refine ⟨h1, ?_, fun j z => h3 j z.1⟩
    show upd w.G p o a = w0.G a
    rw [upd_ne fun z => h3 i (by rw [z]; exact hf)]
    exact h2
end
/-- things at some addresses frozen; what i owns is owned no longer -/
def WS.frzT (w : WS) (i : Option Nat) (as : List Addr) : WS := { w with G := fun a => if a ∈ as then w.H a else w.G a, fp := fun j a => w.fp j a ∧ some j ≠ i }
section
variable {C : Cc} {π : List (Nat × V)} {e : Env} {σ : St} {w w0 : WS} {as : List Addr}
theorem frzT_same (i : Option Nat) (ho : ∀ a ∈ as, w.G a = none) : Same w.G (w.frzT i as).G := fun a o h => by
  show (if a ∈ as then w.H a else w.G a) = some o
  rw [if_neg fun z => by rw [ho a z] at h; cases h]
  exact h
theorem frzT_at (i : Option Nat) : ∀ a ∈ as, (w.frzT i as).G a = w.H a := fun a ha => if_pos ha
theorem frzT_out (i : Option Nat) {a : Addr} (h : a ∉ as) : (w.frzT i as).G a = w.G a := if_neg h
theorem frzT_sub (i : Option Nat) (m : Mt C π e σ w) : Same (w.frzT i as).G w.H := fun a o h => by
  have h' : (if a ∈ as then w.H a else w.G a) = some o := h
  split at h'
  · exact h'
  · exact m.sub a o h'
theorem Mt.frzTb (m : Mt C π e σ w) (ho : ∀ a ∈ as, w.G a = none) (hn : ∀ a ∈ as, ∀ i, ¬ w.fp i a) : Mt C π e σ (w.frzT none as) := by
  have e1 : ∀ j, (w.frzT none as).fp j = w.fp j := fun j => by funext a; exact propext ⟨fun z => z.1, fun z => ⟨z, nofun⟩⟩
  refine ⟨m.len, frzT_sub none m, fun j b q => ?_, fun j q a z => m.non j q a z.1, fun j k a x y => m.dis j k a x.1 y.1, m.pin⟩
  obtain ⟨v, h1, h2⟩ := m.bok j b q
  rw [e1]
  exact ⟨v, h1, h2.mono (frzT_same none ho) fun a ha => ⟨rfl, frzT_out none fun z => hn a z j ha⟩⟩
theorem Frm.frzTb (f : Frm w0 w) (hp : ∀ a ∈ as, w0.H a = none ∨ ∃ i, w0.fp i a) (ho : ∀ a ∈ as, w.G a = none) : Frm w0 (w.frzT none as) := by
  refine ⟨f.g.trans (frzT_same none ho), fun a o h n => ?_, f.t⟩
  obtain ⟨h1, h2, h3⟩ := f.k a o h n
  refine ⟨h1, (frzT_out none fun z => ?_).trans h2, fun i z => h3 i z.1⟩
  rcases hp a z with q | ⟨i, q⟩
  · rw [q] at h; cases h
  · exact n i q
theorem Mt.frzTs {i : Nat} {b b' : B} {v : V} (m : Mt C π e σ w) (hb : at? e i = some b) (hv : σ[i]? = some (some v)) (ho : ∀ a ∈ as, w.G a = none) (hf : ∀ a, w.fp i a ↔ a ∈ as) (hb' : BOk C (w.frzT (some i) as).G w.H b' v fun _ => False) :
    Mt C π (e.set i (some b')) σ (w.frzT (some i) as) := by
  refine ⟨by rw [List.length_set]; exact m.len, frzT_sub _ m, fun j c q => ?_, fun j q a z => ?_, fun j k a x y => m.dis j k a x.1 y.1, m.pin⟩
  · by_cases hj : i = j
    · subst hj
      rw [at_set_same hb] at q
      cases q
      have e1 : (w.frzT (some i) as).fp i = fun _ => False := by funext a; exact propext ⟨fun z => z.2 rfl, fun z => z.elim⟩
      rw [e1]
      exact ⟨v, hv, hb'⟩
    · rw [at_set_ne hj] at q
      obtain ⟨u, h1, h2⟩ := m.bok j c q
      have e1 : (w.frzT (some i) as).fp j = w.fp j := by funext a; exact propext ⟨fun z => z.1, fun z => ⟨z, fun q => hj (Option.some.inj q).symm⟩⟩
      rw [e1]
      exact ⟨u, h1, h2.mono (frzT_same _ ho) fun a ha => ⟨rfl, frzT_out _ fun z => hj (m.dis i j a ((hf a).mpr z) ha)⟩⟩
  · by_cases hj : i = j
    · subst hj
      exact z.2 rfl
    · rw [at_set_ne hj] at q
      exact m.non j q a z.1
theorem Frm.frzTs {i : Nat} (f : Frm w0 w) (ho : ∀ a ∈ as, w.G a = none) (hf : ∀ a, w.fp i a ↔ a ∈ as) : Frm w0 (w.frzT (some i) as) := by
  refine ⟨f.g.trans (frzT_same _ ho), fun a o h n => ?_, f.t⟩
  obtain ⟨h1, h2, h3⟩ := f.k a o h n
  exact ⟨h1, (frzT_out _ fun z => h3 i ((hf a).mpr z)).trans h2, fun j z => h3 j z.1⟩
end
theorem fz_sound {C : Cc} {π : List (Nat × V)} {e e' : Env} {σ : St} {w0 w : WS} {o : O} {v : V} {d : PyData} (m : Mt C π e σ w) (f : Frm w0 w) (h : OOk C σ w0 w o v) (hz : fz e o = some (d, e')) :
    ∃ w', Mt C π e' σ w' ∧ Frm w0 w' ∧ w'.H = w.H ∧ Rp C.K w'.G v d := by
  cases o with
  | s i =>
    have hv : σ[i]? = some (some v) := h
    unfold fz at hz
    cases q : at? e i with
    | none => simp [q] at hz
    | some b =>
      obtain ⟨u, h1, h2⟩ := m.bok i b q
      rw [hv] at h1
      cases h1
      cases b with
      | fr d' =>
        simp only [q] at hz
        cases hz
        exact ⟨w, m, f, rfl, h2.1⟩
      | ow ds =>
        simp only [q] at hz
        cases hz
        obtain ⟨p, xs, rfl, g1, g2, g4, g3⟩ := h2
        have sG : Same w.G (upd w.G p (.lst xs)) := fun a u q => by rw [upd_ne (ne_of_none q g1)]; exact q
        have r : Rp C.K (upd w.G p (.lst xs)) (.ref p) (.list ds) := .lst upd_same (g4.mono sG)
        exact ⟨w.frzO i p (.lst xs), m.frzO q hv g2 g1 g3 ⟨r, fun _ z => z⟩, f.frzO g1 ((g3 p).mpr rfl), rfl, r⟩
      | od ds =>
        simp only [q] at hz
        cases hz
        obtain ⟨p, xs, rfl, g1, g2, g4, g5, g3⟩ := h2
        have sG : Same w.G (upd w.G p (.dK xs)) := fun a u q => by rw [upd_ne (ne_of_none q g1)]; exact q
        have r : Rp C.K (upd w.G p (.dK xs)) (.ref p) (.dict ds) := .dic upd_same g4 (g5.mono sG)
        exact ⟨w.frzO i p (.dK xs), m.frzO q hv g2 g1 g3 ⟨r, fun _ z => z⟩, f.frzO g1 ((g3 p).mpr rfl), rfl, r⟩
      | ex c => simp [q] at hz
      | rs n d' => simp [q] at hz
      | sc ns => simp [q] at hz
      | tr t =>
        simp only [q] at hz
        cases qd : t.dat with
        | none => rw [qd] at hz; cases hz
        | some d' =>
          rw [qd] at hz
          cases hz
          obtain ⟨as, g1, g2, g3⟩ := h2
          have ho := fun a ha => (g1.own a ha).1
          have r := g1.rp (frzT_same (some i) ho) (frzT_at (some i)) qd
          exact ⟨w.frzT (some i) as, m.frzTs q hv ho g3 ⟨r, fun _ z => z⟩, f.frzTs ho g3, rfl, r⟩
  | b b =>
    obtain ⟨fp, h1, h2⟩ := h
    cases b with
    | fr d' =>
      cases hz
      exact ⟨w, m, f, rfl, h1.1⟩
    | ow ds =>
      cases hz
      obtain ⟨p, xs, rfl, g1, g2, g4, g3⟩ := h1
      have hp := h2 p ((g3 p).mpr rfl)
      have sG : Same w.G (upd w.G p (.lst xs)) := fun a u q => by rw [upd_ne (ne_of_none q g1)]; exact q
      exact ⟨w.frz p (.lst xs), m.frz g2 g1 hp.2, f.frz hp.1 g1, rfl, .lst upd_same (g4.mono sG)⟩
    | od ds =>
      cases hz
      obtain ⟨p, xs, rfl, g1, g2, g4, g5, g3⟩ := h1
      have hp := h2 p ((g3 p).mpr rfl)
      have sG : Same w.G (upd w.G p (.dK xs)) := fun a u q => by rw [upd_ne (ne_of_none q g1)]; exact q
      exact ⟨w.frz p (.dK xs), m.frz g2 g1 hp.2, f.frz hp.1 g1, rfl, .dic upd_same g4 (g5.mono sG)⟩
    | ex c => cases hz
    | rs n d' => cases hz
    | sc ns => cases hz
    | tr t =>
      have hz' : (t.dat.map fun d => (d, e)) = some (d, e') := hz
      cases qd : t.dat with
      | none => rw [qd] at hz'; cases hz'
      | some d' =>
        rw [qd] at hz'
        cases hz'
        obtain ⟨as, g1, g2, g3⟩ := h1
        have ho := fun a ha => (g1.own a ha).1
        exact ⟨w.frzT none as, m.frzTb ho fun a ha => (h2 a ((g3 a).mpr ha)).2, f.frzTb (fun a ha => (h2 a ((g3 a).mpr ha)).1) ho, rfl, g1.rp (frzT_same none ho) (frzT_at none) qd⟩
theorem fzB_sound {C : Cc} {π : List (Nat × V)} {e e' : Env} {σ : St} {w0 w : WS} {o : O} {v : V} {b : B} (m : Mt C π e σ w) (f : Frm w0 w) (h : OOk C σ w0 w o v) (hz : fzB e o = some (b, e')) :
    ∃ w', Mt C π e' σ w' ∧ Frm w0 w' ∧ w'.H = w.H ∧ BOk C w'.G w'.H b v (fun _ => False) := by
  have main : ∀ o', o' = o → (fz e o').map (fun p => (B.fr p.1, p.2)) = some (b, e') → ∃ w', Mt C π e' σ w' ∧ Frm w0 w' ∧ w'.H = w.H ∧ BOk C w'.G w'.H b v (fun _ => False) := by
    rintro o' rfl hq
    cases q : fz e o' with
    | none => rw [q] at hq; cases hq
    | some p =>
      rw [q] at hq
      cases hq
      obtain ⟨w', h1, h2, h3, h4⟩ := fz_sound (e' := p.2) m f h q
      exact ⟨w', h1, h2, h3, h4, fun _ z => z⟩
  cases o with
  | s i =>
    cases q : at? e i with
    | none =>
      simp only [fzB, q] at hz
      exact main _ rfl hz
    | some c =>
      simp only [fzB, q] at hz
      cases c with
      | ex c =>
        cases hz
        have hv : σ[i]? = some (some v) := h
        obtain ⟨u, h1, h2⟩ := m.bok i _ q
        rw [hv] at h1
        cases h1
        exact ⟨w, m, f, rfl, h2.1, fun _ z => z⟩
      | fr d => exact main _ rfl hz
      | ow d => exact main _ rfl hz
      | od d => exact main _ rfl hz
      | rs n d => exact main _ rfl hz
      | tr t => exact main _ rfl hz
      | sc ns =>
        cases hz
        have hv : σ[i]? = some (some v) := h
        obtain ⟨u, h1, h2⟩ := m.bok i _ q
        rw [hv] at h1
        cases h1
        exact ⟨w, m, f, rfl, h2.1, fun _ z => z⟩
  | b c =>
    cases c with
    | ex c =>
      cases hz
      obtain ⟨fp, h1, h2⟩ := h
      exact ⟨w, m, f, rfl, h1.1, fun _ z => z⟩
    | fr d => exact main _ rfl hz
    | ow d => exact main _ rfl hz
    | od d => exact main _ rfl hz
    | rs n d => exact main _ rfl hz
    | tr t => exact main _ rfl hz
    | sc ns =>
      cases hz
      obtain ⟨fp, h1, h2⟩ := h
      exact ⟨w, m, f, rfl, h1.1, fun _ z => z⟩
/-- what is read -/
theorem res_sound {C : Cc} {π : List (Nat × V)} {e : Env} {σ : St} {w0 w : WS} {o : O} {v : V} {d : PyData} (m : Mt C π e σ w) (h : OOk C σ w0 w o v) (hr : res e o = some d) : Rq C.K w.G w.H v d := by
  cases o with
  | s i =>
    have hv : σ[i]? = some (some v) := h
    cases q : at? e i with
    | none => simp [res, q] at hr
    | some b =>
      simp only [res, q, Option.bind_some] at hr
      obtain ⟨u, h1, h2⟩ := m.bok i _ q
      rw [hv] at h1
      cases h1
      exact h2.dat m.sub hr
  | b b =>
    obtain ⟨fp, h1, h2⟩ := h
    exact h1.dat m.sub hr
end VL
set_option maxRecDepth 100000
namespace VL
open PySem L2 PySem.Spec PyProof.Rows
/-- sys.modules stands in the ground -/
def SmB (base : Heap) : Prop := ∃ o, base.get? sysModules = some o
/-- FnOk where no guard stands around -/
structure FnG (P : Program) (w : World) (K : PySem.W.Frag) (mg : Str → Option Value) (base : Heap) (k : Nat) (f : Addr) (fd : FuncData) (ps : List Str) (sp : Sp) : Prop where
  cnt : ∀ vs H Q E, sp vs H Q E → vs.length = ps.length
  go : ∀ (A : Around) (out : List PySem.Env) (s : Shared) (H : Hp) (ar : Args) (us : List Value) (vs : List V) (Q : VK) (E : XK), Room k A → A.guards = some [] → SmB base → Env0 P w K mg base A out s H → BindsTo s fd ar (ps.zip us) → Vals vs us → sp vs H Q E →
    codeAny (model P w) A (.call (.ref f) ar) (CR (L2.CX P w) out P w H s Q E) s
section
variable {X : Cx} {k : Nat} {f : Addr} {fd : FuncData} {ps : List Str} {sp : Sp} {E : L2.St → XK} {x : Str} {p pos : Pos} {e : Expr} {es : List Expr} {t : TA}
theorem FnG.runs {pins : List (Addr × Obj)} {σ : L2.St} {H : Hp} {s : Shared} {Q : VK} {us : List Value} {vs : List V} (Fg : FnG X.prog X.w X.K X.mg X.base k f fd ps sp) (rm : Room k X.A) (gd : X.A.guards = some []) (sm : SmB X.base) (bn : Binds X.K fd ps [])
    (ps1 : PassesAt (L2.CX X.prog X.w) X σ (E σ)) (J : Inv X pins σ H s) (rv : Vals vs us) (hs : sp vs H Q (E σ)) : wpAny (model X.prog X.w) X.A (call (.ref f) us) (EP X pins σ Q) X.xe s := by
  have ln : us.length = ps.length := rv.length.symm.trans (Fg.cnt _ _ _ _ hs)
  have bb := bn s us J.kIn (by rw [List.append_nil, ln]); rw [List.append_nil] at bb
  refine wpAny_call (codeAny_mono (Fg.go X.A X.stack s H ⟨us, []⟩ us vs Q (E σ) rm gd sm J.env0 bb rv hs) fun res s2 ce => ?_)
  rcases res with er | fl
  · exact ps1 pins H s er s2 J ce
  · rcases fl with _ | _ | _ | u
    all_goals first | exact J.after ce | exact ce.elim
theorem pe_callG (Fg : FnG X.prog X.w X.K X.mg X.base k f fd ps sp) (rm : Room k X.A) (gd : X.A.guards = some []) (sm : SmB X.base) (gl : Gl X x) (mm : X.mg x = some (.ref f)) (kk : PySem.W.keepIn X.K (.ref f) = true) (bn : Binds X.K fd ps []) (px : ∀ σ, PassesAt (L2.CX X.prog X.w) X σ (E σ))
    (pa : PA X (e :: es) t) (db : (x == ("__debug__" : Str)) = false) (he : starEach (e :: es) X.env = (false, eval e X.env) :: starEach es X.env) (hp : (backTo pos (starEach es X.env)).any (·.1) = false) :
    PE X (.Call (.Name x p) (e :: es) [] pos) (tCallS sp E t) := by
  refine ⟨fun pins s σ H Q J h => wpAny_Call_Name_kw (ld_glob J gl mm (PySem.W.callWith_K (h₀ := X.base) J.ok.mod.kin kk (thn (pa.run pos pins s σ H _ J h) fun us s1 ⟨vs, H1, J1, r, q⟩ => ⟨J1.kIn, ?_⟩) he hp) db)⟩
  exact Fg.runs rm gd sm bn (px σ) J1 r q
end
section
variable {P : Program} {w : World} {K : PySem.W.Frag} {mg : Str → Option Value} {base : Heap} {x qual : Str} {params : Arguments} {body : List Stmt} {scope : Scope} {dvs : List V} {kws : List (Str × V)} {f : Addr} {fd : FuncData}
theorem fnG_of {N ps : List Str} {k : Nat} {sp : Sp} (F : FunD K x qual params body scope dvs kws f fd) (S : FnScope N ps scope) (cn : ∀ vs H Q E, sp vs H Q E → vs.length = ps.length)
    (hb : ∀ (cdv : Value) (A : Around) (out : List PySem.Env) (s : Shared) (H : Hp) (vs : List V) (Q : VK) (E : XK), Room k (A.deeper (envOfC qual scope s.heap.objs.size f cdv)) → A.guards = some [] → SmB base → sp vs H Q E →
      ∃ t, PSs (cxOf (L2.CX P w) P w K mg base N qual scope f cdv A out s H E) body t ∧ t { nx := fun _ H' => Q .non H', rt := Q } (L2.start N vs) H) : FnG P w K mg base (k + 1) f fd ps sp := by
  obtain ⟨oc, od, dV, kV, doc, pm, an, cdv, ct, osl, rfl, lk, hcd, _, _⟩ := F.ex
  refine ⟨cn, fun A out s H ar us vs Q E rm gd sm e0 bd rv hs => ?_⟩
  have kin : K.In s.heap := e0.mod.kin.keeps fun b o z => (e0.bs b o z).1
  have nol : s.heap.NoLimit := e0.mod.nolimit.keeps fun b o z => (e0.bs b o z).1
  have kinds : ∀ y ∈ ps.zip us, scope.names.lookup y.1 = some .local ∨ (scope.names.lookup y.1 = some .cell ∧ ((cellsFrom (s.heap.objs.size + 1) scope.names []).lookup y.1).isSome = true) := by
    rintro ⟨n, v⟩ hy
    exact (S.par n (List.of_mem_zip hy).1).elim .inl fun z => .inr ⟨z, PySem.W.cellsFrom_some _ _ _ (.inl z)⟩
  refine codeAny_call_function rm.depth (kin _ _ lk) rfl S.co S.gen rfl (PySem.W.codeRec_of kin hcd) (bd _ _ _ _ (wpAny_newFunctionEnv_cells S.kind kinds fun env he s1 ic => ?_))
  subst he
  refine ⟨nol.keeps ic.toInCall.keep, codeAny_func ?_⟩
  obtain ⟨t, pt, qt⟩ := hb cdv A out s H vs Q E (rm.deeper _) gd sm hs
  refine wpAny_mono (pt.run [] s1 (L2.start N vs) H _ (inv_start S rm.hd e0 (cn _ _ _ _ hs) rv ic) qt) (fun fl s' z => ?_) fun er s' z => z
  have done : ∀ {σ' : L2.St} {H' : Hp} {v : V} {u : Value}, Inv (cxOf (L2.CX P w) P w K mg base N qual scope f cdv A out s H E) [] σ' H' s' → RelV v u → Q v H' → CE out P w H s Q u s' :=
    fun {_ H' v _} J r2 q => ⟨v, H', J.os, J.bare, J.base, J.hok, r2, q⟩
  rcases fl with _ | _ | _ | u
  all_goals first
    | (obtain ⟨v, σ', H', J, r2, q⟩ := z; exact done J r2 q)
    | (obtain ⟨σ', H', J, q⟩ := z; exact done (v := V.non) (u := Value.none) J rfl q)
    | (obtain ⟨_, _, _, q⟩ := z; exact q.elim)
end
end VL
set_option maxRecDepth 100000
namespace VL
open PySem L2 PySem.Spec PyProof.Rows
theorem ends_of {P : Program} {w : World} {K : PySem.W.Frag} {mg mb : Str → Option Value} {k : Nat} {fa a : Addr} {fd : FuncData} {x : Str} {sp : Sp} {s₁ : Shared} {vs : List Value} {H : Hp}
    (kx : K.In s₁.heap) (gl : s₁.heap.Ns mainGlobals mg) (bl : s₁.heap.Ns builtinsNs mb) (bb : ∀ x : Str, x ≠ "__name__" → mb x = bootBuiltins x) (nl : s₁.heap.NoLimit) (smn : ∃ mm, s₁.heap.Ns sysModules mm) (gn : s₁.gens = #[])
    (ea : s₁.heap.get? a = some { cls := .type "list", data := .seq vs.toArray }) (rm : Room k callerA)
    (Fg : ∀ base : Heap, K.In base → base.Ns mainGlobals mg → FnG P w K mg base k fa fd [x] sp) (bd : ∀ (s : Shared) (u : Value), BindsTo s fd ⟨[u], []⟩ [(x, u)])
    (on : Only H) (ok : HOk P w H s₁.heap) (oa : ∀ b, H b ≠ none → b = a) (ka : H a ≠ none → K.lookup a = none) (hsp : sp [.ref a] H (fun v _ => v = .bl true) fun _ _ _ => False) :
    codeAny (model P w) callerA (.call (.ref fa) ⟨[.ref a], []⟩) (fun r s' => r = .ok (.ret (.bool true)) ∧ OldK s₁.heap s'.heap ∧ s'.os = s₁.os ∧ AllBare s'.gens) s₁ := by
  have hid : ∀ {b : Addr} {o : Obj}, s₁.heap.get? b = some o → H b = none → (hidT s₁.heap H).get? b = some o := hidT_get
  have notd : ∀ {b : Addr} {o : Obj} {es : Array DictEntry} {ep : Nat}, s₁.heap.get? b = some o → o.data = .dict es ep → H b = none := by
    intro b o es ep z dz
    by_cases q : H b = none
    · exact q
    · obtain rfl := oa b q
      rw [ea] at z
      obtain rfl := Option.some.inj z
      cases (show Data.seq vs.toArray _ = Data.dict es ep from dz)
  have nss : ∀ {b : Addr} {m : Str → Option Value}, s₁.heap.Ns b m → (hidT s₁.heap H).Ns b m := by
    rintro b m ⟨o, es, ep, z, dz, rr⟩
    exact ⟨o, es, ep, hid z (notd z dz), dz, rr⟩
  have kb : K.In (hidT s₁.heap H) := by
    intro b o z
    refine hid (kx b o z) ?_
    by_cases q : H b = none
    · exact q
    · obtain rfl := oa b q
      rw [ka q] at z
      cases z
  obtain ⟨mc, n1, n2⟩ := nl
  have md : Mod K mg (hidT s₁.heap H) := ⟨kb, nss gl, ⟨mb, nss bl, bb⟩, ⟨mc, nss n1, n2⟩⟩
  have en : Env0 P w K mg (hidT s₁.heap H) callerA [] s₁ H := ⟨rfl, md, fun b o z => of_hidT z, Nat.le_of_eq (hidT_size _ _), trivial, nofun, ok, .of_eq gn⟩
  refine codeAny_mono ((Fg _ kb (nss gl)).go callerA [] s₁ H ⟨[.ref a], []⟩ [.ref a] [.ref a] _ _ rm rfl (let ⟨mm, zz⟩ := smn; let ⟨o, _, _, z1, _⟩ := nss zz; ⟨o, z1⟩) en (bd s₁ (.ref a)) (.cons rfl .nil) hsp) ?_
  rintro (er | fl) s' hh
  · obtain ⟨_, _, _, _, _, _, _, _, _, _, _, _, z⟩ := hh
    exact z.elim
  · rcases fl with _ | _ | _ | u
    · exact False.elim hh
    · exact False.elim hh
    · exact False.elim hh
    obtain ⟨v, H', os, br, un, ok', rr, qq⟩ := hh
    obtain rfl : v = .bl true := qq
    obtain rfl : u = Value.bool true := rr
    refine ⟨rfl, OldK.of_keep fun b o z => ?_, os, br⟩
    rcases on b with q | ⟨ob, xs, q⟩
    · exact un.keep b o z q nofun nofun
    · obtain ⟨z1, _⟩ := ok b _ q
      obtain ⟨z2, _⟩ := ok' b _ (un.frzs b ob _ q)
      rw [z] at z1
      cases z1
      exact z2
theorem law_ends {P : Program} {w : World} {K : PySem.W.Frag} {mg mb : Str → Option Value} {k : Nat} {fa a : Addr} {fd : FuncData} {x : Str} {sp : Sp} {s₁ : Shared} {vs : List Value} {ns : List Int}
    (kx : K.In s₁.heap) (gl : s₁.heap.Ns mainGlobals mg) (bl : s₁.heap.Ns builtinsNs mb) (bb : ∀ x : Str, x ≠ "__name__" → mb x = bootBuiltins x) (nl : s₁.heap.NoLimit) (smn : ∃ mm, s₁.heap.Ns sysModules mm) (gn : s₁.gens = #[])
    (ea : s₁.heap.get? a = some { cls := .type "list", data := .seq vs.toArray }) (ia : IntsAre vs ns) (hl : ns.length ≤ sizeLine) (rm : Room k callerA)
    (Fg : ∀ base : Heap, K.In base → base.Ns mainGlobals mg → FnG P w K mg base k fa fd [x] sp) (bd : ∀ (s : Shared) (u : Value), BindsTo s fd ⟨[u], []⟩ [(x, u)])
    (hsp : ∀ H : Hp, Only H → SqL K H a (ns.map V.int) → sp [.ref a] H (fun v _ => v = .bl true) fun _ _ _ => False) :
    codeAny (model P w) callerA (.call (.ref fa) ⟨[.ref a], []⟩) (fun r s' => r = .ok (.ret (.bool true)) ∧ OldK s₁.heap s'.heap ∧ s'.os = s₁.os ∧ AllBare s'.gens) s₁ := by
  have vv := vals_ints ia
  by_cases hk : K.lookup a = none
  · let G : Hp := fun b => if b = a then some (.frz { cls := .type "list", data := .seq vs.toArray } (.lst (ns.map V.int))) else none
    have gs : G a = some (.frz { cls := .type "list", data := .seq vs.toArray } (.lst (ns.map V.int))) := if_pos rfl
    have gn' : ∀ b, b ≠ a → G b = none := fun b z => if_neg z
    have oa : ∀ b, G b ≠ none → b = a := fun b z => Decidable.byContradiction fun n => z (gn' b n)
    have on : Only G := fun b => by
      by_cases z : b = a
      · subst z; exact .inr ⟨_, _, gs⟩
      · exact .inl (gn' b z)
    refine ends_of kx gl bl bb nl smn gn ea rm Fg bd on (fun b u z => ?_) oa (fun _ => hk) (hsp G on (.inl (.inr ⟨_, gs⟩)))
    obtain rfl := oa b (by rw [z]; exact nofun)
    rw [gs] at z
    obtain rfl := Option.some.inj z
    exact ⟨ea, by rw [List.length_map]; exact hl, vs, _, vv, ea⟩
  · obtain ⟨o, ho⟩ := Option.ne_none_iff_exists'.mp hk
    have z := kx a o ho
    rw [ea] at z
    obtain rfl := Option.some.inj z
    have on : Only (fun _ => none) := fun _ => .inl rfl
    refine ends_of kx gl bl bb nl smn gn ea rm Fg bd on (fun b u q => nomatch (show (none : Option HO) = some u from q)) (fun b q => absurd rfl q) (fun q => absurd rfl q) (hsp _ on ?_)
    exact .inr ⟨_, vs.toArray, _, ho, rfl, rfl, rfl, by rw [List.size_toArray, ia.length]; exact hl, by simpa using vv⟩
/-- a law's end, by facts of the head -/
theorem walk_ofG {l : PySem.W.OpenLaw} {n k : Nat} {q : Program} {loose : List Str} {XP : (Str → Option Value) → Heap → Prop} {YP : World → Heap → Prop} {d : DefRec} {x : Str}
    (hn : l.most = some n) (hn2 : n ≤ sizeLine) (hdf : d.params.defaults = []) (hr : Room k callerA) (him : importsNone q = true)
    (F : ∀ (w : World) (mg : Str → Option Value) (fa : Addr) (h : Heap), YP w h → h.Ns mainGlobals mg → mg d.name = some (.ref fa) →
      ∃ (K : PySem.W.Frag) (fd : FuncData) (sp : Sp), K.In h ∧ (∀ (s : Shared) (u : Value), PySem.BindsTo s fd ⟨[u], []⟩ [(x, u)]) ∧
        (∀ (H : Hp) (a : Addr) (ns : List Int), ns.length ≤ n → Only H → SqL K H a (ns.map V.int) → sp [.ref a] H (fun v _ => v = .bl true) fun _ _ _ => False) ∧
        ∀ base : Heap, K.In base → base.Ns mainGlobals mg → FnG l.prog w K mg base k fa fd [x] sp) :
    PySem.W.WalkO q loose XP YP l.row.toRowW d [] (fun f vs => PySem.call f vs) := by
  refine Att.attach_call hn hdf ?_
  intro w s₀ s₁ mg mb fa o pm cd doc a vs ns G Y ho hd hcd hmg hobj hints hlen hg
  obtain ⟨K, fd, sp, KX, hb, hsp, hF⟩ := F w mg fa _ Y G.T.g hmg
  exact law_ends KX G.T.g G.T.b G.T.builtins G.T.nolimit (let ⟨mm, z, _⟩ := (G.T.seer him).mods; ⟨mm, z⟩) hg hobj hints (Nat.le_trans hlen hn2) hr hF hb fun H hO hS => hsp H a ns hlen hO hS
end VL
set_option maxRecDepth 100000
namespace VL
open PySem L2
/-- what stands around: no error in hand, room, names of their own, the built-ins -/
structure Vx (X : Cx) (W : WX) : Prop where
  calm : X.calm = true
  room : Room 1 X.A
  gd : X.A.guards = some []
  sm : SmB X.base
  nd : X.N.Nodup
  tk : Takes X W
  po : PassesOwn (model X.prog X.w) X.A X.env X.xe
def cc (X : Cx) (ρ : Nat → Res) : Cc := ⟨X.K, X.mg, ρ⟩
def VE (X : Cx) (ρ : Nat → Res) (W : WX) (e : Expr) (f : FE) : Prop := ∃ t, PE X e t ∧ SE (cc X ρ) W t f
def VD (X : Cx) (ρ : Nat → Res) (W : WX) (es : List Expr) (f : FD) : Prop := ∃ t, PA X es t ∧ SD (cc X ρ) W t f
def VA (X : Cx) (ρ : Nat → Res) (W : WX) (es : List Expr) (f : FA) : Prop := ∃ t, PA X es t ∧ SA (cc X ρ) W t f
def VT (X : Cx) (ρ : Nat → Res) (W : WX) (e : Expr) (f : FT) : Prop := ∃ t, PT X e t ∧ ST (cc X ρ) W t f
/-- and, or: whatever the whole is -/
def VW (X : Cx) (ρ : Nat → Res) (W : WX) (e : Expr) (f : FT) : Prop := ∃ t, PW X e t ∧ ST (cc X ρ) W t f
section
variable {C : Cc} {π : List (Nat × V)} {e : Env} {σ : St} {w : WS} {p : Addr}
theorem Mt.notOwned (m : Mt C π e σ w) (hp : w.H p = none) (i : Nat) : ¬ w.fp i p := fun h => by
  obtain ⟨_, o, ho⟩ := m.own h
  rw [hp] at ho
  cases ho
/-- a new list -/
theorem mk_lst {zs : List V} {es : List PyData} (m : Mt C π e σ w) (hp : w.H p = none) (r : RpAll C.K w.G zs es) :
    Mt C π e σ (w.new p (.lst zs)) ∧ Frm w (w.new p (.lst zs)) ∧ OOk C σ w (w.new p (.lst zs)) (.b (.ow es)) (.ref p) :=
  ⟨m.new hp, .new hp, fun a => a = p, ⟨p, zs, rfl, m.sub.free hp, upd_same, r, fun _ => Iff.rfl⟩, fun a ha => by subst ha; exact ⟨.inl hp, m.notOwned hp⟩⟩
/-- a new tuple, frozen -/
theorem mk_tup {zs : List V} {es : List PyData} (m : Mt C π e σ w) (hp : w.H p = none) (r : RpAll C.K w.G zs es) :
    ∃ w', Mt C π e σ w' ∧ Frm w w' ∧ w'.H = upd w.H p (.tup zs) ∧ OOk C σ w w' (.b (.fr (.tuple es))) (.ref p) := by
  have hG : w.G p = none := m.sub.free hp
  have sG : Same w.G (upd w.G p (.tup zs)) := fun a u q => by rw [upd_ne (ne_of_none q hG)]; exact q
  refine ⟨(w.new p (.tup zs)).frz p (.tup zs), (m.new hp).frz upd_same hG (fun i => m.notOwned hp i), (Frm.new hp).frz (.inl hp) hG, rfl, .fr (.tup upd_same (r.mono sG))⟩
end
section
variable {X : Cx} {ρ : Nat → Res} {W : WX} {a b c : Expr} {pos : Pos} {fa fb fc : FE} {ta tb tc : FT}
theorem ve_var (i : Nat) {x : Str} (hN : X.N[i]? = some x := by rfl) (hv : Vis X.env.scope x := by first | exact Or.inl rfl | exact Or.inr (Or.inl rfl) | exact Or.inr (Or.inr rfl)) (hd : (x == ("__debug__" : Str)) = false := by decide)
    (hcd : (x == ("__classdict__" : Str)) = false := by decide) : VE X ρ W (.Name x pos) (fVar i) := by
  refine ⟨_, pe_var hN hv hd hcd, fun π e σ w Q m h => ?_⟩
  unfold fVar at h
  cases q : at? e i with
  | none => rw [q] at h; exact h.elim
  | some b =>
    rw [q] at h
    obtain ⟨v, h1, h2⟩ := m.bok i b q
    exact ⟨v, h1, h v w m (.refl w) h1⟩
theorem se_c {C : Cc} {v : V} {d : PyData} (h : ∀ G, Rp C.K G v d) : SE C W (tC v) (fC d) := fun π e σ w Q m k => k v w m (.refl w) (.fr (h _))
theorem ve_int {i j} : VE X ρ W (.Constant (.int i) j pos) (fC (.int i)) := ⟨_, pe_int, se_c fun _ => .int i⟩
theorem ve_bl {i j} : VE X ρ W (.Constant (.bool i) j pos) (fC (.bool i)) := ⟨_, pe_bl, se_c fun _ => .bl i⟩
theorem ve_non {j} : VE X ρ W (.Constant .none j pos) (fC .none) := ⟨_, pe_non, se_c fun _ => .non⟩
theorem ve_str {i j} : VE X ρ W (.Constant (.str i) j pos) (fC (.str i)) := ⟨_, pe_str, se_c fun _ => .str i⟩
/-- a constant of the module -/
theorem ve_glob {x : Str} {v : V} {u : Value} {d : PyData} (hm : X.mg x = some u) (r : RelV v u) (h : ∀ G, Rp X.K G v d) (hg : Gl X x := by rfl) (hd : (x == ("__debug__" : Str)) = false := by decide) : VE X ρ W (.Name x pos) (fC d) :=
  ⟨_, pe_glob hg hm r hd, se_c h⟩
def OpV (X : Cx) (ρ : Nat → Res) (F : Value → Value → Sem Value) (op : PyData → PyData → Option B) : Prop := ∃ r, OpR X F r ∧
  ∀ π e σ w x y dx dy z Q, Mt (cc X ρ) π e σ w → Rq X.K w.G w.H x dx → Rq X.K w.G w.H y dy → op dx dy = some z → (∀ v w', Mt (cc X ρ) π e σ w' → Frm w w' → OOk (cc X ρ) σ w w' (.b z) v → Q v w'.H) → r x y w.H Q
theorem se_bin {C : Cc} {r : R2} {op : PyData → PyData → Option B} {ta tb : TE} (hr : ∀ π e σ w x y dx dy z Q, Mt C π e σ w → Rq C.K w.G w.H x dx → Rq C.K w.G w.H y dy → op dx dy = some z → (∀ v w', Mt C π e σ w' → Frm w w' → OOk C σ w w' (.b z) v → Q v w'.H) → r x y w.H Q)
    (ha : SE C W ta fa) (hb : SE C W tb fb) : SE C W (tOp r ta tb) (fBin op fa fb) := fun π e σ w Q m h => by
  refine ha π e σ w _ m (h.bnd fun o1 e1 v1 w1 m1 f1 k1 h1 => ?_)
  refine hb π e1 σ w1 _ m1 ((h1.from f1).bnd fun o2 e2 v2 w2 m2 f2 k2 h2 => ?_)
  have h3 := h2.from f2
  cases q1 : res e2 o1 with
  | none => rw [q1] at h3; exact h3.elim
  | some d1 =>
    cases q2 : res e2 o2 with
    | none => rw [q1, q2] at h3; exact h3.elim
    | some d2 =>
      rw [q1, q2] at h3
      simp only [Option.bind_some] at h3
      cases q3 : op d1 d2 with
      | none => rw [q3] at h3; exact h3.elim
      | some z =>
        rw [q3] at h3
        exact hr π e2 σ w2 v1 v2 d1 d2 z Q m2 (res_sound m2 (k1.step f2) q1) (res_sound m2 k2 q2) q3 fun v w' m' f' k' => h3 v w' m' f' (k'.base (f1.trans f2))
theorem ve_op {op : Operator} {g : PyData → PyData → Option B} (ho : OpV X ρ (binaryOp op) g) (ha : VE X ρ W a fa) (hb : VE X ρ W b fb) : VE X ρ W (.BinOp a op b pos) (fBin g fa fb) := by
  obtain ⟨r, h1, h2⟩ := ho
  obtain ⟨ta, pa, sa⟩ := ha
  obtain ⟨tb, pb, sb⟩ := hb
  exact ⟨_, pe_op h1 pa pb, se_bin h2 sa sb⟩
theorem ve_cmp {op : CmpOp} {g : PyData → PyData → Option B} (ho : OpV X ρ (compareOp op) g) (ha : VE X ρ W a fa) (hb : VE X ρ W b fb) (hm : behindInMarks op b = false := by first | exact nomark _ | rfl) : VE X ρ W (.Compare a [op] [b] pos) (fBin g fa fb) := by
  obtain ⟨r, h1, h2⟩ := ho
  obtain ⟨ta, pa, sa⟩ := ha
  obtain ⟨tb, pb, sb⟩ := hb
  exact ⟨_, pe_cmpR h1 pa pb hm, se_bin h2 sa sb⟩
theorem se_un {C : Cc} {r : V → Hp → VK → Prop} {op : PyData → Option B} {ta : TE} (hr : ∀ π e σ w x dx z Q, Mt C π e σ w → Rq C.K w.G w.H x dx → op dx = some z → (∀ v w', Mt C π e σ w' → Frm w w' → OOk C σ w w' (.b z) v → Q v w'.H) → r x w.H Q)
    (ha : SE C W ta fa) : SE C W (L2.tUn r ta) (fUn op fa) := fun π e σ w Q m h => by
  refine ha π e σ w _ m (h.bnd fun o1 e1 v1 w1 m1 f1 k1 h1 => ?_)
  have h3 := h1.from f1
  cases q1 : res e1 o1 with
  | none => rw [q1] at h3; exact h3.elim
  | some d1 =>
    rw [q1] at h3
    simp only [Option.bind_some] at h3
    cases q3 : op d1 with
    | none => rw [q3] at h3; exact h3.elim
    | some z =>
      rw [q3] at h3
      exact hr π e1 σ w1 v1 d1 z Q m1 (res_sound m1 k1 q1) q3 fun v w' m' f' k' => h3 v w' m' f' (k'.base f1)
/-- scalars -/
theorem sc_end {C : Cc} {π : List (Nat × V)} {e : Env} {σ : St} {w : WS} {d : PyData} {v : V} {Q : VK} (m : Mt C π e σ w) (k : ∀ v w', Mt C π e σ w' → Frm w w' → OOk C σ w w' (.b (.fr d)) v → Q v w'.H) (h : Rp C.K w.G v d) : Q v w.H :=
  k v w m (.refl w) (.fr h)
def opI (C : Int → Int → Bool) (g : Int → Int → Int) : PyData → PyData → Option B
  | .int i, .int j => if C i j = true then some (.fr (.int (g i j))) else none
  | _, _ => none
theorem opv_I {F : Value → Value → Sem Value} {P : Int → Int → Prop} {C : Int → Int → Bool} {g : Int → Int → Int} (hr : OpR X F (rI P fun i j => .int (g i j))) (hC : ∀ i j, C i j = true → P i j) : OpV X ρ F (opI C g) := by
  refine ⟨_, hr, fun π e σ w x y dx dy z Q m hx hy hz k => ?_⟩
  unfold opI at hz
  split at hz
  · rename_i i j
    split at hz
    · cases hz
      cases hx
      cases hy
      exact ⟨i, j, rfl, rfl, hC i j (by assumption), sc_end m k (.int _)⟩
    · cases hz
  · cases hz
def opI0 (g : Int → Int → Int) : PyData → PyData → Option B
  | .int i, .int j => some (.fr (.int (g i j)))
  | _, _ => none
theorem opv_I0 {F : Value → Value → Sem Value} {g : Int → Int → Int} (hr : OpR X F (rI0 fun i j => .int (g i j))) : OpV X ρ F (opI0 g) := by
  refine ⟨_, hr, fun π e σ w x y dx dy z Q m hx hy hz k => ?_⟩
  unfold opI0 at hz
  split at hz
  · rename_i i j
    cases hz
    cases hx
    cases hy
    exact ⟨i, j, rfl, rfl, sc_end m k (.int _)⟩
  · cases hz
def opB0 (g : Int → Int → Bool) : PyData → PyData → Option B
  | .int i, .int j => some (.fr (.bool (g i j)))
  | _, _ => none
theorem opv_B0 {F : Value → Value → Sem Value} {g : Int → Int → Bool} (hr : OpR X F (rI0 fun i j => .bl (g i j))) : OpV X ρ F (opB0 g) := by
  refine ⟨_, hr, fun π e σ w x y dx dy z Q m hx hy hz k => ?_⟩
  unfold opB0 at hz
  split at hz
  · rename_i i j
    cases hz
    cases hx
    cases hy
    exact ⟨i, j, rfl, rfl, sc_end m k (.bl _)⟩
  · cases hz
abbrev oLt := opB0 fun i j => decide (i < j)
abbrev oLe := opB0 fun i j => decide (i ≤ j)
abbrev oGt := opB0 fun i j => decide (j < i)
abbrev oGe := opB0 fun i j => decide (j ≤ i)
theorem v_lt : OpV X ρ (compareOp .Lt) oLt := opv_B0 op_lt
theorem v_le : OpV X ρ (compareOp .LtE) oLe := opv_B0 op_le
theorem v_gt : OpV X ρ (compareOp .Gt) oGt := opv_B0 op_gt
theorem v_ge : OpV X ρ (compareOp .GtE) oGe := opv_B0 op_ge
abbrev oSub := opI0 fun i j => i - j
theorem v_sub : OpV X ρ (binaryOp .Sub) oSub := opv_I0 op_sub
abbrev oMod := opI (fun _ j => decide (0 < j)) fun i j => i % j
theorem v_mod : OpV X ρ (binaryOp .Mod) oMod := opv_I op_mod fun _ _ h => of_decide_eq_true h
def cPow (i j : Int) : Bool := decide (0 ≤ j) && decide (j.natAbs ≤ 1000000) && decide (i.natAbs < 2 ^ 64)
theorem cPow_ok {i j : Int} (h : cPow i j = true) : 0 ≤ j ∧ j ≤ 1000000 ∧ i.natAbs < 2 ^ 64 := by
  unfold cPow at h
  rw [Bool.and_eq_true, Bool.and_eq_true, decide_eq_true_eq, decide_eq_true_eq, decide_eq_true_eq] at h
  exact ⟨h.1.1, by omega, h.2⟩
abbrev oPow := opI cPow fun i j => i ^ j.toNat
theorem v_pow : OpV X ρ (binaryOp .Pow) oPow := opv_I op_pow fun i j h => cPow_ok h
theorem vt_of (hs : ∀ whole, isTrue a X.env whole = (do let v ← whole; standAt a.pos; holding [v] (truthy v))) (ha : VE X ρ W a fa) : VT X ρ W a (fTest fa) := by
  obtain ⟨t, p, s⟩ := ha
  refine ⟨_, pt_val p hs, fun π e σ w Q m h => ?_⟩
  refine s π e σ w _ m (h.bnd fun o1 e1 v1 w1 m1 f1 k1 h1 => ?_)
  have h3 := h1.from f1
  cases q1 : res e1 o1 with
  | none => rw [q1] at h3; exact h3.elim
  | some d1 =>
    rw [q1] at h3
    cases d1 with
    | bool bb =>
      have r := res_sound m1 k1 q1
      cases r
      exact ⟨bb, rfl, h3 bb w1 m1 (.refl _) rfl⟩
    | none => exact h3.elim
    | int i => exact h3.elim
    | str i => exact h3.elim
    | list i => exact h3.elim
    | tuple i => exact h3.elim
    | dict i => exact h3.elim
theorem st_test {C : Cc} {t : TE} (s : SE C W t fa) : ST C W (tTest t) (fTest fa) := fun π e σ w Q m h => by
  refine s π e σ w _ m (h.bnd fun o1 e1 v1 w1 m1 f1 k1 h1 => ?_)
  have h3 := h1.from f1
  cases q1 : res e1 o1 with
  | none => rw [q1] at h3; exact h3.elim
  | some d1 =>
    rw [q1] at h3
    cases d1 with
    | bool bb =>
      have r := res_sound m1 k1 q1
      cases r
      exact ⟨bb, rfl, h3 bb w1 m1 (.refl _) rfl⟩
    | none => exact h3.elim
    | int i => exact h3.elim
    | str i => exact h3.elim
    | list i => exact h3.elim
    | tuple i => exact h3.elim
    | dict i => exact h3.elim
theorem vt_cmp {op : CmpOp} {g : PyData → PyData → Option B} (ho : OpV X ρ (compareOp op) g) (ha : VE X ρ W a fa) (hb : VE X ρ W b fb) (hm : behindInMarks op b = false := by first | exact nomark _ | rfl) : VT X ρ W (.Compare a [op] [b] pos) (fTest (fBin g fa fb)) := by
  obtain ⟨r, h1, h2⟩ := ho
  obtain ⟨ta, pa, sa⟩ := ha
  obtain ⟨tb, pb, sb⟩ := hb
  exact ⟨_, pt_cmpR h1 pa pb hm, st_test (se_bin h2 sa sb)⟩
theorem VW.vt (h : VW X ρ W a ta) : VT X ρ W a ta := by
  obtain ⟨t, p, s⟩ := h
  exact ⟨t, p.pt, s⟩
theorem vw_and1 (ha : VT X ρ W a ta) : VW X ρ W (.BoolOp .And [a] pos) ta := by
  obtain ⟨t, p, s⟩ := ha
  exact ⟨t, pw_and1 p, s⟩
theorem vw_or1 (ha : VT X ρ W a ta) : VW X ρ W (.BoolOp .Or [a] pos) ta := by
  obtain ⟨t, p, s⟩ := ha
  exact ⟨t, pw_or1 p, s⟩
theorem st_and {C : Cc} {t u : TT} (s1 : ST C W t ta) (s2 : ST C W u tb) : ST C W (L2.tAnd t u) (tAnd ta tb) := fun π e σ w Q m h => by
  refine s1 π e σ w _ m (h.bnd fun o1 e1 v1 w1 m1 f1 k1 h1 => ?_)
  subst k1
  have h3 := h1.from f1
  cases o1 with
  | true => rw [if_pos rfl]; exact s2 π e1 σ w1 _ m1 h3
  | false => rw [if_neg Bool.false_ne_true]; exact h3 false w1 m1 (.refl _) rfl
theorem st_or {C : Cc} {t u : TT} (s1 : ST C W t ta) (s2 : ST C W u tb) : ST C W (L2.tOr t u) (tOr ta tb) := fun π e σ w Q m h => by
  refine s1 π e σ w _ m (h.bnd fun o1 e1 v1 w1 m1 f1 k1 h1 => ?_)
  subst k1
  have h3 := h1.from f1
  cases o1 with
  | false => rw [if_neg Bool.false_ne_true]; exact s2 π e1 σ w1 _ m1 h3
  | true => rw [if_pos rfl]; exact h3 true w1 m1 (.refl _) rfl
theorem vw_and {rest : List Expr} (ha : VT X ρ W a ta) (hb : VW X ρ W (.BoolOp .And (b :: rest) pos) tb) : VW X ρ W (.BoolOp .And (a :: b :: rest) pos) (tAnd ta tb) := by
  obtain ⟨t, p, s⟩ := ha
  obtain ⟨t2, p2, s2⟩ := hb
  exact ⟨_, pw_and p p2, st_and s s2⟩
theorem vw_or {rest : List Expr} (ha : VT X ρ W a ta) (hb : VW X ρ W (.BoolOp .Or (b :: rest) pos) tb) : VW X ρ W (.BoolOp .Or (a :: b :: rest) pos) (tOr ta tb) := by
  obtain ⟨t, p, s⟩ := ha
  obtain ⟨t2, p2, s2⟩ := hb
  exact ⟨_, pw_or p p2, st_or s s2⟩
theorem vt_not (ha : VT X ρ W a ta) : VT X ρ W (.UnaryOp .Not a pos) (tNot ta) := by
  obtain ⟨t, p, s⟩ := ha
  refine ⟨_, pt_not p, fun π e σ w Q m h => ?_⟩
  refine s π e σ w _ m (h.bnd fun o1 e1 v1 w1 m1 f1 k1 h1 => ?_)
  subst k1
  exact h1.from f1 (!o1) w1 m1 (.refl _) rfl
theorem ve_ifExp (hc : VT X ρ W c tc) (ha : VE X ρ W a fa) (hb : VE X ρ W b fb) : VE X ρ W (.IfExp c a b pos) (fIf tc fa fb) := by
  obtain ⟨t, p, s⟩ := hc
  obtain ⟨t1, p1, s1⟩ := ha
  obtain ⟨t2, p2, s2⟩ := hb
  refine ⟨_, pe_ifExp p p1 p2, fun π e σ w Q m h => ?_⟩
  refine s π e σ w _ m (h.bnd fun o1 e1 v1 w1 m1 f1 k1 h1 => ?_)
  subst k1
  have h3 := h1.from f1
  cases o1 with
  | true => rw [if_pos rfl]; exact s1 π e1 σ w1 _ m1 (Post.reb f1 h1)
  | false => rw [if_neg Bool.false_ne_true]; exact s2 π e1 σ w1 _ m1 (Post.reb f1 h1)
end
end VL
set_option maxRecDepth 100000
namespace VL
open PySem L2
section
variable {X : Cx} {ρ : Nat → Res} {W : WX} {a b c : Expr} {es : List Expr} {pos : Pos} {fa fb fc : FE} {ta tb tc : FT} {fd : FD} {as_ : FA}
theorem big_le : big ≤ sizeLine := by decide
theorem le_big {n : Nat} (h : n ≤ big) : n ≤ sizeLine := Nat.le_trans h big_le
theorem vd_nil : VD X ρ W [] dNil := ⟨_, pa_nil, fun π e σ w Q m h => h [] w m (.refl w) .nil⟩
theorem vd_cons (ha : VE X ρ W a fa) (hr : VD X ρ W es fd) (hs : starEach (a :: es) X.env = (false, eval a X.env) :: starEach es X.env := by rfl) : VD X ρ W (a :: es) (dCons fa fd) := by
  obtain ⟨t, p, s⟩ := ha
  obtain ⟨t2, p2, s2⟩ := hr
  refine ⟨_, pa_cons p p2 hs, fun π e σ w Q m h => ?_⟩
  refine s π e σ w _ m (h.bnd fun o1 e1 v1 w1 m1 f1 k1 h1 => ?_)
  cases q1 : fz e1 o1 with
  | none => rw [q1] at h1; exact h1.elim
  | some pr =>
    rw [q1] at h1
    simp only [Option.bind_some] at h1
    obtain ⟨w2, m2, f2, eH, r2⟩ := fz_sound (e' := pr.2) m1 f1 k1 q1
    rw [← eH]
    refine s2 π pr.2 σ w2 _ m2 ((h1.from f2).bnd fun ds e3 vs w3 m3 f3 k3 h3 => ?_)
    exact h3 (v1 :: vs) w3 m3 f3 (.cons (r2.mono f3.g) k3)
theorem ve_lst (h : VD X ρ W es fd) : VE X ρ W (.List es pos) (fLst fd) := by
  obtain ⟨t, p, s⟩ := h
  refine ⟨_, pe_lst p, fun π e σ w Q m h => ?_⟩
  refine s π e σ w _ m (h.bnd fun ds e1 vs w1 m1 f1 k1 h1 => ?_)
  have h2 := h1.from f1
  have hl := k1.length
  split at h2
  · rename_i hz
    refine ⟨by rw [hl]; exact Nat.le_trans hz (by decide), fun p hp => ?_⟩
    obtain ⟨m2, f2, k2⟩ := mk_lst m1 hp k1
    exact h2 _ _ m2 f2 (k2.base f1)
  · exact h2.elim
theorem ve_tup {x1} (h : VD X ρ W es fd) : VE X ρ W (.Tuple es x1 pos) (fTup fd) := by
  obtain ⟨t, p, s⟩ := h
  refine ⟨_, pe_tup p, fun π e σ w Q m h => ?_⟩
  refine s π e σ w _ m (h.bnd fun ds e1 vs w1 m1 f1 k1 h1 => ?_)
  have h2 := h1.from f1
  have hl := k1.length
  split at h2
  · rename_i hz
    refine ⟨by rw [hl]; exact Nat.le_trans hz (by decide), fun p hp => ?_⟩
    obtain ⟨w2, m2, f2, eH, k2⟩ := mk_tup m1 hp k1
    rw [← eH]
    exact h2 _ _ m2 f2 (k2.base f1)
  · exact h2.elim
theorem ve_one {op} (h : VE X ρ W a fa) : VE X ρ W (.BoolOp op [a] pos) fa := by
  obtain ⟨t, p, s⟩ := h
  exact ⟨t, pe_one p, s⟩
theorem ve_and {rest : List Expr} (ha : VE X ρ W a fa) (hb : VE X ρ W (.BoolOp .And (b :: rest) pos) fb) : VE X ρ W (.BoolOp .And (a :: b :: rest) pos) (fAndV fa fb) := by
  obtain ⟨t, p, s⟩ := ha
  obtain ⟨t2, p2, s2⟩ := hb
  refine ⟨_, pe_and p p2, fun π e σ w Q m h => ?_⟩
  refine s π e σ w _ m (h.bnd fun o1 e1 v1 w1 m1 f1 k1 h1 => ?_)
  cases q1 : res e1 o1 with
  | none => rw [q1] at h1; exact h1.elim
  | some d1 =>
    rw [q1] at h1
    have r := res_sound m1 k1 q1
    split at h1
    · rename_i z; cases z; cases r
      exact ⟨true, rfl, by rw [if_pos rfl]; exact s2 π e1 σ w1 _ m1 (Post.reb f1 h1)⟩
    · rename_i z; cases z; cases r
      exact ⟨false, rfl, by rw [if_neg Bool.false_ne_true]; exact h1 _ w1 m1 f1 (.fr (.bl _))⟩
    · exact h1.elim
theorem ve_or {rest : List Expr} (ha : VE X ρ W a fa) (hb : VE X ρ W (.BoolOp .Or (b :: rest) pos) fb) : VE X ρ W (.BoolOp .Or (a :: b :: rest) pos) (fOrV fa fb) := by
  obtain ⟨t, p, s⟩ := ha
  obtain ⟨t2, p2, s2⟩ := hb
  refine ⟨_, pe_or p p2, fun π e σ w Q m h => ?_⟩
  refine s π e σ w _ m (h.bnd fun o1 e1 v1 w1 m1 f1 k1 h1 => ?_)
  cases q1 : res e1 o1 with
  | none => rw [q1] at h1; exact h1.elim
  | some d1 =>
    rw [q1] at h1
    have r := res_sound m1 k1 q1
    split at h1
    · rename_i z; cases z; cases r
      exact ⟨true, rfl, by rw [if_pos rfl]; exact h1 _ w1 m1 f1 (.fr (.bl _))⟩
    · rename_i z; cases z; cases r
      exact ⟨false, rfl, by rw [if_neg Bool.false_ne_true]; exact s2 π e1 σ w1 _ m1 (Post.reb f1 h1)⟩
    · exact h1.elim
theorem ve_not (ha : VE X ρ W a fa) : VE X ρ W (.UnaryOp .Not a pos) (fNotV fa) := by
  obtain ⟨t, p, s⟩ := ha
  refine ⟨_, pe_not p, fun π e σ w Q m h => ?_⟩
  refine s π e σ w _ m (h.bnd fun o1 e1 v1 w1 m1 f1 k1 h1 => ?_)
  cases q1 : res e1 o1 with
  | none => rw [q1] at h1; exact h1.elim
  | some d1 =>
    rw [q1] at h1
    have r := res_sound m1 k1 q1
    split at h1
    · rename_i bb z; cases z; cases r
      exact ⟨bb, rfl, h1 _ w1 m1 f1 (.fr (.bl _))⟩
    · exact h1.elim
theorem se_chain {op op' : CmpOp} {g g' : PyData → PyData → Option B} (ho : OpV X ρ (compareOp op) g) (ho' : OpV X ρ (compareOp op') g') (ha : VE X ρ W a fa) (hb : VE X ρ W b fb) (hc : VE X ρ W c fc) :
    ∃ r r' t1 t2 t3, OpR X (compareOp op) r ∧ OpR X (compareOp op') r' ∧ PE X a t1 ∧ PE X b t2 ∧ PE X c t3 ∧ SE (cc X ρ) W (tChain r r' t1 t2 t3) (fChain g g' fa fb fc) := by
  obtain ⟨r, h1, h2⟩ := ho
  obtain ⟨r', h1', h2'⟩ := ho'
  obtain ⟨t1, p1, s1⟩ := ha
  obtain ⟨t2, p2, s2⟩ := hb
  obtain ⟨t3, p3, s3⟩ := hc
  refine ⟨r, r', t1, t2, t3, h1, h1', p1, p2, p3, fun π e σ w Q m h => ?_⟩
  refine s1 π e σ w _ m (h.bnd fun o1 e1 v1 w1 m1 f1 k1 h1 => ?_)
  refine s2 π e1 σ w1 _ m1 ((h1.from f1).bnd fun o2 e2 v2 w2 m2 f2 k2 h2x => ?_)
  have h3 := h2x.from f2
  cases q1 : res e2 o1 with
  | none => rw [q1] at h3; exact h3.elim
  | some d1 =>
    cases q2 : res e2 o2 with
    | none => rw [q1, q2] at h3; exact h3.elim
    | some d2 =>
      rw [q1, q2] at h3
      simp only [Option.bind_some] at h3
      cases q3 : g d1 d2 with
      | none => rw [q3] at h3; exact h3.elim
      | some z =>
        rw [q3] at h3
        refine h2 π e2 σ w2 v1 v2 d1 d2 z _ m2 (res_sound m2 (k1.step f2) q1) (res_sound m2 k2 q2) q3 fun v w' m' f' k' => ?_
        split at h3
        · rename_i z2; cases z2
          obtain ⟨_, kk, _⟩ := k'
          cases kk.1
          refine ⟨true, rfl, ?_⟩
          rw [if_pos rfl]
          refine s3 π e2 σ w' _ m' ((h3.from f').bnd fun o3 e3 v3 w3 m3 f3 k3 h4 => ?_)
          have h5 := h4.from f3
          cases q5 : res e3 o2 with
          | none => rw [q5] at h5; exact h5.elim
          | some d5 =>
            cases q6 : res e3 o3 with
            | none => rw [q5, q6] at h5; exact h5.elim
            | some d6 =>
              rw [q5, q6] at h5
              simp only [Option.bind_some] at h5
              cases q7 : g' d5 d6 with
              | none => rw [q7] at h5; exact h5.elim
              | some z7 =>
                rw [q7] at h5
                exact h2' π e3 σ w3 v2 v3 d5 d6 z7 Q m3 (res_sound m3 ((k2.step f').step f3) q5) (res_sound m3 k3 q6) q7 fun v w5 m5 f5 k5 => h5 v w5 m5 f5 (k5.base (((f1.trans f2).trans f').trans f3))
        · rename_i z2; cases z2
          obtain ⟨_, kk, _⟩ := k'
          cases kk.1
          refine ⟨false, rfl, ?_⟩
          rw [if_neg Bool.false_ne_true]
          exact h3 _ w' m' f' (.fr (.bl _))
        · exact h3.elim
theorem vt_chain {op op' : CmpOp} {g g' : PyData → PyData → Option B} (ho : OpV X ρ (compareOp op) g) (ho' : OpV X ρ (compareOp op') g') (ha : VE X ρ W a fa) (hb : VE X ρ W b fb) (hc : VE X ρ W c fc) (hm : lastMarks [op, op'] [b, c] = false := by with_unfolding_all rfl) :
    VT X ρ W (.Compare a [op, op'] [b, c] pos) (fTest (fChain g g' fa fb fc)) := by
  obtain ⟨r, r', t1, t2, t3, h1, h1', p1, p2, p3, s⟩ := se_chain ho ho' ha hb hc
  exact ⟨_, pt_chain h1 h1' p1 p2 p3 hm, st_test s⟩
theorem v_add : OpV X ρ (binaryOp .Add) oAdd := by
  refine ⟨_, OpR.or op_add (OpR.or op_add_str (OpR.or op_cat op_catA)), fun π e σ w x y dx dy z Q m hx hy hz k => ?_⟩
  unfold oAdd at hz
  split at hz
  · cases hz; cases hx; cases hy
    exact .inl ⟨_, _, rfl, rfl, sc_end m k (.int _)⟩
  · split at hz
    · rename_i hb
      cases hz; cases hx; cases hy
      exact .inr (.inl ⟨_, _, rfl, rfl, le_big hb, sc_end m k (.str _)⟩)
    · cases hz
  · split at hz
    · rename_i hb
      cases hz
      obtain ⟨p, xs, rfl, hp, rp⟩ := hx
      obtain ⟨q, ys, rfl, hq, rq⟩ := hy
      have l1 := rp.length
      have l2 := rq.length
      refine .inr (.inr (.inl ⟨p, q, xs, ys, rfl, rfl, hp, hq, by rw [l1, l2]; exact le_big hb, fun r hr => ?_⟩))
      obtain ⟨m2, f2, k2⟩ := mk_lst m hr (rp.append rq)
      exact k _ _ m2 f2 k2
    · cases hz
  · split at hz
    · rename_i hb
      cases hz
      obtain ⟨p, xs, rfl, hp, rp⟩ := hx
      obtain ⟨q, ys, rfl, hq, rq⟩ := hy
      have l1 := rp.length
      have l2 := rq.length
      have e1 : w.H p = some (.tup xs) := m.sub _ _ hp
      have e2 : w.H q = some (.tup ys) := m.sub _ _ hq
      refine .inr (.inr (.inr ⟨p, q, xs, ys, rfl, rfl, .of e1, .of e2, by rw [l1, l2]; exact le_big hb, fun e => ?_, fun e e' => ?_, fun e e' r hr => ?_⟩))
      · subst e
        cases rp
        exact k _ w m (.refl w) (.fr (.tup hq rq))
      · subst e'
        cases rq
        rw [List.append_nil] at k
        exact k _ w m (.refl w) (.fr (.tup hp rp))
      · obtain ⟨w2, m2, f2, eH, k2⟩ := mk_tup m hr (rp.append rq)
        rw [← eH]
        exact k _ _ m2 f2 k2
    · cases hz
  · cases hz
theorem flat_rep {K : PySem.W.Frag} {G : Hp} {vs : List V} {ds : List PyData} (h : RpAll K G vs ds) : ∀ n : Nat, RpAll K G (List.replicate n vs).flatten (List.replicate n ds).flatten
  | 0 => .nil
  | n + 1 => by
    rw [List.replicate_succ, List.replicate_succ, List.flatten_cons, List.flatten_cons]
    exact h.append (flat_rep h n)
theorem cMul_ok {i j : Int} (h : cMul i j = true) : (-(2 ^ 64) < i ∧ i < 2 ^ 64) ∨ (-(2 ^ 64) < j ∧ j < 2 ^ 64) := by
  unfold cMul at h
  rw [Bool.or_eq_true, decide_eq_true_eq, decide_eq_true_eq] at h
  rcases h with h | h
  · exact .inl ⟨by omega, by omega⟩
  · exact .inr ⟨by omega, by omega⟩
theorem cFdiv_ok {i j : Int} (h : cFdiv i j = true) : 0 < j ∧ j < 2 ^ 200 := by
  unfold cFdiv at h
  rw [Bool.and_eq_true, decide_eq_true_eq, decide_eq_true_eq] at h
  exact ⟨h.1, by omega⟩
theorem v_mul : OpV X ρ (binaryOp .Mult) oMul := by
  refine ⟨_, OpR.or op_mul op_rep, fun π e σ w x y dx dy z Q m hx hy hz k => ?_⟩
  unfold oMul at hz
  split at hz
  · split at hz
    · rename_i i j hc
      cases hz; cases hx; cases hy
      exact .inl ⟨_, _, rfl, rfl, cMul_ok hc, sc_end m k (.int _)⟩
    · cases hz
  · split at hz
    · rename_i hb
      cases hz; cases hy
      obtain ⟨p, xs, rfl, hp, rp⟩ := hx
      have l1 := rp.length
      refine .inr ⟨p, _, xs, rfl, rfl, hp, by omega, by omega, by rw [l1]; exact le_big hb.2, fun r hr => ?_⟩
      obtain ⟨m2, f2, k2⟩ := mk_lst m hr (flat_rep rp _)
      exact k _ _ m2 f2 k2
    · cases hz
  · cases hz
theorem v_fdiv : OpV X ρ (binaryOp .FloorDiv) (opI cFdiv fun i j => i / j) := by
  refine opv_I (op_fdivW) fun i j h => ?_
  have h' : 0 < j ∧ j < 2 ^ 200 := cFdiv_ok h
  exact wide_div (b := 200) h'.1 (by omega) (by decide) (by decide)
theorem Rq.dp {K : PySem.W.Frag} {G H : Hp} {v : V} {d : PyData} (h : Rq K G H v d) (s : Same G H) (c : SeqAt.shaped d = true) : Dp K H v d := (h.rp s).dp d (SeqAt.canLay_of_shaped c)
/-- a list beside the empty list: its length tells -/
def rEN (f : Bool → Bool) : R2 := fun x y H Q => ∃ a b xs, x = V.ref a ∧ y = V.ref b ∧ H a = some (.lst xs) ∧ H b = some (.lst []) ∧ Q (.bl (f xs.isEmpty)) H
theorem op_eqN (hu : X.A.units < cLine) : OpR X (compareOp .Eq) (rEN id) := by
  intro pins s σ H x y v u Q I rx ry h
  obtain ⟨a, b, xs, rfl, rfl, ha, hb, q⟩ := h
  cases (show v = Value.ref a from rx)
  cases (show u = Value.ref b from ry)
  obtain ⟨us, r1, p1, _⟩ := I.list (.inl (.inl ha))
  obtain ⟨ws, r2, p2, _⟩ := I.list (.inl (.inl hb))
  have n1 := r1.length
  have n2 := r2.length
  cases xs with
  | nil =>
    cases us with
    | cons _ _ => cases n1
    | nil =>
      cases ws with
      | cons _ _ => cases n2
      | nil => exact SeqAt.RcAt.lists (e := fun _ => true) p1.isList p2.isList rfl hu (fun j h1 => absurd h1 (Nat.not_lt_zero _)) X.prog X.w _ _ ⟨.bl true, H, I, rfl, q⟩
  | cons x xs =>
    cases us with
    | nil => cases n1
    | cons u us =>
      cases ws with
      | cons _ _ => cases n2
      | nil => exact SeqAt.RcAt.lists_lengths p1.isList p2.isList (by simp) hu X.prog X.w _ _ ⟨.bl false, H, I, rfl, q⟩
theorem op_neN (hu : X.A.units < cLine) : OpR X (compareOp .NotEq) (rEN not) := by
  intro pins s σ H x y v u Q I rx ry h
  obtain ⟨a, b, xs, rfl, rfl, ha, hb, q⟩ := h
  cases (show v = Value.ref a from rx)
  cases (show u = Value.ref b from ry)
  obtain ⟨us, r1, p1, _⟩ := I.list (.inl (.inl ha))
  obtain ⟨ws, r2, p2, _⟩ := I.list (.inl (.inl hb))
  have n1 := r1.length
  have n2 := r2.length
  cases xs with
  | nil =>
    cases us with
    | cons _ _ => cases n1
    | nil =>
      cases ws with
      | cons _ _ => cases n2
      | nil => exact SeqAt.RcNeAt.lists (e := fun _ => true) p1.isList p2.isList rfl hu (fun j h1 => absurd h1 (Nat.not_lt_zero _)) X.prog X.w _ _ ⟨.bl false, H, I, rfl, q⟩
  | cons x xs =>
    cases us with
    | nil => cases n1
    | cons u us =>
      cases ws with
      | cons _ _ => cases n2
      | nil => exact SeqAt.RcNeAt.lists_lengths p1.isList p2.isList (by simp) hu X.prog X.w _ _ ⟨.bl true, H, I, rfl, q⟩
def rES (f : Bool → Bool) : R2 := fun x y H Q => ∃ a b, x = V.str a ∧ y = V.str b ∧ Q (.bl (f (a == b))) H
theorem op_eqS : OpR X (compareOp .Eq) (rES id) := by
  intro pins s σ H x y v u Q I rx ry h
  obtain ⟨a, b, rfl, rfl, q⟩ := h
  obtain ⟨t, rfl⟩ := rx
  obtain ⟨t2, rfl⟩ := ry
  exact SeqAt.RcAt.str_str a t b t2 X.prog X.w _ _ ⟨.bl (a == b), H, I, rfl, q⟩
theorem op_neS : OpR X (compareOp .NotEq) (rES not) := by
  intro pins s σ H x y v u Q I rx ry h
  obtain ⟨a, b, rfl, rfl, q⟩ := h
  obtain ⟨t, rfl⟩ := rx
  obtain ⟨t2, rfl⟩ := ry
  exact SeqAt.RcNeAt.str_str a t b t2 X.prog X.w _ _ ⟨.bl (!(a == b)), H, I, rfl, q⟩
theorem isE_rq {K : PySem.W.Frag} {G H : Hp} {x y : V} {dx dy : PyData} {r : Bool} (h : isE dx dy = some r) (hx : Rq K G H x dx) (hy : Rq K G H y dy) : (∃ a b xs, x = V.ref a ∧ y = V.ref b ∧ H a = some (.lst xs) ∧ H b = some (.lst []) ∧ r = xs.isEmpty) ∨ ∃ a b, x = V.str a ∧ y = V.str b ∧ r = (a == b) := by
  unfold isE at h
  split at h
  · cases h
    obtain ⟨a, xs, rfl, ha, ra⟩ := hx
    obtain ⟨b, ys, rfl, hb, rb⟩ := hy
    cases rb
    refine .inl ⟨a, b, xs, rfl, rfl, ha, hb, ?_⟩
    cases ra <;> rfl
  · cases h
    cases hx
    cases hy
    exact .inr ⟨_, _, rfl, rfl, rfl⟩
  · cases h
theorem v_eq (hu : X.A.units + 64 < cLine) : OpV X ρ (compareOp .Eq) oEq := by
  refine ⟨_, OpR.or (op_eqD hu) (OpR.or (op_eqN (Nat.lt_of_le_of_lt (Nat.le_add_right _ _) hu)) op_eqS), fun π e σ w x y dx dy z Q m hx hy hz k => ?_⟩
  unfold oEq at hz
  split at hz
  · rename_i hc
    cases hz
    exact .inl ⟨dx, dy, hx.dp m.sub hc.1, hy.dp m.sub hc.2, hc.1, hc.2, sc_end m k (.bl _)⟩
  · cases hb : isE dx dy with
    | none => rw [hb] at hz; cases hz
    | some r =>
      rw [hb] at hz
      cases hz
      rcases isE_rq hb hx hy with ⟨a, b, xs, e1, e2, ha, hb2, rfl⟩ | ⟨a, b, e1, e2, rfl⟩
      · exact .inr (.inl ⟨a, b, xs, e1, e2, ha, hb2, sc_end m k (.bl _)⟩)
      · exact .inr (.inr ⟨a, b, e1, e2, sc_end m k (.bl _)⟩)
theorem v_ne (hu : X.A.units + 64 < cLine) : OpV X ρ (compareOp .NotEq) oNe := by
  refine ⟨_, OpR.or (op_neD hu) (OpR.or (op_neN (Nat.lt_of_le_of_lt (Nat.le_add_right _ _) hu)) op_neS), fun π e σ w x y dx dy z Q m hx hy hz k => ?_⟩
  unfold oNe at hz
  split at hz
  · rename_i hc
    cases hz
    exact .inl ⟨dx, dy, hx.dp m.sub hc.1, hy.dp m.sub hc.2, hc.1, hc.2, sc_end m k (.bl _)⟩
  · cases hb : isE dx dy with
    | none => rw [hb] at hz; cases hz
    | some r =>
      rw [hb] at hz
      cases hz
      rcases isE_rq hb hx hy with ⟨a, b, xs, e1, e2, ha, hb2, rfl⟩ | ⟨a, b, e1, e2, rfl⟩
      · exact .inr (.inl ⟨a, b, xs, e1, e2, ha, hb2, sc_end m k (.bl _)⟩)
      · exact .inr (.inr ⟨a, b, e1, e2, sc_end m k (.bl _)⟩)
theorem sign_of {a : Str} (h : a.cps.size = 1) : a = ⟨#[a.cps.getD 0 0]⟩ := by
  obtain ⟨l⟩ := a
  obtain ⟨l⟩ := l
  match l, h with
  | [c], _ => rfl
theorem v_notIn (hu : X.A.units + 65 < cLine) : OpV X ρ (compareOp .NotIn) oNotIn := by
  refine ⟨_, OpR.or (op_notInD hu) op_notIn_sign, fun π e σ w x y dx dy z Q m hx hy hz k => ?_⟩
  unfold oNotIn at hz
  split at hz
  · split at hz
    · rename_i hc
      cases hz
      exact .inl ⟨_, _, hx.dp m.sub hc.1, hy.dp m.sub hc.2, hc.1, hc.2, sc_end m k (.bl _)⟩
    · cases hz
  · split at hz
    · rename_i hc
      cases hz; cases hx; cases hy
      exact .inr ⟨_, _, congrArg V.str (sign_of hc), rfl, sc_end m k (.bl _)⟩
    · cases hz
  · cases hz
theorem v_is : OpV X ρ (compareOp .Is) oIs := by
  refine ⟨_, OpR.or op_isN op_isBl, fun π e σ w x y dx dy z Q m hx hy hz k => ?_⟩
  unfold oIs at hz
  split at hz
  · cases hz
    obtain rfl : y = .non := hy
    refine .inl ⟨rfl, ?_⟩
    have e1 : decide (x = V.non) = isNone dx := by
      cases dx with
      | none => cases hx; rfl
      | bool b => cases hx; rfl
      | int b => cases hx; rfl
      | str b => cases hx; rfl
      | list b => obtain ⟨a, xs, rfl, _⟩ := hx; rfl
      | tuple b => obtain ⟨a, xs, rfl, _⟩ := hx; rfl
      | dict b => obtain ⟨a, xs, rfl, _⟩ := hx; rfl
    rw [e1]
    exact sc_end m k (.bl _)
  · cases hz; cases hx; cases hy
    exact .inr ⟨_, _, rfl, rfl, sc_end m k (.bl _)⟩
  · cases hz
theorem v_isNot : OpV X ρ (compareOp .IsNot) oIsNot := by
  refine ⟨_, OpR.or op_notN op_notBl, fun π e σ w x y dx dy z Q m hx hy hz k => ?_⟩
  unfold oIsNot at hz
  split at hz
  · cases hz
    obtain rfl : y = .non := hy
    refine .inl ⟨rfl, ?_⟩
    have e1 : decide (x = V.non) = isNone dx := by
      cases dx with
      | none => cases hx; rfl
      | bool b => cases hx; rfl
      | int b => cases hx; rfl
      | str b => cases hx; rfl
      | list b => obtain ⟨a, xs, rfl, _⟩ := hx; rfl
      | tuple b => obtain ⟨a, xs, rfl, _⟩ := hx; rfl
      | dict b => obtain ⟨a, xs, rfl, _⟩ := hx; rfl
    rw [e1]
    exact sc_end m k (.bl _)
  · cases hz; cases hx; cases hy
    exact .inr ⟨_, _, rfl, rfl, sc_end m k (.bl _)⟩
  · cases hz
theorem rp_at {K : PySem.W.Frag} {G : Hp} {xs : List V} {ds : List PyData} {i : Int} {d : PyData} (r : RpAll K G xs ds) (h : atI ds i = some d) : ∃ v, atI xs i = some v ∧ Rp K G v d := by
  unfold atI at h ⊢
  rw [r.length]
  cases q : ixN ds.length i with
  | none => rw [q] at h; cases h
  | some j =>
    rw [q] at h
    exact r.get h
theorem ve_ix (ha : VE X ρ W a fa) (hb : VE X ρ W b fb) (hs : PlainIx b := by exact fun _ _ => rfl) : VE X ρ W (.Subscript a b pos) (fBin oIx fa fb) := by
  obtain ⟨t, p, s⟩ := ha
  obtain ⟨t2, p2, s2⟩ := hb
  refine ⟨_, pe_ix ix_seq p p2 hs, se_bin (fun π e σ w x y dx dy z Q m hx hy hz k => ?_) s s2⟩
  unfold oIx at hz
  split at hz
  · cases hy
    obtain ⟨q, xs, rfl, hq, rq⟩ := hx
    rename_i ds i
    cases hd : atI ds i with
    | none => rw [hd] at hz; cases hz
    | some d =>
      rw [hd] at hz
      cases hz
      obtain ⟨v, h1, h2⟩ := rp_at rq hd
      exact .inl ⟨q, xs, i, v, rfl, rfl, .of hq, h1, sc_end m k h2⟩
  · cases hy
    obtain ⟨q, xs, rfl, hq, rq⟩ := hx
    rename_i ds i
    cases hd : atI ds i with
    | none => rw [hd] at hz; cases hz
    | some d =>
      rw [hd] at hz
      cases hz
      obtain ⟨v, h1, h2⟩ := rp_at rq hd
      exact .inr (.inl ⟨q, xs, i, v, rfl, rfl, .of (m.sub _ _ hq), h1, sc_end m k h2⟩)
  · split at hz
    · rename_i zz i hb
      cases hx; cases hy
      cases hd : atI zz.cps.toList i with
      | none => rw [hd] at hz; cases hz
      | some d =>
        rw [hd] at hz
        cases hz
        exact .inr (.inr ⟨zz, i, d, rfl, rfl, le_big hb, hd, sc_end m k (.str _)⟩)
    · cases hz
  · cases hz
def VO (X : Cx) (ρ : Nat → Res) (W : WX) (e : Option Expr) (f : FO) : Prop := ∃ t, PO X e t ∧ ∀ π env σ w Q, Mt (cc X ρ) π env σ w → Post (cc X ρ) W π σ w (f env) (fun _ b b' => b = b') Q → t σ w.H Q
theorem vo_no : VO X ρ W none oNo := ⟨_, po_none, fun π e σ w Q m h => h none w m (.refl w) rfl⟩
theorem vo_some (ha : VE X ρ W a fa) : VO X ρ W (some a) (oSome fa) := by
  obtain ⟨t, p, s⟩ := ha
  refine ⟨_, po_some p, fun π e σ w Q m h => ?_⟩
  refine s π e σ w _ m (h.bnd fun o1 e1 v1 w1 m1 f1 k1 h1 => ?_)
  cases q1 : res e1 o1 with
  | none => rw [q1] at h1; exact h1.elim
  | some d1 =>
    rw [q1] at h1
    have r := res_sound m1 k1 q1
    split at h1
    · rename_i bb z; cases z; cases r
      exact ⟨_, rfl, h1 _ w1 m1 f1 rfl⟩
    · exact h1.elim
theorem ve_sl {lo hi : Option Expr} {fl fh : FO} {p2 : Pos} (ha : VE X ρ W a fa) (hl : VO X ρ W lo fl) (hh : VO X ρ W hi fh) : VE X ρ W (.Subscript a (.Slice lo hi none p2) pos) (fSl fa fl fh) := by
  obtain ⟨t, p, s⟩ := ha
  obtain ⟨t1, p1, s1⟩ := hl
  obtain ⟨t2, p2', s2⟩ := hh
  refine ⟨_, pe_slice (SlR.or sl_list sl_str) p p1 p2', fun π e σ w Q m h => ?_⟩
  refine s π e σ w _ m (h.bnd fun o1 e1 v1 w1 m1 f1 k1 h1 => ?_)
  refine s1 π e1 σ w1 _ m1 ((h1.from f1).bnd fun l e2 l' w2 m2 f2 k2 h2 => ?_)
  subst k2
  refine s2 π e2 σ w2 _ m2 ((h2.from f2).bnd fun u e3 u' w3 m3 f3 k3 h3 => ?_)
  subst k3
  have h4 := h3.from f3
  cases q1 : res e3 o1 with
  | none => rw [q1] at h4; exact h4.elim
  | some d1 =>
    rw [q1] at h4
    simp only [Option.bind_some] at h4
    have r := res_sound m3 ((k1.step f2).step f3) q1
    cases q2 : oSl d1 l u with
    | none => rw [q2] at h4; exact h4.elim
    | some z =>
      rw [q2] at h4
      cases d1 with
      | list ds =>
        cases q2
        obtain ⟨q, xs, rfl, hq, rq⟩ := r
        refine .inl ⟨q, xs, rfl, .of hq, fun p hp => ?_⟩
        have rz : RpAll X.K w3.G (cutV xs l u) (cutD ds l u) := by
          unfold cutV cutD
          rw [rq.length]
          exact (rq.drop _).take _
        obtain ⟨m5, f5, k5⟩ := mk_lst m3 hp rz
        exact h4 _ _ m5 f5 (k5.base ((f1.trans f2).trans f3))
      | str zz =>
        have q2' : (if zz.length ≤ big then some (B.fr (.str (cutS zz l u))) else none) = some z := q2
        split at q2'
        · rename_i hb
          cases q2'; cases r
          exact .inr ⟨_, rfl, le_big hb, h4 _ w3 m3 (.refl _) (.fr (.str _))⟩
        · cases q2'
      | none => cases q2
      | bool i => cases q2
      | int i => cases q2
      | tuple i => cases q2
      | dict i => cases q2
theorem ve_rev {p1 p2 p3 : Pos} {kk} (ha : VE X ρ W a fa) : VE X ρ W (.Subscript a (.Slice none none (some (.UnaryOp .USub (.Constant (.int 1) kk p1) p2)) p3) pos) (fUn oRev fa) := by
  obtain ⟨t, p, s⟩ := ha
  refine ⟨_, pe_revL p, se_un (r := fun x H Q => ∃ a xs, x = .ref a ∧ SqL X.K H a xs ∧ ∀ p, H p = none → Q (.ref p) (upd H p (.lst xs.reverse))) (fun π e σ w x dx z Q m hx hz k => ?_) s⟩
  unfold oRev at hz
  split at hz
  · cases hz
    obtain ⟨q, xs, rfl, hq, rq⟩ := hx
    refine ⟨q, xs, rfl, .of hq, fun p hp => ?_⟩
    obtain ⟨m5, f5, k5⟩ := mk_lst m hp rq.reverse
    exact k _ _ m5 f5 k5
  · cases hz
end
end VL
set_option maxRecDepth 100000
namespace VL
open PySem L2
section
variable {X : Cx} {ρ : Nat → Res} {W : WX} {a b c : Expr} {es : List Expr} {pos p : Pos} {fa fb fc : FE} {ta tb tc : FT} {fd : FD} {as_ : FA}
theorem va_nil : VA X ρ W [] aNil := ⟨_, pa_nil, fun π e σ w Q m h => h [] w m (.refl w) .nil⟩
theorem paired_base {C : Cc} {σ : St} {w w1 w' : WS} (f : Frm w w1) : ∀ {os : List O} {vs : List V}, Paired (OOk C σ w1 w') os vs → Paired (OOk C σ w w') os vs
  | _, _, .nil => .nil
  | _, _, .cons h t => .cons (h.base f) (paired_base f t)
theorem va_cons (ha : VE X ρ W a fa) (hr : VA X ρ W es as_) (hs : starEach (a :: es) X.env = (false, eval a X.env) :: starEach es X.env := by rfl) : VA X ρ W (a :: es) (aCons fa as_) := by
  obtain ⟨t, p, s⟩ := ha
  obtain ⟨t2, p2, s2⟩ := hr
  refine ⟨_, pa_cons p p2 hs, fun π e σ w Q m h => ?_⟩
  refine s π e σ w _ m (h.bnd fun o1 e1 v1 w1 m1 f1 k1 h1 => ?_)
  refine s2 π e1 σ w1 _ m1 ((h1.from f1).bnd fun os e3 vs w3 m3 f3 k3 h3 => ?_)
  exact h3.from f3 (v1 :: vs) w3 m3 (.refl _) (.cons (k1.step f3) (paired_base f1 k3))
/-- all read -/
inductive RqAll (K : PySem.W.Frag) (G H : Hp) : List V → List PyData → Prop
  | nil : RqAll K G H [] []
  | cons {v vs d ds} : Rq K G H v d → RqAll K G H vs ds → RqAll K G H (v :: vs) (d :: ds)
theorem resAll_sound {C : Cc} {π : List (Nat × V)} {e : Env} {σ : St} {w0 w : WS} (m : Mt C π e σ w) : ∀ {os : List O} {vs : List V} {ds : List PyData}, Paired (OOk C σ w0 w) os vs → resAll e os = some ds → RqAll C.K w.G w.H vs ds
  | _, _, ds, .nil, h => by cases h; exact .nil
  | o :: os, v :: vs, ds, .cons h t, hr => by
    unfold resAll at hr
    cases q : res e o with
    | none => rw [q] at hr; cases hr
    | some d =>
      rw [q] at hr
      cases q2 : resAll e os with
      | none => rw [q2] at hr; cases hr
      | some es =>
        rw [q2] at hr
        cases hr
        exact .cons (res_sound m h q) (resAll_sound m t q2)
def CallV (X : Cx) (ρ : Nat → Res) (v : Value) (g : List PyData → Option B) : Prop := ∃ r, CallR X v r ∧
  ∀ π e σ w xs ds z Q, Mt (cc X ρ) π e σ w → RqAll X.K w.G w.H xs ds → g ds = some z → (∀ v w', Mt (cc X ρ) π e σ w' → Frm w w' → OOk (cc X ρ) σ w w' (.b z) v → Q v w'.H) → r xs w.H Q
theorem se_cb {C : Cc} {r : List V → Hp → VK → Prop} {g : List PyData → Option B} {ta : TA} (hr : ∀ π e σ w xs ds z Q, Mt C π e σ w → RqAll C.K w.G w.H xs ds → g ds = some z → (∀ v w', Mt C π e σ w' → Frm w w' → OOk C σ w w' (.b z) v → Q v w'.H) → r xs w.H Q)
    (ha : SA C W ta as_) : SE C W (tCB r ta) (fCB g as_) := fun π e σ w Q m h => by
  refine ha π e σ w _ m (h.bnd fun os e1 vs w1 m1 f1 k1 h1 => ?_)
  have h3 := h1.from f1
  cases q1 : resAll e1 os with
  | none => rw [q1] at h3; exact h3.elim
  | some d1 =>
    rw [q1] at h3
    simp only [Option.bind_some] at h3
    cases q3 : g d1 with
    | none => rw [q3] at h3; exact h3.elim
    | some z =>
      rw [q3] at h3
      exact hr π e1 σ w1 vs d1 z Q m1 (resAll_sound m1 k1 q1) q3 fun v w' m' f' k' => h3 v w' m' f' (k'.base f1)
theorem ve_cb {id : String} {x : Str} {g : List PyData → Option B} (hc : CallV X ρ (.builtin id) g) (hm : X.mg x = none) (hv : bootBuiltins x = some (.builtin id)) (ha : VA X ρ W (a :: es) as_) (hg : Gl X x := by rfl) (hn : x ≠ "__name__" := by decide) (hdb : (x == ("__debug__" : Str)) = false := by decide)
    (he : starEach (a :: es) X.env = (false, eval a X.env) :: starEach es X.env := by rfl) (hpl : (backTo pos (starEach es X.env)).any (·.1) = false := by rfl) : VE X ρ W (.Call (.Name x p) (a :: es) [] pos) (fCB g as_) := by
  obtain ⟨r, h1, h2⟩ := hc
  obtain ⟨t, pa, s⟩ := ha
  exact ⟨_, pe_callB h1 hg hm hv pa hn hdb he hpl, se_cb h2 s⟩
theorem ve_ct {T : String} {x : Str} {g : List PyData → Option B} (hc : CallV X ρ (.type T) g) (hm : X.mg x = none) (hv : bootBuiltins x = some (.type T)) (ha : VA X ρ W (a :: es) as_) (hg : Gl X x := by rfl) (hn : x ≠ "__name__" := by decide) (hdb : (x == ("__debug__" : Str)) = false := by decide)
    (he : starEach (a :: es) X.env = (false, eval a X.env) :: starEach es X.env := by rfl) (hpl : (backTo pos (starEach es X.env)).any (·.1) = false := by rfl) : VE X ρ W (.Call (.Name x p) (a :: es) [] pos) (fCB g as_) := by
  obtain ⟨r, h1, h2⟩ := hc
  obtain ⟨t, pa, s⟩ := ha
  exact ⟨_, pe_callTy h1 hg hm hv pa hn hdb he hpl, se_cb h2 s⟩
theorem ints_of {K : PySem.W.Frag} {G : Hp} : ∀ {ds : List PyData} {ns : List Int} {xs : List V}, asInts ds = some ns → RpAll K G xs ds → xs = ns.map V.int ∧ ds = ns.map .int
  | [], ns, xs, h, r => by cases h; cases r; exact ⟨rfl, rfl⟩
  | .int i :: ds, ns, xs, h, r => by
    unfold asInts at h
    cases q : asInts ds with
    | none => rw [q] at h; cases h
    | some ms =>
      rw [q] at h
      cases h
      cases r with
      | cons r1 r2 =>
        cases r1
        obtain ⟨e1, e2⟩ := ints_of q r2
        exact ⟨by rw [e1]; rfl, by rw [e2]; rfl⟩
  | .none :: ds, ns, xs, h, r => by cases h
  | .bool _ :: ds, ns, xs, h, r => by cases h
  | .str _ :: ds, ns, xs, h, r => by cases h
  | .list _ :: ds, ns, xs, h, r => by cases h
  | .tuple _ :: ds, ns, xs, h, r => by cases h
  | .dict _ :: ds, ns, xs, h, r => by cases h
theorem rp_ints {K : PySem.W.Frag} {G : Hp} : ∀ ns : List Int, RpAll K G (ns.map V.int) (ns.map .int)
  | [] => .nil
  | n :: ns => .cons (.int n) (rp_ints ns)
theorem fold_max_mem (x : Int) : ∀ xs : List Int, xs.foldl max x ∈ x :: xs ∧ ∀ y ∈ x :: xs, y ≤ xs.foldl max x := by
  intro xs
  induction xs generalizing x with
  | nil => exact ⟨by simp, fun y h => by simp at h; subst h; exact Int.le_refl _⟩
  | cons z xs ih =>
    obtain ⟨h1, h2⟩ := ih (max x z)
    show xs.foldl max (max x z) ∈ _ ∧ _
    refine ⟨?_, fun y hy => ?_⟩
    · rcases List.mem_cons.mp h1 with e | e
      · rw [e]
        by_cases hz : z ≤ x
        · rw [Int.max_eq_left hz]; simp
        · rw [Int.max_eq_right (by omega)]; simp
      · exact List.mem_cons_of_mem _ (List.mem_cons_of_mem _ e)
    · have hm := h2 (max x z) (by simp)
      rcases List.mem_cons.mp hy with e | hy
      · subst e; exact Int.le_trans (Int.le_max_left _ _) hm
      · rcases List.mem_cons.mp hy with e | hy
        · subst e; exact Int.le_trans (Int.le_max_right _ _) hm
        · exact h2 y (List.mem_cons_of_mem _ hy)
theorem fold_min_mem (x : Int) : ∀ xs : List Int, xs.foldl min x ∈ x :: xs ∧ ∀ y ∈ x :: xs, xs.foldl min x ≤ y := by
  intro xs
  induction xs generalizing x with
  | nil => exact ⟨by simp, fun y h => by simp at h; subst h; exact Int.le_refl _⟩
  | cons z xs ih =>
    obtain ⟨h1, h2⟩ := ih (min x z)
    show xs.foldl min (min x z) ∈ _ ∧ _
    refine ⟨?_, fun y hy => ?_⟩
    · rcases List.mem_cons.mp h1 with e | e
      · rw [e]
        by_cases hz : x ≤ z
        · rw [Int.min_eq_left hz]; simp
        · rw [Int.min_eq_right (by omega)]; simp
      · exact List.mem_cons_of_mem _ (List.mem_cons_of_mem _ e)
    · have hm := h2 (min x z) (by simp)
      rcases List.mem_cons.mp hy with e | hy
      · subst e; exact Int.le_trans hm (Int.min_le_left _ _)
      · rcases List.mem_cons.mp hy with e | hy
        · subst e; exact Int.le_trans hm (Int.min_le_right _ _)
        · exact h2 y (List.mem_cons_of_mem _ hy)
theorem maxI_uniq {ns : List Int} {m : Int} (hne : ns ≠ []) (h1 : m ∈ ns) (h2 : ∀ y, y ∈ ns → y ≤ m) : m = maxI ns := by
  cases ns with
  | nil => exact absurd rfl hne
  | cons x xs =>
    obtain ⟨k1, k2⟩ := fold_max_mem x xs
    exact Int.le_antisymm (k2 m h1) (h2 _ k1)
theorem minI_uniq {ns : List Int} {m : Int} (hne : ns ≠ []) (h1 : m ∈ ns) (h2 : ∀ y, y ∈ ns → m ≤ y) : m = minI ns := by
  cases ns with
  | nil => exact absurd rfl hne
  | cons x xs =>
    obtain ⟨k1, k2⟩ := fold_min_mem x xs
    exact Int.le_antisymm (h2 _ k1) (k2 m h1)
theorem v_len : CallV X ρ (.builtin "len") gLen := by
  refine ⟨_, CallR.or call_len_seq (CallR.or call_len_str call_lenD), fun π e σ w xs ds z Q m hx hz k => ?_⟩
  unfold gLen at hz
  split at hz
  · cases hz
    cases hx with
    | cons r t =>
      cases t
      obtain ⟨q, ys, rfl, hq, rq⟩ := r
      refine .inl ⟨q, ys, rfl, .inl (.of hq), ?_⟩
      rw [rq.length]
      exact sc_end m k (.int _)
  · cases hz
    cases hx with
    | cons r t =>
      cases t
      obtain ⟨q, ys, rfl, hq, rq⟩ := r
      refine .inl ⟨q, ys, rfl, .inr (.of (m.sub _ _ hq)), ?_⟩
      rw [rq.length]
      exact sc_end m k (.int _)
  · split at hz
    · rename_i hb
      cases hz
      cases hx with
      | cons r t =>
        cases t
        cases r
        exact .inr (.inl ⟨_, rfl, le_big hb, sc_end m k (.int _)⟩)
    · cases hz
  · cases hz
    cases hx with
    | cons r t =>
      cases t
      obtain ⟨q, ys, rfl, hq, e1, rq⟩ := r
      refine .inr (.inr ⟨q, ys, rfl, hq, ?_⟩)
      have e2 := congrArg List.length e1
      rw [List.length_map, List.length_map] at e2
      rw [e2]
      exact sc_end m k (.int _)
  · cases hz
theorem v_abs : CallV X ρ (.builtin "abs") gAbs := by
  refine ⟨_, call_abs, fun π e σ w xs ds z Q m hx hz k => ?_⟩
  unfold gAbs at hz
  split at hz
  · cases hz
    cases hx with
    | cons r t =>
      cases t
      cases r
      exact ⟨_, rfl, sc_end m k (.int _)⟩
  · cases hz
theorem v_max (hc : X.calm = true) : CallV X ρ (.builtin "max") gMax := by
  refine ⟨_, CallR.or (call_max2 hc) (cr_max hc), fun π e σ w xs ds z Q m hx hz k => ?_⟩
  unfold gMax at hz
  split at hz
  · cases hz
    cases hx with
    | cons r t =>
      cases t with
      | cons r2 t =>
        cases t
        cases r
        cases r2
        exact .inl ⟨_, _, rfl, sc_end m k (.int _)⟩
  · rename_i d ds
    cases q : asInts (d :: ds) with
    | none => rw [q] at hz; cases hz
    | some ns =>
      rw [q] at hz
      cases hz
      cases hx with
      | cons r t =>
        cases t
        obtain ⟨p, ys, rfl, hp, rp⟩ := r
        obtain ⟨e1, e2⟩ := ints_of q rp
        subst e1
        have hne : ns ≠ [] := by
          rintro rfl
          cases e2
        refine .inr ⟨p, ns, rfl, .of hp, List.length_pos_iff.mpr hne, fun mm h1 h2 => ?_⟩
        rw [maxI_uniq hne h1 h2]
        exact sc_end m k (.int _)
  · cases hz
theorem v_min (hc : X.calm = true) : CallV X ρ (.builtin "min") gMin := by
  refine ⟨_, CallR.or (call_min2 hc) (cr_min hc), fun π e σ w xs ds z Q m hx hz k => ?_⟩
  unfold gMin at hz
  split at hz
  · cases hz
    cases hx with
    | cons r t =>
      cases t with
      | cons r2 t =>
        cases t
        cases r
        cases r2
        exact .inl ⟨_, _, rfl, sc_end m k (.int _)⟩
  · rename_i d ds
    cases q : asInts (d :: ds) with
    | none => rw [q] at hz; cases hz
    | some ns =>
      rw [q] at hz
      cases hz
      cases hx with
      | cons r t =>
        cases t
        obtain ⟨p, ys, rfl, hp, rp⟩ := r
        obtain ⟨e1, e2⟩ := ints_of q rp
        subst e1
        have hne : ns ≠ [] := by
          rintro rfl
          cases e2
        refine .inr ⟨p, ns, rfl, .of hp, List.length_pos_iff.mpr hne, fun mm h1 h2 => ?_⟩
        rw [minI_uniq hne h1 h2]
        exact sc_end m k (.int _)
  · cases hz
theorem v_int : CallV X ρ (.type "int") gInt := by
  refine ⟨_, call_int1, fun π e σ w xs ds z Q m hx hz k => ?_⟩
  unfold gInt at hz
  split at hz
  · cases hz
    cases hx with
    | cons r t =>
      cases t
      cases r
      exact .inl ⟨_, rfl, sc_end m k (.int _)⟩
  · cases hz
    cases hx with
    | cons r t =>
      cases t
      cases r
      exact .inr ⟨_, rfl, sc_end m k (.int _)⟩
  · cases hz
theorem v_list : CallV X ρ (.type "list") gList := by
  refine ⟨_, call_list_of, fun π e σ w xs ds z Q m hx hz k => ?_⟩
  unfold gList at hz
  split at hz
  · cases hz
    cases hx with
    | cons r t =>
      cases t
      obtain ⟨q, ys, rfl, hq, rq⟩ := r
      refine ⟨q, ys, rfl, .inl (.of hq), fun p hp => ?_⟩
      obtain ⟨m5, f5, k5⟩ := mk_lst m hp rq
      exact k _ _ m5 f5 k5
  · cases hz
    cases hx with
    | cons r t =>
      cases t
      obtain ⟨q, ys, rfl, hq, rq⟩ := r
      refine ⟨q, ys, rfl, .inr (.of (m.sub _ _ hq)), fun p hp => ?_⟩
      obtain ⟨m5, f5, k5⟩ := mk_lst m hp rq
      exact k _ _ m5 f5 k5
  · cases hz
theorem v_tuple : CallV X ρ (.type "tuple") gTuple := by
  refine ⟨_, call_tuple_of, fun π e σ w xs ds z Q m hx hz k => ?_⟩
  unfold gTuple at hz
  split at hz
  · cases hz
    cases hx with
    | cons r t =>
      cases t
      obtain ⟨q, ys, rfl, hq, rq⟩ := r
      refine ⟨q, ys, rfl, .inl ⟨.of hq, fun p hp => ?_⟩⟩
      obtain ⟨w5, m5, f5, eH, k5⟩ := mk_tup m hp rq
      rw [← eH]
      exact k _ _ m5 f5 k5
  · cases hz
    cases hx with
    | cons r t =>
      cases t
      obtain ⟨q, ys, rfl, hq, rq⟩ := r
      exact ⟨q, ys, rfl, .inr ⟨.of (m.sub _ _ hq), sc_end m k (.tup hq rq)⟩⟩
  · cases hz
theorem sorted_uniq {ns ms : List Int} (h1 : ms.Perm ns) (h2 : ms.Pairwise (· ≤ ·)) : ms = ns.mergeSort leI := by
  have t : ∀ a b c : Int, leI a b = true → leI b c = true → leI a c = true := fun a b c x y => by unfold leI at *; simp only [decide_eq_true_eq] at *; omega
  have tt : ∀ a b : Int, (leI a b || leI b a) = true := fun a b => by unfold leI; simp only [Bool.or_eq_true, decide_eq_true_eq]; omega
  have h3 := List.pairwise_mergeSort t tt ns
  have h4 := List.mergeSort_perm ns leI
  refine List.Perm.eq_of_pairwise (le := fun a b : Int => a ≤ b) (fun a b _ _ x y => Int.le_antisymm x y) h2 ?_ (h1.trans h4.symm)
  exact h3.imp fun {a b} h => by unfold leI at h; exact of_decide_eq_true h
theorem v_sorted : CallV X ρ (.builtin "sorted") gSorted := by
  refine ⟨_, cr_sortedI, fun π e σ w xs ds z Q m hx hz k => ?_⟩
  unfold gSorted at hz
  split at hz
  · rename_i ds
    cases q : asInts ds with
    | none => rw [q] at hz; cases hz
    | some ns =>
      rw [q] at hz
      cases hz
      cases hx with
      | cons r t =>
        cases t
        obtain ⟨p, ys, rfl, hp, rp⟩ := r
        obtain ⟨e1, e2⟩ := ints_of q rp
        subst e1
        refine ⟨p, ns, rfl, .of hp, fun ms r h1 h2 hr => ?_⟩
        rw [sorted_uniq h1 h2]
        obtain ⟨m5, f5, k5⟩ := mk_lst m hr (rp_ints _)
        exact k _ _ m5 f5 k5
  · cases hz
end
end VL
set_option maxRecDepth 100000
namespace VL
open PySem L2
section
variable {C : Cc} {π : List (Nat × V)} {e : Env} {σ : St} {w : WS}
theorem at_forget : ∀ {vs : List Nat} {e : Env} {i : Nat} {b : B}, at? (forget vs e) i = some b → at? e i = some b ∧ i ∉ vs
  | [], e, i, b, h => ⟨h, by simp⟩
  | v :: vs, e, i, b, h => by
    obtain ⟨h1, h2⟩ := at_forget (vs := vs) (e := e.set v none) h
    by_cases z : v = i
    · subst z
      unfold at? at h1
      by_cases hv : v < e.length
      · rw [List.getElem?_set_self hv] at h1; cases h1
      · rw [List.getElem?_eq_none (by simpa using hv)] at h1; cases h1
    · rw [at_set_ne z] at h1
      exact ⟨h1, by simp only [List.mem_cons, not_or]; exact ⟨fun q => z q.symm, h2⟩⟩
theorem forget_length : ∀ (vs : List Nat) (e : Env), (forget vs e).length = e.length
  | [], e => rfl
  | v :: vs, e => by
    show (forget vs (e.set v none)).length = e.length
    rw [forget_length vs, List.length_set]
/-- fewer names -/
theorem Mt.less {e' : Env} (m : Mt C π e σ w) (hl : e'.length = e.length) (h : ∀ i b, at? e' i = some b → at? e i = some b) : ∃ w', Mt C π e' σ w' ∧ Frm w w' ∧ w'.H = w.H ∧ w'.G = w.G ∧ ∀ i a, w'.fp i a → w.fp i a := by
  refine ⟨{ w with fp := fun i a => (at? e' i).isSome = true ∧ w.fp i a }, ⟨hl.trans m.len, m.sub, fun i b q => ?_, fun i q a z => ?_, fun i j a x y => m.dis i j a x.2 y.2, m.pin⟩, ⟨Same.refl _, fun a o h1 n => ⟨h1, rfl, fun i z => n i z.2⟩, fun _ h => h⟩, rfl, rfl, fun i a z => z.2⟩
  · obtain ⟨v, h1, h2⟩ := m.bok i b (h i b q)
    refine ⟨v, h1, ?_⟩
    have e1 : (fun a => (at? e' i).isSome = true ∧ w.fp i a) = w.fp i := by
      funext a
      exact propext ⟨fun z => z.2, fun z => ⟨by rw [q]; rfl, z⟩⟩
    show BOk C w.G w.H b v (fun a => (at? e' i).isSome = true ∧ w.fp i a)
    rw [e1]
    exact h2
  · have z1 : (at? e' i).isSome = true := z.1
    rw [q] at z1
    cases z1
theorem Mt.forget {vs : List Nat} (m : Mt C π e σ w) : ∃ w', Mt C π (forget vs e) σ w' ∧ Frm w w' ∧ w'.H = w.H ∧ w'.G = w.G ∧ ∀ i a, w'.fp i a → w.fp i a :=
  m.less (forget_length vs e) fun _ _ h => (at_forget h).1
/-- a name bound -/
theorem Mt.bind {w0 : WS} {i : Nat} {b : B} {v : V} {fp : Addr → Prop} (m : Mt C π e σ w) (f : Frm w0 w) (hp : ∀ p ∈ π, p.1 ≠ i) (hb : BOk C w.G w.H b v fp) (hf : ∀ a, fp a → (w0.H a = none ∨ ∃ i, w0.fp i a) ∧ ∀ j, ¬ w.fp j a) :
    ∃ w', Mt C π (e.set i (some b)) (σ.set i (some v)) w' ∧ Frm w0 w' ∧ w'.H = w.H ∧ w'.G = w.G := by
  by_cases hi : i < e.length
  case neg =>
    rw [List.set_eq_of_length_le (by omega), List.set_eq_of_length_le (by rw [← m.len]; omega)]
    exact ⟨w, m, f, rfl, rfl⟩
  have hi' : i < σ.length := by rw [← m.len]; exact hi
  refine ⟨{ w with fp := fun j a => if j = i then fp a else w.fp j a }, ⟨by rw [List.length_set, List.length_set]; exact m.len, m.sub, fun j c q => ?_, fun j q a z => ?_, fun j k a x y => ?_, fun p h => ?_⟩, ⟨f.g, fun a o h n => ?_, f.t⟩, rfl, rfl⟩
  · by_cases hj : i = j
    · subst hj
      rw [at_set_lt hi] at q
      cases q
      refine ⟨v, List.getElem?_set_self hi', ?_⟩
      have e1 : (fun a => if i = i then fp a else w.fp i a) = fp := by funext a; rw [if_pos rfl]
      show BOk C w.G w.H b v (fun a => if i = i then fp a else w.fp i a)
      rw [e1]
      exact hb
    · rw [at_set_ne hj] at q
      obtain ⟨u, h1, h2⟩ := m.bok j c q
      refine ⟨u, by rw [List.getElem?_set_ne hj]; exact h1, ?_⟩
      have e1 : (fun a => if j = i then fp a else w.fp j a) = w.fp j := by funext a; rw [if_neg (Ne.symm hj)]
      show BOk C w.G w.H c u (fun a => if j = i then fp a else w.fp j a)
      rw [e1]
      exact h2
  · by_cases hj : i = j
    · subst hj
      rw [at_set_lt hi] at q
      cases q
    · rw [at_set_ne hj] at q
      have z' : if j = i then fp a else w.fp j a := z
      rw [if_neg (Ne.symm hj)] at z'
      exact m.non j q a z'
  · have x' : if j = i then fp a else w.fp j a := x
    have y' : if k = i then fp a else w.fp k a := y
    by_cases hj : j = i
    · by_cases hk : k = i
      · rw [hj, hk]
      · rw [if_pos hj] at x'
        rw [if_neg hk] at y'
        exact absurd y' ((hf a x').2 k)
    · by_cases hk : k = i
      · rw [if_neg hj] at x'
        rw [if_pos hk] at y'
        exact absurd x' ((hf a y').2 j)
      · rw [if_neg hj] at x'
        rw [if_neg hk] at y'
        exact m.dis j k a x' y'
  · rw [List.getElem?_set_ne (fun z => hp p h z.symm)]
    exact m.pin p h
  · obtain ⟨h1, h2, h3⟩ := f.k a o h n
    refine ⟨h1, h2, fun j z => ?_⟩
    have z' : if j = i then fp a else w.fp j a := z
    by_cases hj : j = i
    · rw [if_pos hj] at z'
      rcases (hf a z').1 with q | ⟨k, q⟩
      · rw [h] at q; cases q
      · exact n k q
    · rw [if_neg hj] at z'
      exact h3 j z'
/-- a name's slot set where the old value was owned: its things are let go -/
theorem Mt.drop {i : Nat} (m : Mt C π e σ w) : ∃ w', Mt C π (e.set i none) σ w' ∧ Frm w w' ∧ w'.H = w.H ∧ w'.G = w.G ∧ ∀ j a, w'.fp j a → w.fp j a := by
  refine m.less (List.length_set) fun j b h => ?_
  by_cases hj : i = j
  · subst hj
    by_cases hi : i < e.length
    · rw [at_set_lt hi] at h; cases h
    · unfold at? at h
      rw [List.getElem?_eq_none (by simpa using hi)] at h; cases h
  · rw [at_set_ne hj] at h; exact h
end
section
variable {X : Cx} {ρ : Nat → Res} {W : WX} {pn : List Nat} {st : Stmt} {rest : List Stmt} {a b c : Expr} {es : List Expr} {pos p : Pos} {fa fb fc : FE} {ta tb tc : FT} {fd : FD} {as_ : FA} {f g : FS}
def VS (X : Cx) (ρ : Nat → Res) (W : WX) (pn : List Nat) (st : Stmt) (f : FS) : Prop := ∃ t, PS X st t ∧ SS (cc X ρ) W pn t f
def VSs (X : Cx) (ρ : Nat → Res) (W : WX) (pn : List Nat) (st : List Stmt) (f : FS) : Prop := ∃ t, PSs X st t ∧ SS (cc X ρ) W pn t f
theorem vss_nil : VSs X ρ W pn [] sNil := ⟨_, pss_nil, fun π e σ w D hp m h => h σ w m (.refl w)⟩
theorem vss_one (h : VS X ρ W pn st f) : VSs X ρ W pn [st] f := by
  obtain ⟨t, p, s⟩ := h
  exact ⟨t, pss_one p, s⟩
theorem vss_cons (h : VS X ρ W pn st f) (hr : VSs X ρ W pn rest g) : VSs X ρ W pn (st :: rest) (sSeq f g) := by
  obtain ⟨t, p, s⟩ := h
  obtain ⟨t2, p2, s2⟩ := hr
  refine ⟨_, pss_cons p p2, fun π e σ w D hp m h => ?_⟩
  refine s π e σ w _ hp m ?_
  unfold sSeq at h
  cases q : f e with
  | none => rw [q] at h; exact h.elim
  | some x =>
    rw [q] at h
    cases x with
    | nx e1 => exact fun σ' w' m' f' => s2 π e1 σ' w' D hp m' (h.from f')
    | rt b e1 => exact h
    | bk e1 => exact h
    | ct e1 => exact h
    | ex c e1 => exact h
theorem vs_expr (he : VE X ρ W a fa) (hs : swapsWith a none pos.line X.env = pure false := by rfl) : VS X ρ W pn (.Expr a pos) (sExpr fa) := by
  obtain ⟨t, p, s⟩ := he
  refine ⟨_, ps_expr p hs, fun π e σ w D hp m h => ?_⟩
  refine s π e σ w _ m (h.bnd fun o1 e1 v1 w1 m1 f1 k1 h1 => ?_)
  exact h1 σ w1 m1 f1
theorem vs_if {sa sb : List Stmt} (hc : VT X ρ W a ta) (ha : VSs X ρ W pn sa f) (hb : VSs X ρ W pn sb g) : VS X ρ W pn (.If a sa sb pos) (sIf ta f g) := by
  obtain ⟨t, p, s⟩ := hc
  obtain ⟨t2, p2, s2⟩ := ha
  obtain ⟨t3, p3, s3⟩ := hb
  refine ⟨_, ps_if p p2 p3, fun π e σ w D hp m h => ?_⟩
  refine s π e σ w _ m (h.bnd fun o1 e1 v1 w1 m1 f1 k1 h1 => ?_)
  subst k1
  cases o1 with
  | true => rw [if_pos rfl]; exact s2 π e1 σ w1 D hp m1 (h1.from f1)
  | false => rw [if_neg Bool.false_ne_true]; exact s3 π e1 σ w1 D hp m1 (h1.from f1)
theorem ss_asg {C : Cc} {t : TE} {i : Nat} (hi : i ∉ pn) (s : SE C W t fa) : SS C W pn (tAsg t (gName i)) (sAsg i fa) := fun π e σ w D hp m h => by
  refine s π e σ w _ m (h.bnd fun o1 e1 v1 w1 m1 f1 k1 h1 => ?_)
  cases q : fzB e1 o1 with
  | none => rw [q] at h1; exact h1.elim
  | some pr =>
    rw [q] at h1
    obtain ⟨w2, m2, f2, eH, hb⟩ := fzB_sound (e' := pr.2) m1 f1 k1 q
    obtain ⟨w3, m3, f3, eH3, _⟩ := m2.bind f2 (fun p h (z : p.1 = i) => hi (z ▸ hp p h)) hb (fun _ z => z.elim)
    rw [← eH, ← eH3]
    exact h1 _ w3 m3 f3
theorem ss_own {C : Cc} {t : TE} {i : Nat} (hi : i ∉ pn) (s : SE C W t fa) : SS C W pn (tAsg t (gName i)) (sOwn i fa) := fun π e σ w D hp m h => by
  refine s π e σ w _ m (h.bnd fun o1 e1 v1 w1 m1 f1 k1 h1 => ?_)
  cases o1 with
  | s j => exact h1.elim
  | b b =>
    obtain ⟨fp, hb, hf⟩ := k1
    obtain ⟨w3, m3, f3, eH3, _⟩ := m1.bind f1 (fun p h (z : p.1 = i) => hi (z ▸ hp p h)) hb hf
    rw [← eH3]
    exact h1 _ w3 m3 f3
theorem vs_asg (V0 : X.N.Nodup) (i : Nat) {x : Str} {pos' : Pos} (he : VE X ρ W a fa) (hi : X.N[i]? = some x := by rfl) (hp : i ∉ pn := by decide) (hx : Loc X.env.scope x := by first | exact Or.inl rfl | exact Or.inr rfl) (hs : swapsWith a (some (.Name x pos')) pos.line X.env = pure false := by rfl)
    (hf : X.fn x = true ∨ X.env.scope.names.lookup x = some .local := by first | exact .inl rfl | exact .inr rfl) : VS X ρ W pn (.Assign [.Name x pos'] a pos) (sAsg i fa) := by
  obtain ⟨t, p, s⟩ := he
  exact ⟨_, ps_set V0 hi hx p hs hf, ss_asg hp s⟩
theorem vs_own (V0 : X.N.Nodup) (i : Nat) {x : Str} {pos' : Pos} (he : VE X ρ W a fa) (hi : X.N[i]? = some x := by rfl) (hp : i ∉ pn := by decide) (hx : Loc X.env.scope x := by first | exact Or.inl rfl | exact Or.inr rfl) (hs : swapsWith a (some (.Name x pos')) pos.line X.env = pure false := by rfl)
    (hf : X.fn x = true ∨ X.env.scope.names.lookup x = some .local := by first | exact .inl rfl | exact .inr rfl) : VS X ρ W pn (.Assign [.Name x pos'] a pos) (sOwn i fa) := by
  obtain ⟨t, p, s⟩ := he
  exact ⟨_, ps_set V0 hi hx p hs hf, ss_own hp s⟩
theorem vs_retO (he : VE X ρ W a fa) : VS X ρ W pn (.Return (some a) pos) (sRetO fa) := by
  obtain ⟨t, p, s⟩ := he
  refine ⟨_, ps_ret p, fun π e σ w D hp m h => ?_⟩
  refine s π e σ w _ m (h.bnd fun o1 e1 v1 w1 m1 f1 k1 h1 => ?_)
  cases o1 with
  | b b => exact h1 v1 σ w1 m1 f1 k1
  | s i =>
    cases q : at? e1 i with
    | none => simp only [q, Option.bind_none] at h1; exact h1.elim
    | some b =>
      simp only [q, Option.bind_some] at h1
      have hv : σ[i]? = some (some v1) := k1
      obtain ⟨u, g1, g2⟩ := m1.bok i b q
      rw [hv] at g1
      cases g1
      obtain ⟨w2, m2, f2, eH, eG, hl⟩ := m1.drop (i := i)
      rw [← eH]
      refine h1 v1 σ w2 m2 (f1.trans f2) ⟨w1.fp i, by rw [eG, eH]; exact g2, fun a ha => ⟨f1.back (.inr ⟨i, ha⟩), fun j z => ?_⟩⟩
      have hj := m1.dis i j a ha (hl j a z)
      subst hj
      have hi : i < e1.length := by
        unfold at? at q
        cases q2 : e1[i]? with
        | none => rw [q2] at q; cases q
        | some y => exact (List.getElem?_eq_some_iff.mp q2).1
      exact m2.non i (at_set_lt hi) a z
def ItOk (C : Cc) (G : Hp) (J : It) (ds : List PyData) : Prop := ∀ i π e σ w, Mt C π e σ w → Same G w.G → (i < ds.length → J.go i w.H) ∧ (ds.length ≤ i → J.stop i w.H) ∧
  ∀ x H', J.yld i w.H x H' → ∀ d, ds[i]? = some d → ∃ w', Mt C π e σ w' ∧ Frm w w' ∧ w'.H = H' ∧ Rp C.K w'.G x d
def SI (C : Cc) (W : WX) (wi : TI) (f : FI) : Prop := ∀ π e σ w (R : It → Hp → Prop), Mt C π e σ w → Post C W π σ w (f e) (fun w' ds J => ItOk C w'.G J ds) R → wi σ w.H R
def VI (X : Cx) (ρ : Nat → Res) (W : WX) (tg iter : Expr) (f : FI) : Prop := ∃ wi, PI X tg iter wi ∧ SI (cc X ρ) W wi f
theorem it_list {C : Cc} {G : Hp} {p : Addr} {xs : List V} {ds : List PyData} (h : G p = some (.lst xs)) (r : RpAll C.K G xs ds) : ItOk C G (Itl C.K p) ds := fun i π e σ w m s => by
  have hH : w.H p = some (.lst xs) := m.sub _ _ (s _ _ h)
  have hl := r.length
  refine ⟨fun hi => ⟨xs, xs[i]'(by omega), .of hH, List.getElem?_eq_getElem (by omega)⟩, fun hi => ⟨xs, .of hH, by omega⟩, fun x H' y d hd => ?_⟩
  obtain ⟨rfl, hx⟩ := y
  obtain ⟨v, h1, h2⟩ := r.get hd
  have := hx xs (.of hH)
  rw [h1] at this
  cases this
  exact ⟨w, m, .refl w, rfl, h2.mono s⟩
theorem it_rng {C : Cc} {G : Hp} {lo : Int} {n : Nat} : ItOk C G (Itr lo n) (rngN lo n) := fun i π e σ w m s => by
  have hl : (rngN lo n).length = n := by unfold rngN; rw [List.length_map, List.length_range]
  rw [hl]
  refine ⟨fun hi => hi, fun hi => hi, fun x H' y d hd => ?_⟩
  obtain ⟨rfl, rfl⟩ := y
  unfold rngN at hd
  rw [List.getElem?_map] at hd
  cases q : (List.range n)[i]? with
  | none => rw [q] at hd; cases hd
  | some k =>
    rw [q] at hd
    obtain ⟨h1, h2⟩ := List.getElem?_eq_some_iff.mp q
    rw [List.getElem_range] at h2
    subst h2
    cases hd
    exact ⟨w, m, .refl w, rfl, .int _⟩
theorem enumL_get : ∀ {ds : List PyData} {k i : Nat} {d : PyData}, (enumL k ds)[i]? = some d → ∃ d', ds[i]? = some d' ∧ d = .tuple [.int ((k + i : Nat) : Int), d']
  | [], k, i, d, h => by simp [enumL] at h
  | x :: ds, k, 0, d, h => by
    simp [enumL] at h
    exact ⟨x, rfl, h.symm⟩
  | x :: ds, k, i + 1, d, h => by
    have h' : (enumL (k + 1) ds)[i]? = some d := by simpa [enumL] using h
    obtain ⟨d', h1, h2⟩ := enumL_get h'
    exact ⟨d', by simpa using h1, by rw [h2]; congr 3; omega⟩
theorem enumL_length : ∀ (ds : List PyData) (k : Nat), (enumL k ds).length = ds.length
  | [], _ => rfl
  | x :: ds, k => by simp [enumL, enumL_length ds]
theorem it_enum {C : Cc} {G : Hp} {p : Addr} {xs : List V} {ds : List PyData} (h : G p = some (.lst xs)) (r : RpAll C.K G xs ds) : ItOk C G (Ite C.K p) (enumL 0 ds) := fun i π e σ w m s => by
  have hH : w.H p = some (.lst xs) := m.sub _ _ (s _ _ h)
  have hl := r.length
  rw [enumL_length]
  refine ⟨fun hi => ⟨xs, xs[i]'(by omega), .of hH, List.getElem?_eq_getElem (by omega)⟩, fun hi => ⟨xs, .of hH, by omega⟩, fun x H' y d hd => ?_⟩
  obtain ⟨T, z, rfl, hT, rfl, hx⟩ := y
  obtain ⟨d', h1, rfl⟩ := enumL_get hd
  obtain ⟨v, h2, h3⟩ := r.get h1
  have := hx xs (.of hH)
  rw [h2] at this
  cases this
  obtain ⟨w2, m2, f2, eH, fp, k2⟩ := mk_tup (es := [.int ((0 + i : Nat) : Int), d']) m hT (.cons (by rw [Nat.zero_add]; exact .int _) (.cons (h3.mono s) .nil))
  exact ⟨w2, m2, f2, eH, k2.1.1⟩
theorem it_zip {C : Cc} {G : Hp} {p q : Addr} {xs ys : List V} {ds es : List PyData} (h : G p = some (.lst xs)) (r : RpAll C.K G xs ds) (h' : G q = some (.lst ys)) (r' : RpAll C.K G ys es) :
    ItOk C G (Itz C.K p q) (List.zipWith (fun a b => .tuple [a, b]) ds es) := fun i π e σ w m s => by
  have hH : w.H p = some (.lst xs) := m.sub _ _ (s _ _ h)
  have hH' : w.H q = some (.lst ys) := m.sub _ _ (s _ _ h')
  have hl := r.length
  have hl' := r'.length
  rw [List.length_zipWith]
  refine ⟨fun hi => ⟨xs, ys, xs[i]'(by omega), ys[i]'(by omega), .of hH, .of hH', List.getElem?_eq_getElem (by omega), List.getElem?_eq_getElem (by omega)⟩, fun hi => ⟨xs, ys, .of hH, .of hH', by omega⟩, fun x H' y d hd => ?_⟩
  obtain ⟨T, z, z', rfl, hT, rfl, hx, hx'⟩ := y
  obtain ⟨d1, d2, g1, g2, rfl⟩ := (by
    rw [List.getElem?_zipWith] at hd
    cases q1 : ds[i]? with
    | none => rw [q1] at hd; cases hd
    | some d1 =>
      cases q2 : es[i]? with
      | none => rw [q1, q2] at hd; cases hd
      | some d2 =>
        rw [q1, q2] at hd
        cases hd
        exact ⟨d1, d2, rfl, rfl, rfl⟩ : ∃ d1 d2, ds[i]? = some d1 ∧ es[i]? = some d2 ∧ d = .tuple [d1, d2])
  obtain ⟨v, h2, h3⟩ := r.get g1
  obtain ⟨v', h2', h3'⟩ := r'.get g2
  have t1 := hx xs (.of hH)
  rw [h2] at t1
  cases t1
  have t2 := hx' ys (.of hH')
  rw [h2'] at t2
  cases t2
  obtain ⟨w2, m2, f2, eH, fp, k2⟩ := mk_tup (es := [d1, d2]) m hT (.cons (h3.mono s) (.cons (h3'.mono s) .nil))
  exact ⟨w2, m2, f2, eH, k2.1.1⟩
theorem vi_seq {tg : Expr} (ha : VE X ρ W a fa) : VI X ρ W tg a (iSeq fa) := by
  obtain ⟨t, p, s⟩ := ha
  refine ⟨_, pi_list p, fun π e σ w R m h => ?_⟩
  refine s π e σ w _ m (h.bnd fun o1 e1 v1 w1 m1 f1 k1 h1 => ?_)
  cases q : fz e1 o1 with
  | none => rw [q] at h1; exact h1.elim
  | some pr =>
    rw [q] at h1
    simp only [Option.bind_some] at h1
    obtain ⟨w2, m2, f2, eH, r2⟩ := fz_sound (e' := pr.2) m1 f1 k1 q
    obtain ⟨d, e2⟩ := pr
    cases d with
    | list ds =>
      cases r2 with
      | lst g1 g2 =>
        rw [← eH]
        exact ⟨_, rfl, ⟨_, .of (m2.sub _ _ g1)⟩, h1 _ w2 m2 f2 (it_list g1 g2)⟩
    | none => exact h1.elim
    | bool i => exact h1.elim
    | int i => exact h1.elim
    | str i => exact h1.elim
    | tuple i => exact h1.elim
    | dict i => exact h1.elim
theorem lim_ok {i : Int} (h : lim i = true) : -(2 ^ 62) ≤ i ∧ i < 2 ^ 62 := by
  unfold lim at h
  rw [decide_eq_true_eq] at h
  omega
theorem vi_range1 {tg : Expr} (hm : X.mg "range" = none) (ha : VE X ρ W a fa) (hg : Gl X "range" := by rfl) (hs : starEach [a] X.env = (false, eval a X.env) :: starEach [] X.env := by rfl) :
    VI X ρ W tg (.Call (.Name "range" p) [a] [] pos) (iRange1 fa) := by
  obtain ⟨t, p, s⟩ := ha
  refine ⟨_, pi_range1 hg hm (pa_cons p pa_nil hs) hs, fun π e σ w R m h => ?_⟩
  refine s π e σ w _ m (h.bnd fun o1 e1 v1 w1 m1 f1 k1 h1 => ?_)
  cases q1 : res e1 o1 with
  | none => rw [q1] at h1; exact h1.elim
  | some d1 =>
    rw [q1] at h1
    have r := res_sound m1 k1 q1
    split at h1
    · rename_i j z
      cases z; cases r
      split at h1
      · rename_i hl
        have hl' := lim_ok hl
        exact ⟨j, rfl, hl'.1, hl'.2, h1 _ w1 m1 f1 it_rng⟩
      · exact h1.elim
    · exact h1.elim
theorem vi_enum {elts : List Expr} {kk : Nat} {tpos : Pos} (hm : X.mg "enumerate" = none) (ha : VE X ρ W a fa) (hg : Gl X "enumerate" := by rfl) (hs : starEach [a] X.env = [(false, eval a X.env)] := by rfl) :
    VI X ρ W (.Tuple elts kk tpos) (.Call (.Name "enumerate" p) [a] [] pos) (iEnumr fa) := by
  obtain ⟨t, p, s⟩ := ha
  refine ⟨_, pi_enum hg hm (pa_cons p pa_nil hs) hs, fun π e σ w R m h => ?_⟩
  refine s π e σ w _ m (h.bnd fun o1 e1 v1 w1 m1 f1 k1 h1 => ?_)
  cases q : fz e1 o1 with
  | none => rw [q] at h1; exact h1.elim
  | some pr =>
    rw [q] at h1
    simp only [Option.bind_some] at h1
    obtain ⟨w2, m2, f2, eH, r2⟩ := fz_sound (e' := pr.2) m1 f1 k1 q
    obtain ⟨d, e2⟩ := pr
    cases d with
    | list ds =>
      cases r2 with
      | lst g1 g2 =>
        rw [← eH]
        exact ⟨_, _, rfl, .of (m2.sub _ _ g1), h1 _ w2 m2 f2 (it_enum g1 g2)⟩
    | none => exact h1.elim
    | bool i => exact h1.elim
    | int i => exact h1.elim
    | str i => exact h1.elim
    | tuple i => exact h1.elim
    | dict i => exact h1.elim
theorem vi_zip {elts : List Expr} {kk : Nat} {tpos : Pos} (hm : X.mg "zip" = none) (ha : VE X ρ W a fa) (hb : VE X ρ W b fb) (hg : Gl X "zip" := by rfl) (hs : starEach [a, b] X.env = (false, eval a X.env) :: starEach [b] X.env := by rfl) (hs2 : starEach [b] X.env = (false, eval b X.env) :: starEach [] X.env := by rfl)
    (hpl : (backTo pos (starEach [b] X.env)).any (·.1) = false := by rfl) : VI X ρ W (.Tuple elts kk tpos) (.Call (.Name "zip" p) [a, b] [] pos) (iZipp fa fb) := by
  obtain ⟨t, p, s⟩ := ha
  obtain ⟨t2, p2, s2⟩ := hb
  refine ⟨_, pi_zip hg hm (pa_cons p (pa_cons p2 pa_nil hs2) hs) hs hpl, fun π e σ w R m h => ?_⟩
  refine s π e σ w _ m (h.bnd fun o1 e1 v1 w1 m1 f1 k1 h1 => ?_)
  cases q : fz e1 o1 with
  | none => rw [q] at h1; exact h1.elim
  | some pr =>
    rw [q] at h1
    simp only [Option.bind_some] at h1
    obtain ⟨wf, mf, ff, eH, rf⟩ := fz_sound (e' := pr.2) m1 f1 k1 q
    obtain ⟨d, e2⟩ := pr
    rw [← eH]
    refine s2 π e2 σ wf _ mf ((h1.from ff).bnd fun o2 e3 v2 w2 m2 f2 k2 h2 => ?_)
    cases q2 : fz e3 o2 with
    | none => rw [q2] at h2; exact h2.elim
    | some pr2 =>
      rw [q2] at h2
      simp only [Option.bind_some] at h2
      obtain ⟨wg, mg_, fg, eH2, rg⟩ := fz_sound (e' := pr2.2) m2 f2 k2 q2
      obtain ⟨d2, e4⟩ := pr2
      have rf2 := rf.mono fg.g
      cases d with
      | list ds =>
        cases d2 with
        | list es =>
          cases rf2 with
          | lst g1 g2 =>
            cases rg with
            | lst g3 g4 =>
              rw [← eH2]
              exact ⟨_, _, _, _, rfl, .of (mg_.sub _ _ g1), .of (mg_.sub _ _ g3), h2 _ wg mg_ fg (it_zip g1 g2 g3 g4)⟩
        | none => exact h2.elim
        | bool i => exact h2.elim
        | int i => exact h2.elim
        | str i => exact h2.elim
        | tuple i => exact h2.elim
        | dict i => exact h2.elim
      | none => exact h2.elim
      | bool i => exact h2.elim
      | int i => exact h2.elim
      | str i => exact h2.elim
      | tuple i => exact h2.elim
      | dict i => exact h2.elim
end
end VL
set_option maxRecDepth 100000
namespace VL
open PySem L2
section
variable {X : Cx} {ρ : Nat → Res} {W : WX} {pn : List Nat} {st : Stmt} {rest : List Stmt} {a b c tg iter : Expr} {es : List Expr} {pos p : Pos} {fa fb fc : FE} {ta tb tc : FT} {f g : FS} {fi : FI} {ft : FG}
def SG (C : Cc) (pn : List Nat) (t : TG) (f : FG) : Prop := ∀ π e σ w d x e' (Q : St → Hp → Prop), (∀ p ∈ π, p.1 ∈ pn) → Mt C π e σ w → Rp C.K w.G x d → f d e = some e' → (∀ σ' w', Mt C π e' σ' w' → Frm w w' → w'.H = w.H → Q σ' w'.H) → t x σ w.H Q
/-- also what becomes of the slots: those of vs alone change -/
def VG (X : Cx) (ρ : Nat → Res) (pn : List Nat) (tg : Expr) (f : FG) : Prop := ∃ t, PG X tg t ∧ SG (cc X ρ) pn t f
theorem bind_fr {C : Cc} {π : List (Nat × V)} {e : Env} {σ : St} {w : WS} {i : Nat} {d : PyData} {x : V} (m : Mt C π e σ w) (hp : ∀ p ∈ π, p.1 ≠ i) (r : Rp C.K w.G x d) :
    ∃ w', Mt C π (e.set i (some (.fr d))) (σ.set i (some x)) w' ∧ Frm w w' ∧ w'.H = w.H ∧ w'.G = w.G := m.bind (.refl w) hp (fp := fun _ => False) ⟨r, fun _ z => z⟩ fun _ z => z.elim
theorem sg_name {C : Cc} {i : Nat} (hi : i ∉ pn) : SG C pn (gName i) (gN i) := fun π e σ w d x e' Q hp m r hf h => by
  cases hf
  obtain ⟨w', m', f', eH, _⟩ := bind_fr m (fun p hq (z : p.1 = i) => hi (z ▸ hp p hq)) r
  rw [← eH]
  exact h _ w' m' f' eH
theorem vg_name (V0 : X.N.Nodup) (i : Nat) {x : Str} (hi : X.N[i]? = some x := by rfl) (hx : Loc X.env.scope x := by first | exact Or.inl rfl | exact Or.inr rfl) (hp : i ∉ pn := by decide)
    (hf : X.fn x = true ∨ X.env.scope.names.lookup x = some .local := by first | exact .inl rfl | exact .inr rfl) : VG X ρ pn (.Name x pos) (gN i) := ⟨_, pg_name V0 hi hx hf, sg_name hp⟩
theorem rp_tup {K : PySem.W.Frag} {G : Hp} {x : V} {ds : List PyData} (r : Rp K G x (.tuple ds)) : ∃ p xs, x = .ref p ∧ G p = some (.tup xs) ∧ RpAll K G xs ds := by
  cases r with
  | tup h1 h2 => exact ⟨_, _, rfl, h1, h2⟩
theorem vg_t2 (V0 : X.N.Nodup) (hc : X.calm = true) (i j : Nat) {x y : Str} {px py : Pos} {kk} (hi : X.N[i]? = some x := by rfl) (hj : X.N[j]? = some y := by rfl) (hx : Loc X.env.scope x := by first | exact Or.inl rfl | exact Or.inr rfl) (hy : Loc X.env.scope y := by first | exact Or.inl rfl | exact Or.inr rfl)
    (hp : i ∉ pn := by decide) (hq : j ∉ pn := by decide)
    (hf : X.fn x = true ∨ X.env.scope.names.lookup x = some .local := by first | exact .inl rfl | exact .inr rfl) (hf2 : X.fn y = true ∨ X.env.scope.names.lookup y = some .local := by first | exact .inl rfl | exact .inr rfl)
    (hn : (assignEach [.Name x px, .Name y py] X.env).length = 2 := by rfl) (hst : (assignEach [.Name x px, .Name y py] X.env).findIdx? (·.1) = none := by rfl)
    (hs1 : (assignEach (.Name x px :: [.Name y py]) X.env).map (·.2) = assign (.Name x px) X.env :: (assignEach [.Name y py] X.env).map (·.2) := by rfl)
    (hs2 : (assignEach (.Name y py :: []) X.env).map (·.2) = assign (.Name y py) X.env :: (assignEach [] X.env).map (·.2) := by rfl) : VG X ρ pn (.Tuple [.Name x px, .Name y py] kk pos) (gT2 i j) := by
  refine ⟨_, pg_tup hc (pgs_cons (pg_name V0 hi hx hf) (pgs_cons (pg_name V0 hj hy hf2) pgs_nil hs2) hs1) hn hst, fun π e σ w d z e' Q hpi m r hg h => ?_⟩
  unfold gT2 at hg
  split at hg
  · cases hg
    obtain ⟨q, xs, rfl, g1, g2⟩ := rp_tup r
    cases g2 with
    | cons r1 g3 =>
      cases g3 with
      | cons r2 g4 =>
        cases g4
        obtain ⟨w1, m1, f1, eH1, eG1⟩ := bind_fr m (fun p hq (z : p.1 = i) => hp (z ▸ hpi p hq)) r1
        obtain ⟨w2, m2, f2, eH2, _⟩ := bind_fr m1 (fun p hq' (z : p.1 = j) => hq (z ▸ hpi p hq')) (by rw [eG1]; exact r2)
        refine ⟨q, _, rfl, .of (m.sub _ _ g1), rfl, _, _, rfl, _, _, rfl, rfl, ?_⟩
        rw [← eH1, ← eH2]
        exact h _ w2 m2 (f1.trans f2) (eH2.trans eH1)
  · cases hg
theorem forget_post {C : Cc} {π : List (Nat × V)} {e : Env} {σ : St} {w w0 : WS} {vs : List Nat} {D : St → Hp → Prop} (m : Mt C π e σ w) (f : Frm w0 w) (h : ∀ σ' w', Mt C π (forget vs e) σ' w' → Frm w0 w' → D σ' w'.H) : D σ w.H := by
  obtain ⟨w', m', f', eH, _⟩ := m.forget (vs := vs)
  rw [← eH]
  exact h σ w' m' (f.trans f')
theorem ss_for {C : Cc} {wi : TI} {t : TG} {tb : TS} (dead : List Nat) (si : SI C W wi fi) (sg : SG C pn t ft) (sb : SS C W pn tb f) : SS C W pn (tFor wi t tb) (sFor fi ft f dead) := fun π e σ w D hp m h => by
  refine si π e σ w _ m (h.bnd fun ds e1 J w1 m1 f1 k1 h1 => ?_)
  have h2 := h1.from f1
  refine ⟨fun i n σ' H' => n = ds.length - i ∧ i ≤ ds.length ∧ ∃ e' w', w'.H = H' ∧ Mt C π e' σ' w' ∧ Same w1.G w'.G ∧ PostS C W π w' (sForL ft f dead (ds.drop i) e') D, ⟨ds.length, by simp, Nat.zero_le _, e1, w1, rfl, m1, Same.refl _, by rw [List.drop_zero]; exact h2⟩, ?_⟩
  rintro i n σ' H' ⟨rfl, hi, e', w', rfl, m', sG, h3⟩
  obtain ⟨go, stop, yld⟩ := k1 i π e' σ' w' m' sG
  by_cases hlt : i < ds.length
  · refine .inr ⟨go hlt, fun σ2 H2 => i + 1 ≤ ds.length ∧ ∃ e2 w2, w2.H = H2 ∧ Mt C π e2 σ2 w2 ∧ Same w1.G w2.G ∧ PostS C W π w2 (sForL ft f dead (ds.drop (i + 1)) e2) D, fun σ2 H2 q => ⟨ds.length - (i + 1), by omega, rfl, q⟩, fun x H2 y => ?_⟩
    obtain ⟨w2, m2, f2, eH2, r2⟩ := yld x H2 y ds[i] (List.getElem?_eq_getElem hlt)
    subst eH2
    rw [List.drop_eq_getElem_cons hlt] at h3
    have h4 := h3.from f2
    unfold sForL at h4
    cases q : ft ds[i] e' with
    | none => rw [q] at h4; exact h4.elim
    | some e3 =>
      rw [q] at h4
      simp only at h4
      refine sg π e' σ' w2 ds[i] x e3 _ hp m2 r2 q fun σ3 w3 m3 f3 _ => ?_
      have h5 := h4.from f3
      refine sb π e3 σ3 w3 _ hp m3 ?_
      have sG3 : Same w1.G w3.G := (sG.trans f2.g).trans f3.g
      have again : ∀ {σ4 w4 e4}, Mt C π e4 σ4 w4 → Frm w3 w4 → PostS C W π w3 (sForL ft f dead (ds.drop (i + 1)) (forget dead e4)) D →
          i + 1 ≤ ds.length ∧ ∃ e2 w2, w2.H = w4.H ∧ Mt C π e2 σ4 w2 ∧ Same w1.G w2.G ∧ PostS C W π w2 (sForL ft f dead (ds.drop (i + 1)) e2) D := fun {σ4 w4 e4} m4 f4 h6 => by
        obtain ⟨w5, m5, f5, eH5, eG5, _⟩ := m4.forget (vs := dead)
        exact ⟨hlt, _, w5, eH5, m5, (sG3.trans f4.g).trans f5.g, h6.from (f4.trans f5)⟩
      cases q2 : f e3 with
      | none => rw [q2] at h5; exact h5.elim
      | some x =>
        rw [q2] at h5
        cases x with
        | nx e4 => exact fun σ4 w4 m4 f4 => again m4 f4 h5
        | ct e4 => exact fun σ4 w4 m4 f4 => again m4 f4 h5
        | bk e4 => exact fun σ4 w4 m4 f4 => forget_post m4 f4 h5
        | rt b e4 => exact h5
        | ex c e4 => exact h5
  · have e2 : i = ds.length := by omega
    subst e2
    rw [List.drop_length] at h3
    exact .inl ⟨stop (Nat.le_refl _), forget_post m' (.refl _) h3⟩
theorem vs_for (V0 : Vx X W) (dead : List Nat) {body : List Stmt} (hi : VI X ρ W tg iter fi) (hg : VG X ρ pn tg ft) (hb : VSs X ρ W pn body f) (hs : ∀ x, foldedSetIterable iter X.env x = pure x := by intro _; rfl) : VS X ρ W pn (.For tg iter body [] pos) (sFor fi ft f dead) := by
  obtain ⟨wi, pi, si⟩ := hi
  obtain ⟨t, pg, sg⟩ := hg
  obtain ⟨tb, pb, sb⟩ := hb
  exact ⟨_, ps_for V0.po V0.calm pi pg pb hs, ss_for dead si sg sb⟩
abbrev W0 : WX := fun _ _ _ _ => False
/-- the tests of a comprehension -/
def VC (X : Cx) (ρ : Nat → Res) (ifs : List Expr) (f : FT) : Prop := ∃ t, PTs X ifs t ∧ ST (cc X ρ) W0 t f
theorem vc_no : VC X ρ [] tTrue := ⟨_, pts_nil, fun π e σ w Q m h => h true w m (.refl w) rfl⟩
theorem vc_if (h : VT X ρ W0 a ta) : VC X ρ [a] ta := by
  obtain ⟨t, p, s⟩ := h
  exact ⟨_, pts_one p, s⟩
theorem wipe_get {σ : St} {i : Nat} : ∀ {vs : List Nat}, i ∉ vs → (wipe σ vs)[i]? = σ[i]?
  | [], _ => rfl
  | v :: vs, h => by
    simp only [List.mem_cons, not_or] at h
    show ((wipe σ vs).set v none)[i]? = σ[i]?
    rw [List.getElem?_set_ne (Ne.symm h.1)]
    exact wipe_get h.2
/-- into the comprehension's own frame, and out of it -/
theorem Mt.wipe {C : Cc} {π : List (Nat × V)} {e : Env} {σ : St} {w : WS} {vs : List Nat} (m : Mt C π e σ w) (hv : ∀ i b, at? e i = some b → i ∉ vs) : Mt C [] e (L2.wipe σ vs) w :=
  ⟨by rw [wipe_length]; exact m.len, m.sub, fun i b q => by
    obtain ⟨v, h1, h2⟩ := m.bok i b q
    exact ⟨v, by rw [wipe_get (hv i b q)]; exact h1, h2⟩, m.non, m.dis, fun p h => by cases h⟩
theorem Mt.unwipe {C : Cc} {π : List (Nat × V)} {e : Env} {σ σ' : St} {w : WS} {vs : List Nat} (m : Mt C [] e σ' w) (hw : L2.wipe σ' vs = L2.wipe σ vs) (hl : σ'.length = σ.length) (hv : ∀ i b, at? e i = some b → i ∉ vs) (hp : ∀ p ∈ π, σ[p.1]? = some (some p.2)) : Mt C π e σ w :=
  ⟨m.len.trans hl, m.sub, fun i b q => by
    obtain ⟨v, h1, h2⟩ := m.bok i b q
    refine ⟨v, ?_, h2⟩
    have hi := hv i b q
    have e1 : (L2.wipe σ' vs)[i]? = (L2.wipe σ vs)[i]? := by rw [hw]
    rw [wipe_get hi, wipe_get hi] at e1
    rw [← e1]
    exact h1, m.non, m.dis, hp⟩
/-- the wiped slots may change alone -/
def WipeG (t : TG) (vs : List Nat) : Prop := ∀ x σ τ H (Q : St → Hp → Prop), L2.wipe σ vs = τ → t x σ H (fun σ' H' => L2.wipe σ' vs = τ → σ'.length = σ.length → Q σ' H') → t x σ H fun σ' H' => L2.wipe σ' vs = τ ∧ Q σ' H'
theorem wipe_set {σ : St} {i : Nat} {x : Option V} : ∀ {vs : List Nat}, i ∈ vs → L2.wipe (σ.set i x) vs = L2.wipe σ vs
  | v :: vs, h => by
    show (L2.wipe (σ.set i x) vs).set v none = (L2.wipe σ vs).set v none
    by_cases hi : i ∈ vs
    · rw [wipe_set hi]
    · have hv : i = v := by
        rcases List.mem_cons.mp h with e | e
        · exact e
        · exact absurd e hi
      subst hv
      apply List.ext_getElem?
      intro k
      by_cases hk : k = i
      · subst hk
        by_cases hl : k < σ.length
        · rw [List.getElem?_set_self (by rw [wipe_length, List.length_set]; exact hl), List.getElem?_set_self (by rw [wipe_length]; exact hl)]
        · rw [List.getElem?_eq_none (by rw [List.length_set, wipe_length, List.length_set]; omega), List.getElem?_eq_none (by rw [List.length_set, wipe_length]; omega)]
      · rw [List.getElem?_set_ne (Ne.symm hk), List.getElem?_set_ne (Ne.symm hk)]
        have go : ∀ us : List Nat, (L2.wipe (σ.set i x) us)[k]? = (L2.wipe σ us)[k]? := by
          intro us
          induction us with
          | nil => exact List.getElem?_set_ne (Ne.symm hk)
          | cons u us ih =>
            show ((L2.wipe (σ.set i x) us).set u none)[k]? = ((L2.wipe σ us).set u none)[k]?
            by_cases hu : u = k
            · subst hu
              by_cases hl : u < σ.length
              · rw [List.getElem?_set_self (by rw [wipe_length, List.length_set]; exact hl), List.getElem?_set_self (by rw [wipe_length]; exact hl)]
              · rw [List.getElem?_eq_none (by rw [List.length_set, wipe_length, List.length_set]; omega), List.getElem?_eq_none (by rw [List.length_set, wipe_length]; omega)]
            · rw [List.getElem?_set_ne hu, List.getElem?_set_ne hu]
              exact ih
        exact go vs
theorem wipe_wipe {σ : St} {vs : List Nat} : L2.wipe (L2.wipe σ vs) vs = L2.wipe σ vs := by
  have go : ∀ us : List Nat, (∀ u ∈ us, u ∈ vs) → L2.wipe (L2.wipe σ vs) us = L2.wipe σ vs := by
    intro us
    induction us with
    | nil => intro _; rfl
    | cons u us ih =>
      intro hu
      show (L2.wipe (L2.wipe σ vs) us).set u none = L2.wipe σ vs
      rw [ih fun v hv => hu v (List.mem_cons_of_mem _ hv)]
      apply List.ext_getElem?
      intro k
      by_cases hk : u = k
      · subst hk
        by_cases hl : u < σ.length
        · rw [List.getElem?_set_self (by rw [wipe_length]; exact hl)]
          cases q : (L2.wipe σ vs)[u]? with
          | none =>
            rw [List.getElem?_eq_none_iff, wipe_length] at q
            omega
          | some z =>
            cases z with
            | none => rfl
            | some z => exact absurd (hu u List.mem_cons_self) (wipe_some q).2
        · rw [List.getElem?_eq_none (by rw [List.length_set, wipe_length]; omega), List.getElem?_eq_none (by rw [wipe_length]; omega)]
      · rw [List.getElem?_set_ne hk]
  exact go vs fun _ h => h
theorem wg_name {i : Nat} {vs : List Nat} (h : i ∈ vs) : WipeG (gName i) vs := fun x σ τ H Q e q => ⟨(wipe_set h).trans e, q ((wipe_set h).trans e) List.length_set⟩
theorem wg_t2 {K : PySem.W.Frag} {n i j : Nat} {vs : List Nat} (h : i ∈ vs) (h2 : j ∈ vs) : WipeG (gTup K n (gCons (gName i) (gCons (gName j) gNil))) vs := fun x σ τ H Q e q => by
  obtain ⟨a, xs, e1, h1, hl, v, r, e2, v', r', e3, e4, q⟩ := q
  exact ⟨a, xs, e1, h1, hl, v, r, e2, v', r', e3, e4, ((wipe_set h2).trans (wipe_set h)).trans e, q (((wipe_set h2).trans (wipe_set h)).trans e) (by rw [List.length_set, List.length_set])⟩
theorem se_lc {C : Cc} {wi : TI} {t : TG} {tt : TT} {te : TE} {vs : List Nat} (si : SI C W wi fi) (sg : SG C [] t ft) (wg : WipeG t vs) (st : ST C W0 tt ta) (sf : SE C W0 te fa) : SE C W (tLc wi t tt te vs) (fLc fi ft ta fa vs) := fun π e σ w Q m h => by
  refine si π e σ w _ m (h.bnd fun ds e1 J w1 m1 f1 k1 h1 => ?_)
  intro D hD
  obtain ⟨wf, mf, ff, eHf, eGf, hlf⟩ := m1.forget (vs := vs)
  have hDf : wf.H D = none := by rw [eHf]; exact hD
  have hDw : w.H D = none := f1.t D hD
  have hG1 : wf.G D = none := mf.sub.free hDf
  have m2 := mf.new (o := .lst []) hDf
  have f2 := Frm.new (o := .lst []) hDf
  have hno : ∀ i, ¬ (wf.new D (.lst [])).fp i D := fun i => mf.notOwned hDf i
  have mw : Mt C [] (forget vs e1) (L2.wipe σ vs) (wf.new D (.lst [])) := m2.wipe fun i b q => (at_forget q).2
  -- the invariant
  refine ⟨fun i n H' => n = ds.length - i ∧ i ≤ ds.length ∧ ∃ e' w' acc xs, w'.H = H' ∧ Mt C [] e' (L2.wipe σ vs) w' ∧ (∀ j b, at? e' j = some b → j ∉ vs) ∧ Frm w1 w' ∧ Same w1.G w'.G ∧ w'.H D = some (.lst xs) ∧ w'.G D = none ∧ (∀ j, ¬ w'.fp j D) ∧ RpAll C.K w'.G xs acc ∧
      Post C W π σ w (fLcL ft ta fa vs (ds.drop i) acc e') (OOk C σ w) Q,
    ⟨ds.length, by simp, Nat.zero_le _, forget vs e1, wf.new D (.lst []), [], [], by rw [show (wf.new D (.lst [])).H = upd wf.H D (.lst []) from rfl, eHf], mw, fun j b q => (at_forget q).2, ff.trans f2, (ff.trans f2).g, upd_same, hG1, hno, .nil, by rw [List.drop_zero]; exact h1⟩, ?_⟩
  rintro i n H' ⟨rfl, hi, e', w', acc, xs, rfl, m', hv', fr', sG, hDx, hGD, hnD, rA, h3⟩
  obtain ⟨go, stop, yld⟩ := k1 i [] e' _ w' m' sG
  have frw : Frm w w' := f1.trans fr'
  by_cases hlt : i < ds.length
  · refine .inr ⟨go hlt, fun H2 => i + 1 ≤ ds.length ∧ ∃ e' w' acc xs, w'.H = H2 ∧ Mt C [] e' (L2.wipe σ vs) w' ∧ (∀ j b, at? e' j = some b → j ∉ vs) ∧ Frm w1 w' ∧ Same w1.G w'.G ∧ w'.H D = some (.lst xs) ∧ w'.G D = none ∧ (∀ j, ¬ w'.fp j D) ∧ RpAll C.K w'.G xs acc ∧
      Post C W π σ w (fLcL ft ta fa vs (ds.drop (i + 1)) acc e') (OOk C σ w) Q, fun H2 q => ⟨ds.length - (i + 1), by omega, rfl, q⟩, fun x H2 y => ?_⟩
    obtain ⟨w2, m2, f2, eH2, r2⟩ := yld x H2 y ds[i] (List.getElem?_eq_getElem hlt)
    subst eH2
    rw [List.drop_eq_getElem_cons hlt] at h3
    unfold fLcL at h3
    cases q : ft ds[i] e' with
    | none => rw [q] at h3; exact h3.elim
    | some e3 =>
      rw [q] at h3
      simp only at h3
      -- the target
      have ww := wipe_wipe (σ := σ) (vs := vs)
      -- the rest of the turn, for whatever slots
      have turn : ∀ σ3 w3, L2.wipe σ3 vs = L2.wipe σ vs → σ3.length = σ.length → Mt C [] e3 σ3 w3 → Frm w2 w3 → tt σ3 w3.H fun b H3 => if b = true then te σ3 H3 fun y H4 => ∃ acc, H4 D = some (.lst acc) ∧ acc.length < sizeLine ∧
          (i + 1 ≤ ds.length ∧ ∃ e' w' acc_1 xs, w'.H = upd H4 D (.lst (acc ++ [y])) ∧ Mt C [] e' (L2.wipe σ vs) w' ∧ (∀ j b, at? e' j = some b → j ∉ vs) ∧ Frm w1 w' ∧ Same w1.G w'.G ∧ w'.H D = some (.lst xs) ∧ w'.G D = none ∧ (∀ j, ¬ w'.fp j D) ∧ RpAll C.K w'.G xs acc_1 ∧ Post C W π σ w (fLcL ft ta fa vs (ds.drop (i + 1)) acc_1 e') (OOk C σ w) Q)
          else (i + 1 ≤ ds.length ∧ ∃ e' w' acc_1 xs, w'.H = H3 ∧ Mt C [] e' (L2.wipe σ vs) w' ∧ (∀ j b, at? e' j = some b → j ∉ vs) ∧ Frm w1 w' ∧ Same w1.G w'.G ∧ w'.H D = some (.lst xs) ∧ w'.G D = none ∧ (∀ j, ¬ w'.fp j D) ∧ RpAll C.K w'.G xs acc_1 ∧ Post C W π σ w (fLcL ft ta fa vs (ds.drop (i + 1)) acc_1 e') (OOk C σ w) Q) := by
        intro σ3 w3 hw3 hl3 m3 f3
        have fD : ∀ {w4}, Frm w' w4 → w4.H D = some (.lst xs) ∧ w4.G D = none ∧ ∀ j, ¬ w4.fp j D := fun {w4} f => by
          obtain ⟨g1, g2, g3⟩ := f.k D _ hDx hnD
          exact ⟨g1, g2.trans hGD, g3⟩
        refine st [] e3 σ3 w3 _ m3 ?_
        cases qt : ta e3 with
        | none => rw [qt] at h3; exact h3.elim
        | some ot =>
          rw [qt] at h3
          cases ot with
          | ex c e => exact h3.elim
          | ok bt e4 =>
            intro b w4 m4 f4 eb
            subst eb
            have f24 : Frm w' w4 := (f2.trans f3).trans f4
            cases bt with
            | false =>
              rw [if_neg Bool.false_ne_true]
              simp only at h3
              obtain ⟨w5, m5, f5, eH5, eG5, _⟩ := m4.forget (vs := vs)
              have f25 := f24.trans f5
              obtain ⟨g1, g2, g3⟩ := fD f25
              refine ⟨hlt, _, w5, acc, xs, eH5, (m5.unwipe (π := []) (vs := vs) (by rw [ww]; exact hw3) (by rw [wipe_length]; exact hl3) (fun j b q => (at_forget q).2) (fun p h => by cases h)), fun j b q => (at_forget q).2, fr'.trans f25, sG.trans f25.g, g1, g2, g3, rA.mono f25.g, h3⟩
            | true =>
              rw [if_pos rfl]
              simp only at h3
              refine sf [] e4 σ3 w4 _ m4 ?_
              cases qf : fa e4 with
              | none => rw [qf] at h3; exact h3.elim
              | some of_ =>
                rw [qf] at h3
                cases of_ with
                | ex c e => exact h3.elim
                | ok o e5 =>
                  intro yv w5 m5 f5 k5
                  simp only at h3
                  cases qz : fz e5 o with
                  | none => rw [qz] at h3; exact h3.elim
                  | some pz =>
                    rw [qz] at h3
                    obtain ⟨dz, ez⟩ := pz
                    simp only at h3
                    obtain ⟨w6, m6, f6, eH6, r6⟩ := fz_sound m5 f5 k5 qz
                    split at h3
                    case isFalse => exact h3.elim
                    case isTrue hbig =>
                      have f26 : Frm w' w6 := f24.trans f6
                      obtain ⟨g1, g2, g3⟩ := fD f26
                      have hlen := rA.length
                      refine ⟨xs, by rw [← eH6]; exact g1, by rw [hlen]; exact Nat.lt_of_lt_of_le hbig big_le, hlt, ?_⟩
                      -- D grows
                      obtain ⟨w7, m7, f7, eH7, eG7, hl7⟩ := m6.forget (vs := vs)
                      have f27 := f26.trans f7
                      obtain ⟨a1, a2, a3⟩ := fD f27
                      have m8 : Mt C [] (forget vs ez) (L2.wipe σ vs) { w7 with H := upd w7.H D (.lst (xs ++ [yv])) } := by
                        have m7' := m7.unwipe (σ := L2.wipe σ vs) (π := []) (vs := vs) (by rw [ww]; exact hw3) (by rw [wipe_length]; exact hl3) (fun j b q => (at_forget q).2) (fun p h => by cases h)
                        refine ⟨m7'.len, fun a u qa => ?_, fun j b qb => ?_, m7'.non, m7'.dis, m7'.pin⟩
                        · show upd w7.H D (.lst (xs ++ [yv])) a = some u
                          rw [upd_ne (ne_of_none qa a2)]
                          exact m7'.sub a u qa
                        · obtain ⟨v, b1, b2⟩ := m7'.bok j b qb
                          refine ⟨v, b1, b2.mono (Same.refl _) fun a ha => ⟨upd_ne fun z => a3 j (by rw [← z]; exact ha), rfl⟩⟩
                      refine ⟨_, _, acc ++ [dz], xs ++ [yv], by show upd w7.H D _ = _; rw [eH7, eH6], m8, fun j b q => (at_forget q).2, ⟨(fr'.trans f27).g, fun a o ha hna => ?_, fun a ha => ?_⟩, sG.trans f27.g, upd_same, a2, a3, (rA.mono f27.g).append (.cons (r6.mono f7.g) .nil), h3⟩
                      · obtain ⟨b1, b2, b3⟩ := (fr'.trans f27).k a o ha hna
                        refine ⟨?_, b2, b3⟩
                        show upd w7.H D _ a = some o
                        rw [upd_ne (ne_of_none ha hD)]
                        exact b1
                      · by_cases z : a = D
                        · rw [z]; exact hD
                        · have ha' : upd w7.H D (.lst (xs ++ [yv])) a = none := ha
                          rw [upd_ne z] at ha'
                          exact (fr'.trans f27).t a ha'
      exact wg x _ _ _ _ ww (sg [] e' _ w2 ds[i] x e3 _ (fun p h => by cases h) m2 r2 q fun σ3 w3 m3 f3 _ hw hl => turn σ3 w3 hw (hl.trans (wipe_length σ vs)) m3 f3)
  · have e2 : i = ds.length := by omega
    subst e2
    rw [List.drop_length] at h3
    refine .inl ⟨stop (Nat.le_refl _), ?_⟩
    have mu : Mt C π e' σ w' := m'.unwipe (σ := σ) (vs := vs) wipe_wipe (wipe_length σ vs) hv' m.pin
    exact h3 (.ref D) w' mu frw ⟨fun a => a = D, ⟨D, xs, rfl, hGD, hDx, rA, fun _ => Iff.rfl⟩, fun a ha => by subst ha; exact ⟨.inl hDw, hnD⟩⟩
end
end VL
set_option maxRecDepth 100000
namespace VL
open PySem L2
section
variable {X : Cx} {ρ : Nat → Res} {W : WX} {pn : List Nat} {st : Stmt} {rest : List Stmt} {a b c tg iter elt : Expr} {es ifs : List Expr} {pos p : Pos} {fa fb fc : FE} {ta tb tc : FT} {f g : FS} {fi : FI} {ft : FG} {as_ : FA}
theorem Vx.blk (V0 : Vx X W) (s : Shared) (H : Hp) (scope : Scope) (cenv : PySem.Env) (fp : List Addr) : Vx (X.blk s H scope cenv fp) W0 := ⟨V0.calm, V0.room, V0.gd, V0.sm, V0.nd, takes0, PassesOwn.never⟩
theorem pe_less {t t' : TE} (h : PE X a t) (k : ∀ σ H Q, t' σ H Q → t σ H Q) : PE X a t' := ⟨fun pins s σ H Q I q => h.run pins s σ H Q I (k σ H Q q)⟩
theorem pts_less {t t' : TT} (h : PTs X ifs t) (k : ∀ σ H Q, t' σ H Q → t σ H Q) : PTs X ifs t' := ⟨fun pins s σ H Q I q => h.run pins s σ H Q I (k σ H Q q)⟩
/-- the parts of a comprehension, the same readings whatever frame it gets -/
theorem lc_parts {scope : Scope} (V0 : Vx X W)
    (ht : ∀ (s : Shared) (H : Hp) (C : Addr) (cl : List (Str × Addr)) (fp : List Addr), Vx (X.blk s H scope (compEnvC scope cl C X.env) fp) W0 → VC (X.blk s H scope (compEnvC scope cl C X.env) fp) ρ ifs ta)
    (he : ∀ (s : Shared) (H : Hp) (C : Addr) (cl : List (Str × Addr)) (fp : List Addr), Vx (X.blk s H scope (compEnvC scope cl C X.env) fp) W0 → VE (X.blk s H scope (compEnvC scope cl C X.env) fp) ρ W0 elt fa) :
    ∃ (tt : TT) (te : TE), (∀ (s : Shared) (H : Hp) (C : Addr) (cl : List (Str × Addr)) (fp : List Addr), PTs (X.blk s H scope (compEnvC scope cl C X.env) fp) ifs tt) ∧ (∀ (s : Shared) (H : Hp) (C : Addr) (cl : List (Str × Addr)) (fp : List Addr), PE (X.blk s H scope (compEnvC scope cl C X.env) fp) elt te) ∧
      ST (cc X ρ) W0 tt ta ∧ SE (cc X ρ) W0 te fa := by
  have h1 := fun s H C cl fp => ht s H C cl fp (V0.blk s H scope _ fp)
  have h2 := fun s H C cl fp => he s H C cl fp (V0.blk s H scope _ fp)
  refine ⟨fun σ H' Q => ∀ s H C cl fp, (h1 s H C cl fp).choose σ H' Q, fun σ H' Q => ∀ s H C cl fp, (h2 s H C cl fp).choose σ H' Q, fun s H C cl fp => ?_, fun s H C cl fp => ?_, ?_, ?_⟩
  · exact pts_less (h1 s H C cl fp).choose_spec.1 fun σ H' Q q => q s H C cl fp
  · exact pe_less (h2 s H C cl fp).choose_spec.1 fun σ H' Q q => q s H C cl fp
  · intro π e σ w Q m h s H C cl fp
    exact (h1 s H C cl fp).choose_spec.2 π e σ w Q m h
  · intro π e σ w Q m h s H C cl fp
    exact (h2 s H C cl fp).choose_spec.2 π e σ w Q m h
theorem ve_lc {scope : Scope} (V0 : Vx X W) (own : List (Str × Nat)) {t : TG} (hi : VI X ρ W tg iter fi) (ok : blkC X.N X.env.scope scope own = true)
    (hg : ∀ (s : Shared) (H : Hp) (C : Addr) (cl : List (Str × Addr)) (fp : List Addr), PG (X.blk s H scope (compEnvC scope cl C X.env) fp) tg t) (sg : SG (cc X ρ) [] t ft) (wg : WipeG t (own.map (·.2)))
    (ht : ∀ (s : Shared) (H : Hp) (C : Addr) (cl : List (Str × Addr)) (fp : List Addr), Vx (X.blk s H scope (compEnvC scope cl C X.env) fp) W0 → VC (X.blk s H scope (compEnvC scope cl C X.env) fp) ρ ifs ta)
    (he : ∀ (s : Shared) (H : Hp) (C : Addr) (cl : List (Str × Addr)) (fp : List Addr), Vx (X.blk s H scope (compEnvC scope cl C X.env) fp) W0 → VE (X.blk s H scope (compEnvC scope cl C X.env) fp) ρ W0 elt fa) (hs : ∀ x, foldedSetIterable iter X.env x = pure x := by intro _; rfl) :
    VE X ρ W (.ListComp elt [⟨tg, iter, ifs, 0⟩] scope pos) (fLc fi ft ta fa (own.map (·.2))) := by
  obtain ⟨wi, pi, si⟩ := hi
  obtain ⟨tt, te, p1, p2, s1, s2⟩ := lc_parts V0 ht he
  exact ⟨_, pe_lc V0.calm V0.nd pi (blkOk_by ok) hg p1 p2 hs, se_lc si sg wg s1 s2⟩
/-- name = [..], the name a local -/
theorem vs_asgLc {scope : Scope} {y : Str} {py spos : Pos} {t : TG} (V0 : Vx X W) (i : Nat) (own : List (Str × Nat)) (hi : VI X ρ W tg iter fi) (ok : blkC X.N X.env.scope scope own = true)
    (hg : ∀ (s : Shared) (H : Hp) (C : Addr) (cl : List (Str × Addr)) (fp : List Addr), PG (X.blk s H scope (compEnvC scope cl C X.env) fp) tg t) (sg : SG (cc X ρ) [] t ft) (wg : WipeG t (own.map (·.2)))
    (ht : ∀ (s : Shared) (H : Hp) (C : Addr) (cl : List (Str × Addr)) (fp : List Addr), Vx (X.blk s H scope (compEnvC scope cl C X.env) fp) W0 → VC (X.blk s H scope (compEnvC scope cl C X.env) fp) ρ ifs ta)
    (he : ∀ (s : Shared) (H : Hp) (C : Addr) (cl : List (Str × Addr)) (fp : List Addr), Vx (X.blk s H scope (compEnvC scope cl C X.env) fp) W0 → VE (X.blk s H scope (compEnvC scope cl C X.env) fp) ρ W0 elt fa)
    (hsw : swapsWith (.ListComp elt [⟨tg, iter, ifs, 0⟩] scope pos) (some (.Name y py)) spos.line X.env = pure true) (hy : X.N[i]? = some y := by rfl) (hyl : X.env.scope.names.lookup y = some .local := by rfl) (hp : i ∉ pn := by decide)
    (hs : ∀ x, foldedSetIterable iter X.env x = pure x := by intro _; rfl) :
    VS X ρ W pn (.Assign [.Name y py] (.ListComp elt [⟨tg, iter, ifs, 0⟩] scope pos) spos) (sAsg i (fLc fi ft ta fa (own.map (·.2)))) ∧
    VS X ρ W pn (.Assign [.Name y py] (.ListComp elt [⟨tg, iter, ifs, 0⟩] scope pos) spos) (sOwn i (fLc fi ft ta fa (own.map (·.2)))) := by
  obtain ⟨wi, pi, si⟩ := hi
  obtain ⟨tt, te, p1, p2, s1, s2⟩ := lc_parts V0 ht he
  have q := ps_setLc V0.calm V0.nd hy hyl hsw pi (blkOk_by ok) hg p1 p2 hs
  exact ⟨⟨_, q, ss_asg hp (se_lc si sg wg s1 s2)⟩, ⟨_, q, ss_own hp (se_lc si sg wg s1 s2)⟩⟩
/-- an own class of error, without methods, over ValueError -/
structure XC (K : PySem.W.Frag) (mg : Str → Option Value) (c : Str) : Prop where
  ex : ∃ A, mg c = some (.ref A) ∧ PySem.W.excIn K A [.type "ValueError", .type "Exception", .type "BaseException", .type "object"] "ValueError.__new__" = true ∧ PySem.W.keepIn K (.ref A) = true ∧
    PySem.W.subIn K (.ref A) (.type "BaseException") = some true ∧ PySem.W.typeIn K (.ref A) = some (.type "type")
theorem vs_raise {x m : Str} {j : Nat} {p1 p2 p3 : Pos} (V0 : Vx X W) (hx : XC X.K X.mg x) (hg : Gl X x := by rfl) (hdb : (x == ("__debug__" : Str)) = false := by decide) : VS X ρ W pn (.Raise (some (.Call (.Name x p1) [.Constant (.str m) j p2] [] p3)) none pos) (sRaise x) := by
  obtain ⟨A, h1, h2, h3, h4, h5⟩ := hx.ex
  refine ⟨_, ps_raise V0.calm V0.tk (pmk_own PySem.F.excBase_ValueError h2 h1 h3 (raises_own h4 h5) hg hdb), fun π e σ w D hp m h => ?_⟩
  exact h σ w A h1 m (.refl w)
def mask (ms : List Nat) (e : Env) (k : Nat) : Env := (List.range k).map fun j => if j ∈ ms then at? e j else none
def PostF (C : Cc) (ms : List Nat) (vs : List V) (w : WS) (r : Option FR) (Q : VK) (E : XK) : Prop := match r with
  | none => False
  | some (.ret b e) => ∀ v w', Mt C [] (mask ms e vs.length) (vs.map some) w' → Frm w w' → OOk C (vs.map some) w w' (.b b) v → Q v w'.H
  | some (.ex c e) => ∀ w' A, C.mg c = some (.ref A) → Mt C [] (mask ms e vs.length) (vs.map some) w' → Frm w w' → E (.ref A) none w'.H
/-- a def's promise: it computes F; the parameters at ms are changed -/
def spV (C : Cc) (n : Nat) (ms : List Nat) (F : Fn) : Sp := fun vs H Q E => vs.length = n ∧ ∃ (bs : List B) (w : WS), w.H = H ∧ Mt C [] (bs.map some) (vs.map some) w ∧ PostF C ms vs w (F bs) Q E
theorem at_map {bs : List B} {i : Nat} : at? (bs.map some) i = bs[i]? := by
  unfold at?
  rw [List.getElem?_map]
  cases bs[i]? <;> rfl
theorem at_app {bs : List B} {k i : Nat} {b : B} (h : at? (bs.map some ++ List.replicate k none) i = some b) : bs[i]? = some b := by
  unfold at? at h
  by_cases hi : i < bs.length
  · rw [List.getElem?_append_left (by simpa using hi), List.getElem?_map] at h
    cases q : bs[i]? with
    | none => rw [q] at h; cases h
    | some z => rw [q] at h; exact h
  · rw [List.getElem?_append_right (by simpa using hi), List.getElem?_replicate] at h
    split at h <;> (rename_i z; split at z <;> cases z) <;> cases h
theorem at_mask {ms : List Nat} {e : Env} {k i : Nat} {b : B} (h : at? (mask ms e k) i = some b) : i ∈ ms ∧ i < k ∧ at? e i = some b := by
  unfold at? mask at h
  rw [List.getElem?_map] at h
  by_cases hi : i < k
  · rw [List.getElem?_range hi] at h
    simp only [Option.map_some] at h
    by_cases hm : i ∈ ms
    · rw [if_pos hm] at h
      exact ⟨hm, hi, h⟩
    · rw [if_neg hm] at h
      cases h
  · rw [List.getElem?_eq_none (by simpa using hi)] at h
    cases h
theorem body_post {C : Cc} {π : List (Nat × V)} {ms : List Nat} {vs : List V} {w w' : WS} {e : Env} {σ' : St} (hms : ∀ j ∈ ms, ∀ v, vs[j]? = some v → (j, v) ∈ π) (m : Mt C π e σ' w') (f : Frm w w') :
    ∃ w2, Mt C [] (mask ms e vs.length) (vs.map some) w2 ∧ Frm w w2 ∧ w2.H = w'.H ∧ w2.G = w'.G ∧ ∀ i a, w2.fp i a → w'.fp i a := by
  refine ⟨{ w' with fp := fun i a => (at? (mask ms e vs.length) i).isSome = true ∧ w'.fp i a }, ⟨by unfold mask; simp, m.sub, fun i b q => ?_, fun i q a z => ?_, fun i j a x y => m.dis i j a x.2 y.2, fun p h => by cases h⟩, ⟨f.g, fun a o h n => ?_, f.t⟩, rfl, rfl, fun i a z => z.2⟩
  · obtain ⟨h1, h2, h3⟩ := at_mask q
    obtain ⟨v, g1, g2⟩ := m.bok i b h3
    have hv : vs[i]? = some vs[i] := List.getElem?_eq_getElem h2
    have hp := m.pin _ (hms i h1 _ hv)
    simp only at hp
    rw [g1] at hp
    have ev : v = vs[i] := Option.some.inj (Option.some.inj hp)
    refine ⟨v, by rw [List.getElem?_map, hv, ev]; rfl, ?_⟩
    have e1 : (fun a => (at? (mask ms e vs.length) i).isSome = true ∧ w'.fp i a) = w'.fp i := by
      funext a
      exact propext ⟨fun z => z.2, fun z => ⟨by rw [q]; rfl, z⟩⟩
    show BOk C w'.G w'.H b v (fun a => (at? (mask ms e vs.length) i).isSome = true ∧ w'.fp i a)
    rw [e1]
    exact g2
  · have z1 : (at? (mask ms e vs.length) i).isSome = true := z.1
    rw [q] at z1
    cases z1
  · obtain ⟨h1, h2, h3⟩ := f.k a o h n
    exact ⟨h1, h2, fun i z => h3 i z.2⟩
section
variable {P : Program} {w : World} {K : PySem.W.Frag} {mg : Str → Option Value} {base : Heap}
theorem fn_okV {x qual : Str} {params : Arguments} {body : List Stmt} {scope : Scope} {dvs : List V} {kws : List (Str × V)} {f : Addr} {fd : FuncData} {N ps : List Str} {k : Nat} {ρ : Nat → Res} {g : FS} (ms : List Nat) (F : FunD K x qual params body scope dvs kws f fd) (S : FnScope N ps scope) (hpn : ps.length ≤ N.length)
    (hbody : ∀ (cdv : Value) (A : Around) (outer : List PySem.Env) (s : Shared) (H : Hp) (E : XK), Room k (A.deeper (PyProof.Rows.envOfC qual scope s.heap.objs.size f cdv)) →
      Vx (cxOf (L2.CX P w) P w K mg base N qual scope f cdv A outer s H E) (fun cls d _ H => E cls d H) → VSs (cxOf (L2.CX P w) P w K mg base N qual scope f cdv A outer s H E) ρ (fun cls d _ H => E cls d H) ms body g) (hk : 1 ≤ k) :
    FnG P w K mg base (k + 1) f fd ps (spV ⟨K, mg, ρ⟩ ps.length ms (runF g N.length)) := by
  refine fnG_of F S (fun vs H Q E h => h.1) (fun cdv A outer s H vs Q E hr hgd hsm h => ?_)
  obtain ⟨hl, bs, w0, rfl, m, h⟩ := h
  have V0 : Vx (cxOf (L2.CX P w) P w K mg base N qual scope f cdv A outer s w0.H E) (fun cls d _ H => E cls d H) := ⟨rfl, hr.mono hk, hgd, hsm, S.nd, takes_of rfl rfl rfl rfl, passes_of rfl⟩
  obtain ⟨t, pt, ss⟩ := hbody cdv A outer s w0.H E hr V0
  refine ⟨t, pt, ?_⟩
  have hbl : bs.length = vs.length := by have := m.len; rwa [List.length_map, List.length_map] at this
  -- the start
  let π : List (Nat × V) := (List.range vs.length).filterMap fun j => if j ∈ ms then vs[j]?.map fun v => (j, v) else none
  have hπ : ∀ p ∈ π, p.1 ∈ ms ∧ vs[p.1]? = some p.2 := fun p hp => by
    obtain ⟨j, hj, e⟩ := List.mem_filterMap.mp hp
    split at e
    · rename_i hm
      cases q : vs[j]? with
      | none => rw [q] at e; cases e
      | some v => rw [q] at e; cases e; exact ⟨hm, q⟩
    · cases e
  have hπ2 : ∀ j ∈ ms, ∀ v, vs[j]? = some v → (j, v) ∈ π := fun j hj v hv => by
    refine List.mem_filterMap.mpr ⟨j, List.mem_range.mpr (List.getElem?_eq_some_iff.mp hv).1, ?_⟩
    rw [if_pos hj, hv]
    rfl
  have m0 : Mt ⟨K, mg, ρ⟩ π (bs.map some ++ List.replicate (N.length - bs.length) none) (L2.start N vs) w0 := by
    unfold L2.start
    refine ⟨by simp [hbl], m.sub, fun i b q => ?_, fun i q a z => ?_, m.dis, fun p hp => ?_⟩
    · have hb := at_app q
      obtain ⟨v, g1, g2⟩ := m.bok i b (by rw [at_map]; exact hb)
      refine ⟨v, ?_, g2⟩
      have hi : i < vs.length := by rw [← hbl]; exact (List.getElem?_eq_some_iff.mp hb).1
      rw [List.getElem?_append_left (by simpa using hi)]
      exact g1
    · refine m.non i ?_ a z
      rw [at_map]
      cases qb : bs[i]? with
      | none => rfl
      | some b =>
        unfold at? at q
        have hi := (List.getElem?_eq_some_iff.mp qb).1
        rw [List.getElem?_append_left (by simpa using hi), List.getElem?_map, qb] at q
        cases q
    · obtain ⟨h1, h2⟩ := hπ p hp
      have hi := (List.getElem?_eq_some_iff.mp h2).1
      rw [List.getElem?_append_left (by simpa using hi), List.getElem?_map, h2]
      rfl
  refine ss π _ _ w0 _ (fun p hp => (hπ p hp).1) m0 ?_
  unfold runF at h
  cases q : g (bs.map some ++ List.replicate (N.length - bs.length) none) with
  | none => rw [q] at h; exact h.elim
  | some x =>
    rw [q] at h
    cases x with
    | nx e =>
      intro σ' w' m' f'
      obtain ⟨w2, m2, f2, eH, eG, hl2⟩ := body_post hπ2 m' f'
      rw [← eH]
      exact h .non w2 m2 f2 (.fr .non)
    | rt b e =>
      intro v σ' w' m' f' k'
      obtain ⟨w2, m2, f2, eH, eG, hl2⟩ := body_post hπ2 m' f'
      rw [← eH]
      refine h v w2 m2 f2 ?_
      obtain ⟨fp, k1, k2⟩ := k'
      exact ⟨fp, by rw [eG, eH]; exact k1, fun a ha => ⟨(k2 a ha).1, fun i z => (k2 a ha).2 i (hl2 i a z)⟩⟩
    | bk e => exact h.elim
    | ct e => exact h.elim
    | ex c e =>
      intro σ' w' A hA m' f'
      obtain ⟨w2, m2, f2, eH, eG, hl2⟩ := body_post hπ2 m' f'
      rw [← eH]
      exact h w2 A hA m2 f2
end
end
end VL
set_option maxRecDepth 100000
namespace VL
open PySem L2
section
variable {X : Cx} {ρ : Nat → Res} {W : WX} {a b c : Expr} {es : List Expr} {pos p : Pos} {fa fb fc : FE} {as_ : FA} {C : Cc} {π : List (Nat × V)} {e e1 e2 : Env} {σ : St} {w w0 w1 w2 : WS}
theorem va_F (ha : VE X ρ W a fa) (hr : VA X ρ W es as_) (hs : starEach (a :: es) X.env = (false, eval a X.env) :: starEach es X.env := by rfl) : VA X ρ W (a :: es) (aF fa as_) := by
  obtain ⟨t, p, s⟩ := ha
  obtain ⟨t2, p2, s2⟩ := hr
  refine ⟨_, pa_cons p p2 hs, fun π e σ w Q m h => ?_⟩
  refine s π e σ w _ m (h.bnd fun o1 e1 v1 w1 m1 f1 k1 h1 => ?_)
  cases q : fzB e1 o1 with
  | none => rw [q] at h1; exact h1.elim
  | some pr =>
    rw [q] at h1
    simp only [Option.bind_some] at h1
    obtain ⟨wf, mf, ff, eH, hb⟩ := fzB_sound (e' := pr.2) m1 f1 k1 q
    rw [← eH]
    refine s2 π pr.2 σ wf _ mf ((h1.from ff).bnd fun os e3 vs w3 m3 f3 k3 h3 => ?_)
    refine h3.from f3 (v1 :: vs) w3 m3 (.refl _) (.cons ?_ (paired_base ff k3))
    exact ⟨fun _ => False, hb.mono f3.g (fun _ z => z.elim), fun _ z => z.elim⟩
theorem va_M (i : Nat) {x : Str} {px : Pos} (hr : VA X ρ W es as_) (hN : X.N[i]? = some x := by rfl) (hv : Vis X.env.scope x := by first | exact Or.inl rfl | exact Or.inr (Or.inl rfl) | exact Or.inr (Or.inr rfl)) (hd : (x == ("__debug__" : Str)) = false := by decide)
    (hcd : (x == ("__classdict__" : Str)) = false := by decide) (hs : starEach (.Name x px :: es) X.env = (false, eval (.Name x px) X.env) :: starEach es X.env := by rfl) : VA X ρ W (.Name x px :: es) (aM i as_) := by
  obtain ⟨t2, p2, s2⟩ := hr
  refine ⟨_, pa_cons (pe_var hN hv hd hcd) p2 hs, fun π e σ w Q m h => ?_⟩
  unfold aM at h
  cases q : at? e i with
  | none => rw [q] at h; exact h.elim
  | some bb =>
    rw [q] at h
    obtain ⟨v, h1, h2⟩ := m.bok i bb q
    refine ⟨v, h1, ?_⟩
    refine s2 π e σ w _ m (Post.bnd (rel' := fun w' os vs => Paired (OOk (cc X ρ) σ w w') os vs) h fun os e3 vs w3 m3 f3 k3 h3 => ?_)
    exact h3.from f3 (v :: vs) w3 m3 (.refl _) (.cons h1 k3)
theorem va_P (ha : VE X ρ W a fa) (hr : VA X ρ W es as_) (hs : starEach (a :: es) X.env = (false, eval a X.env) :: starEach es X.env := by rfl) : VA X ρ W (a :: es) (aP fa as_) := by
  obtain ⟨t, p, s⟩ := ha
  obtain ⟨t2, p2, s2⟩ := hr
  refine ⟨_, pa_cons p p2 hs, fun π e σ w Q m h => ?_⟩
  refine s π e σ w _ m (h.bnd fun o1 e1 v1 w1 m1 f1 k1 h1 => ?_)
  cases o1 with
  | s i =>
    refine s2 π e1 σ w1 _ m1 ((h1.from f1).bnd fun os e3 vs w3 m3 f3 k3 h3 => ?_)
    exact h3.from f3 (v1 :: vs) w3 m3 (.refl _) (.cons k1 (paired_base f1 k3))
  | b bb =>
    simp only at h1
    cases q : fzB e1 (.b bb) with
    | none => rw [q] at h1; exact h1.elim
    | some pr =>
      rw [q] at h1
      simp only [Option.bind_some] at h1
      obtain ⟨wf, mf, ff, eH, hb⟩ := fzB_sound (e' := pr.2) m1 f1 k1 q
      rw [← eH]
      refine s2 π pr.2 σ wf _ mf ((h1.from ff).bnd fun os e3 vs w3 m3 f3 k3 h3 => ?_)
      refine h3.from f3 (v1 :: vs) w3 m3 (.refl _) (.cons ?_ (paired_base ff k3))
      exact ⟨fun _ => False, hb.mono f3.g (fun _ z => z.elim), fun _ z => z.elim⟩
/-- a def that may be called -/
structure Cal (X : Cx) (ρ : Nat → Res) (x : Str) (n : Nat) (ms : List Nat) (F : Fn) (k : Nat) : Prop where
  ex : ∃ f fd ps, FnG X.prog X.w X.K X.mg X.base k f fd ps (spV (cc X ρ) n ms F) ∧ X.mg x = some (.ref f) ∧ PySem.W.keepIn X.K (.ref f) = true ∧ Binds X.K fd ps []
/-- what is owned by a slot that is not lent has no owner among the others -/
theorem paired_get {α β : Type} {R : α → β → Prop} : ∀ {as : List α} {bs : List β} {i : Nat} {x : α}, Paired R as bs → as[i]? = some x → ∃ y, bs[i]? = some y ∧ R x y
  | _, _, _, _, .nil, e => by simp at e
  | _, _, 0, _, .cons r _, e => by simp at e; subst e; exact ⟨_, rfl, r⟩
  | _, _, i + 1, x, .cons _ t, e => by
    obtain ⟨y, h1, h2⟩ := paired_get (i := i) (x := x) t (by simpa using e)
    exact ⟨y, by simpa using h1, h2⟩
theorem paired_length {α β : Type} {R : α → β → Prop} : ∀ {as : List α} {bs : List β}, Paired R as bs → as.length = bs.length
  | _, _, .nil => rfl
  | _, _, .cons _ t => by simp [paired_length t]
theorem bindO_get {e : Env} : ∀ {os : List O} {bs : List B}, bindO e os = some bs → bs.length = os.length ∧ ∀ (j : Nat) (o : O), os[j]? = some o → match o with
    | .b x => bs[j]? = some x
    | .s i => ∃ x, at? e i = some x ∧ bs[j]? = some x
  | [], bs, h => by cases h; exact ⟨rfl, fun j o hj => by simp at hj⟩
  | .b x :: os, bs, h => by
    unfold bindO at h
    cases q : bindO e os with
    | none => rw [q] at h; cases h
    | some cs =>
      rw [q] at h
      cases h
      obtain ⟨h1, h2⟩ := bindO_get q
      refine ⟨by simp [h1], fun j o hj => ?_⟩
      cases j with
      | zero => simp at hj; subst hj; rfl
      | succ j =>
        have := h2 j o (by simpa using hj)
        cases o with
        | b y => simpa using this
        | s i => obtain ⟨y, g1, g2⟩ := this; exact ⟨y, g1, by simpa using g2⟩
  | .s i :: os, bs, h => by
    unfold bindO at h
    cases qa : at? e i with
    | none => rw [qa] at h; cases h
    | some x =>
      rw [qa] at h
      cases q : bindO e os with
      | none => rw [q] at h; cases h
      | some cs =>
        rw [q] at h
        cases h
        obtain ⟨h1, h2⟩ := bindO_get q
        refine ⟨by simp [h1], fun j o hj => ?_⟩
        cases j with
        | zero => simp at hj; subst hj; exact ⟨x, qa, rfl⟩
        | succ j =>
          have := h2 j o (by simpa using hj)
          cases o with
          | b y => simpa using this
          | s i => obtain ⟨y, g1, g2⟩ := this; exact ⟨y, g1, by simpa using g2⟩
theorem putBack_length : ∀ (mi : List (Nat × Nat)) (e : Env), (putBack e2 mi e).length = e.length
  | [], e => rfl
  | (j, i) :: r, e => by
    show (putBack e2 r (e.set i (at? e2 j))).length = e.length
    rw [putBack_length r, List.length_set]
theorem putBack_out : ∀ {mi : List (Nat × Nat)} {e : Env} {i : Nat}, (∀ j, (j, i) ∉ mi) → at? (putBack e2 mi e) i = at? e i
  | [], e, i, h => rfl
  | (j0, i0) :: r, e, i, h => by
    show at? (putBack e2 r (e.set i0 (at? e2 j0))) i = at? e i
    rw [putBack_out fun j hj => h j (List.mem_cons_of_mem _ hj)]
    exact at_set_ne fun z => h j0 (by rw [z]; exact List.mem_cons_self)
theorem putBack_in : ∀ {mi : List (Nat × Nat)} {e : Env} {i j : Nat}, (mi.map (·.2)).Nodup → (j, i) ∈ mi → i < e.length → at? (putBack e2 mi e) i = at? e2 j
  | (j0, i0) :: r, e, i, j, nd, h, hi => by
    show at? (putBack e2 r (e.set i0 (at? e2 j0))) i = at? e2 j
    rw [List.map_cons, List.nodup_cons] at nd
    rcases List.mem_cons.mp h with q | q
    · cases q
      rw [putBack_out fun k hk => nd.1 (List.mem_map.mpr ⟨(k, i0), hk, rfl⟩)]
      exact at_set_lt hi
    · exact putBack_in nd.2 q (by rw [List.length_set]; exact hi)
theorem at_lt {e : Env} {i : Nat} {b : B} (h : at? e i = some b) : i < e.length := by
  unfold at? at h
  cases q : e[i]? with
  | none => rw [q] at h; cases h
  | some y => exact (List.getElem?_eq_some_iff.mp q).1
def SlOk (mi : List (Nat × Nat)) (k : Nat) : O → Prop
  | .s i => (k, i) ∈ mi
  | .b x => ∀ (C : Cc) (G H : Hp) (v : V) (fp : Addr → Prop), BOk C G H x v fp → ∀ a, ¬ fp a
theorem slotsOk_s {mi : List (Nat × Nat)} : ∀ {os : List O} {k : Nat}, slotsOk mi k os = true → ∀ (j : Nat) (o : O), os[j]? = some o → SlOk mi (k + j) o
  | [], k, h, j, o, hj => by simp at hj
  | .s i :: os, k, h, j, o, hj => by
    unfold slotsOk at h
    rw [Bool.and_eq_true] at h
    cases j with
    | zero => simp at hj; subst hj; exact (of_decide_eq_true h.1 : (k, i) ∈ mi)
    | succ j =>
      have := slotsOk_s h.2 j o (by simpa using hj)
      rwa [show k + (j + 1) = k + 1 + j from by omega]
  | .b x :: os, k, h, j, o, hj => by
    unfold slotsOk at h
    rw [Bool.and_eq_true] at h
    cases j with
    | zero =>
      simp at hj
      subst hj
      intro C G H v fp hb
      cases x with
      | fr d => exact hb.2
      | ex d => exact hb.2
      | sc d => exact hb.2
      | ow d => exact absurd h.1 (by simp)
      | od d => exact absurd h.1 (by simp)
      | rs n d => exact absurd h.1 (by simp)
      | tr t => exact absurd h.1 (by simp)
    | succ j =>
      have := slotsOk_s h.2 j o (by simpa using hj)
      rwa [show k + (j + 1) = k + 1 + j from by omega]
theorem BOk.noFp {x : B} {G H : Hp} {v : V} {fp : Addr → Prop} (h : BOk C G H x v fp) (n : ∀ a, ¬ fp a) : BOk C G H x v fun _ => False := by
  have e1 : fp = fun _ => False := by funext a; exact propext ⟨fun z => n a z, fun z => z.elim⟩
  rw [← e1]; exact h
/-- the world as the callee has it -/
def WS.lend (w : WS) (mi : List (Nat × Nat)) : WS := { w with fp := fun j a => ∃ i, (j, i) ∈ mi ∧ w.fp i a }
/-- and behind the call -/
def WS.back (w w' : WS) (mi : List (Nat × Nat)) : WS := { w' with fp := fun i a => (∃ j, (j, i) ∈ mi ∧ w'.fp j a) ∨ ((∀ j, (j, i) ∉ mi) ∧ w.fp i a) }
theorem miOk_at {mi : List (Nat × Nat)} {os : List O} (h : miOk mi os = true) {j i : Nat} (hm : (j, i) ∈ mi) : os[j]? = some (.s i) := by
  have z := List.all_eq_true.mp h _ hm
  split at z
  · rename_i i' q
    rw [q]
    have := beq_iff_eq.mp z
    rw [this]
  · cases z
theorem lend_mt {mi : List (Nat × Nat)} {os : List O} {bs : List B} {vs : List V} (m : Mt C π e σ w) (n2 : (mi.map (·.2)).Nodup) (hs : slotsOk mi 0 os = true) (hmi : miOk mi os = true) (hb : bindO e os = some bs) (r : Paired (OOk C σ w0 w) os vs) :
    Mt C [] (bs.map some) (vs.map some) (w.lend mi) := by
  obtain ⟨hl, hg⟩ := bindO_get hb
  have hl2 := paired_length r
  have pos : ∀ {j i}, (j, i) ∈ mi → os[j]? = some (.s i) := fun h => miOk_at hmi h
  have uniq : ∀ {j i i'}, (j, i) ∈ mi → (j, i') ∈ mi → i = i' := fun {j i i'} h h' => by
    have h1 := pos h
    rw [pos h'] at h1
    cases h1
    rfl
  have uniq2 : ∀ {j j' i}, (j, i) ∈ mi → (j', i) ∈ mi → j = j' := fun {j j' i} h h' => by
    have go : ∀ l : List (Nat × Nat), (l.map (·.2)).Nodup → (j, i) ∈ l → (j', i) ∈ l → j = j' := by
      intro l
      induction l with
      | nil => intro _ h; cases h
      | cons p l ih =>
        intro nd h h'
        rw [List.map_cons, List.nodup_cons] at nd
        rcases List.mem_cons.mp h with q | q
        · rcases List.mem_cons.mp h' with q' | q'
          · rw [← q] at q'; cases q'; rfl
          · exact absurd (List.mem_map.mpr ⟨_, q', by rw [← q]⟩) nd.1
        · rcases List.mem_cons.mp h' with q' | q'
          · exact absurd (List.mem_map.mpr ⟨_, q, by rw [← q']⟩) nd.1
          · exact ih nd.2 q q'
    exact go mi n2 h h'
  refine ⟨by rw [List.length_map, List.length_map, hl, hl2], m.sub, fun j b q => ?_, fun j q a z => ?_, fun j j' a x y => ?_, fun p h => by cases h⟩
  · rw [at_map] at q
    have hj : j < os.length := by rw [← hl]; exact (List.getElem?_eq_some_iff.mp q).1
    have ho : os[j]? = some os[j] := List.getElem?_eq_getElem hj
    obtain ⟨v, hv, ov⟩ := paired_get r ho
    refine ⟨v, by rw [List.getElem?_map, hv]; rfl, ?_⟩
    have g := hg j _ ho
    have s := slotsOk_s hs j _ ho
    cases qo : os[j] with
    | b x =>
      rw [qo] at g s ov
      simp only at g
      rw [q] at g
      cases g
      obtain ⟨fp, b1, b2⟩ := ov
      have b3 := b1.noFp (s _ _ _ _ _ b1)
      have e1 : (w.lend mi).fp j = fun _ => False := by
        funext a
        refine propext ⟨fun z => ?_, fun z => z.elim⟩
        obtain ⟨i, hi, _⟩ := z
        have h1 := pos hi
        rw [ho, qo] at h1
        cases h1
      rw [e1]
      exact b3
    | s i =>
      rw [qo] at g s ov
      simp only [Nat.zero_add] at g s
      have s : (j, i) ∈ mi := s
      obtain ⟨x, g1, g2⟩ := g
      rw [q] at g2
      cases g2
      obtain ⟨u, b1, b2⟩ := m.bok i b g1
      have ov' : σ[i]? = some (some v) := ov
      rw [ov'] at b1
      cases b1
      have e1 : (w.lend mi).fp j = w.fp i := by
        funext a
        exact propext ⟨fun ⟨i', h1, h2⟩ => by rw [uniq s h1]; exact h2, fun z => ⟨i, s, z⟩⟩
      rw [e1]
      exact b2
  · rw [at_map] at q
    obtain ⟨i, hi, hz⟩ := z
    have h1 := pos hi
    rw [List.getElem?_eq_none_iff, hl] at q
    rw [List.getElem?_eq_none q] at h1
    cases h1
  · obtain ⟨i, h1, h2⟩ := x
    obtain ⟨i', h3, h4⟩ := y
    have := m.dis i i' a h2 h4
    subst this
    exact uniq2 h1 h3
theorem back_mt {mi : List (Nat × Nat)} {os : List O} {vs : List V} {w' : WS} {k : Nat} (m : Mt C π e σ w) (n2 : (mi.map (·.2)).Nodup) (hmi : miOk mi os = true) (r : Paired (OOk C σ w0 w) os vs) (f : Frm (w.lend mi) w')
    (m' : Mt C [] (mask (mi.map (·.1)) e2 k) (vs.map some) w') (hk : k = vs.length) : Mt C π (putBack e2 mi e) σ (w.back w' mi) ∧ Frm w (w.back w' mi) := by
  have pos : ∀ {j i}, (j, i) ∈ mi → os[j]? = some (.s i) := fun h => miOk_at hmi h
  have notLent : ∀ {i a}, (∀ j, (j, i) ∉ mi) → w.fp i a → (∃ o, w.H a = some o ∧ w.G a = none) ∧ ∀ j, ¬ (w.lend mi).fp j a := fun {i a} h1 h2 => by
    obtain ⟨h3, o, h4⟩ := m.own h2
    refine ⟨⟨o, h4, h3⟩, fun j ⟨i', h5, h6⟩ => ?_⟩
    have := m.dis i i' a h2 h6
    subst this
    exact h1 j h5
  have kept : ∀ {i a}, (∀ j, (j, i) ∉ mi) → w.fp i a → w'.H a = w.H a ∧ w'.G a = w.G a ∧ ∀ j, ¬ w'.fp j a := fun {i a} h1 h2 => by
    obtain ⟨⟨o, h3, h4⟩, h5⟩ := notLent h1 h2
    obtain ⟨g1, g2, g3⟩ := f.k a o h3 h5
    exact ⟨g1.trans h3.symm, g2, g3⟩
  have uniq2 : ∀ {j j' i}, (j, i) ∈ mi → (j', i) ∈ mi → j = j' := fun {j j' i} h h' => by
    have go : ∀ l : List (Nat × Nat), (l.map (·.2)).Nodup → (j, i) ∈ l → (j', i) ∈ l → j = j' := by
      intro l
      induction l with
      | nil => intro _ h; cases h
      | cons p l ih =>
        intro nd h h'
        rw [List.map_cons, List.nodup_cons] at nd
        rcases List.mem_cons.mp h with q | q
        · rcases List.mem_cons.mp h' with q' | q'
          · rw [← q] at q'; cases q'; rfl
          · exact absurd (List.mem_map.mpr ⟨_, q', by rw [← q]⟩) nd.1
        · rcases List.mem_cons.mp h' with q' | q'
          · exact absurd (List.mem_map.mpr ⟨_, q, by rw [← q']⟩) nd.1
          · exact ih nd.2 q q'
    exact go mi n2 h h'
  have uniq : ∀ {j i i'}, (j, i) ∈ mi → (j, i') ∈ mi → i = i' := fun {j i i'} h h' => by
    have h1 := pos h
    rw [pos h'] at h1
    cases h1
    rfl
  refine ⟨⟨by rw [putBack_length]; exact m.len, m'.sub, fun i b q => ?_, fun i q a z => ?_, fun i i' a x y => ?_, m.pin⟩, ⟨f.g, fun a o h n => ?_, f.t⟩⟩
  · by_cases hm : ∃ j, (j, i) ∈ mi
    · obtain ⟨j, hj⟩ := hm
      have ho := pos hj
      obtain ⟨v, hv, ov⟩ := paired_get r ho
      have hi : i < e.length := by rw [← putBack_length (e2 := e2) mi e]; exact at_lt q
      rw [putBack_in n2 hj hi] at q
      have hjv := (List.getElem?_eq_some_iff.mp hv).1
      have q2 : at? (mask (mi.map (·.1)) e2 k) j = some b := by
        unfold mask
        unfold at?
        rw [List.getElem?_map, List.getElem?_range (by rw [hk]; exact hjv)]
        simp only [Option.map_some]
        rw [if_pos (List.mem_map.mpr ⟨(j, i), hj, rfl⟩)]
        exact q
      obtain ⟨u, g1, g2⟩ := m'.bok j b q2
      rw [List.getElem?_map, hv] at g1
      have ev : v = u := Option.some.inj (Option.some.inj g1)
      subst ev
      have ov' : σ[i]? = some (some v) := ov
      refine ⟨v, ov', ?_⟩
      have e1 : (w.back w' mi).fp i = w'.fp j := by
        funext a
        refine propext ⟨fun z => ?_, fun z => .inl ⟨j, hj, z⟩⟩
        rcases z with ⟨j', h1, h2⟩ | ⟨h1, _⟩
        · rw [uniq2 hj h1]; exact h2
        · exact absurd hj (h1 j)
      rw [e1]
      exact g2
    · have hn : ∀ j, (j, i) ∉ mi := fun j hj => hm ⟨j, hj⟩
      rw [putBack_out hn] at q
      obtain ⟨v, g1, g2⟩ := m.bok i b q
      refine ⟨v, g1, ?_⟩
      have e1 : (w.back w' mi).fp i = w.fp i := by
        funext a
        refine propext ⟨fun z => ?_, fun z => .inr ⟨hn, z⟩⟩
        rcases z with ⟨j', h1, h2⟩ | ⟨h1, h2⟩
        · exact absurd h1 (hn j')
        · exact h2
      rw [e1]
      exact g2.mono f.g fun a ha => ⟨(kept hn ha).1, (kept hn ha).2.1⟩
  · rcases z with ⟨j, h1, h2⟩ | ⟨h1, h2⟩
    · by_cases hi : i < e.length
      · rw [putBack_in n2 h1 hi] at q
        refine m'.non j ?_ a h2
        unfold mask
        unfold at?
        by_cases hjk : j < k
        · rw [List.getElem?_map, List.getElem?_range hjk]
          simp only [Option.map_some]
          rw [if_pos (List.mem_map.mpr ⟨(j, i), h1, rfl⟩)]
          exact q
        · rw [List.getElem?_eq_none (by simpa using hjk)]
      · -- no such slot
        obtain ⟨v, hv, ov⟩ := paired_get r (pos h1)
        have ov' : σ[i]? = some (some v) := ov
        have := (List.getElem?_eq_some_iff.mp ov').1
        rw [← m.len] at this
        exact absurd this hi
    · rw [putBack_out h1] at q
      exact m.non i q a h2
  · rcases x with ⟨j, h1, h2⟩ | ⟨h1, h2⟩
    · rcases y with ⟨j', h3, h4⟩ | ⟨h3, h4⟩
      · have := m'.dis j j' a h2 h4
        subst this
        exact uniq h1 h3
      · exact absurd h2 ((kept h3 h4).2.2 j)
    · rcases y with ⟨j', h3, h4⟩ | ⟨h3, h4⟩
      · exact absurd h4 ((kept h1 h2).2.2 j')
      · exact m.dis i i' a h2 h4
  · have hn : ∀ j, ¬ (w.lend mi).fp j a := fun j ⟨i, _, z⟩ => n i z
    obtain ⟨h1, h2, h3⟩ := f.k a o h hn
    refine ⟨h1, h2, fun i z => ?_⟩
    rcases z with ⟨j, _, z⟩ | ⟨_, z⟩
    · exact h3 j z
    · exact n i z
theorem ve_call {x : Str} {n k : Nat} {mi : List (Nat × Nat)} {F : Fn} (V0 : Vx X W) (c : Cal X ρ x n (mi.map (·.1)) F k) (hr : Room k X.A) (ha : VA X ρ W (a :: es) as_) (n2 : (mi.map (·.2)).Nodup := by decide) (hg : Gl X x := by rfl)
    (hdb : (x == ("__debug__" : Str)) = false := by decide) (he : starEach (a :: es) X.env = (false, eval a X.env) :: starEach es X.env := by rfl) (hpl : (backTo pos (starEach es X.env)).any (·.1) = false := by rfl) :
    VE X ρ W (.Call (.Name x p) (a :: es) [] pos) (fCall F n mi as_) := by
  obtain ⟨f, fd, ps, FO, gm, gk, gb⟩ := c.ex
  obtain ⟨t, pa, s⟩ := ha
  refine ⟨_, pe_callG FO hr V0.gd V0.sm hg gm gk gb (fun σ => passAt V0.tk σ) pa hdb he hpl, fun π e σ w Q m h => ?_⟩
  refine s π e σ w _ m (h.bnd fun os e1 vs w1 m1 f1 k1 h1 => ?_)
  have h2 := h1.from f1
  split at h2
  case isFalse => exact h2.elim
  case isTrue hok =>
    rw [Bool.and_eq_true, Bool.and_eq_true] at hok
    obtain ⟨hok, hlen⟩ := hok
    have hlen := beq_iff_eq.mp hlen
    cases qb : bindO e1 os with
    | none => rw [qb] at h2; exact h2.elim
    | some bs =>
      rw [qb] at h2
      simp only [Option.bind_some] at h2
      refine ⟨?_, bs, w1.lend mi, rfl, lend_mt m1 n2 hok.1 hok.2 qb k1, ?_⟩
      · rw [← paired_length k1]; exact hlen
      · cases qF : F bs with
        | none => rw [qF] at h2; exact h2.elim
        | some r =>
          rw [qF] at h2
          cases r with
          | ret b e2 =>
            intro v w' m' f' k'
            obtain ⟨g1, g2⟩ := back_mt m1 n2 hok.2 k1 f' m' rfl
            refine h2 v (w1.back w' mi) g1 g2 ?_
            obtain ⟨fp, b1, b2⟩ := k'
            refine ⟨fp, b1, fun a ha => ⟨f1.back ?_, fun i z => ?_⟩⟩
            · rcases (b2 a ha).1 with q | ⟨j, i, q1, q2⟩
              · exact .inl q
              · exact .inr ⟨i, q2⟩
            · rcases z with ⟨j, _, z⟩ | ⟨hn, z⟩
              · exact (b2 a ha).2 j z
              · obtain ⟨_, o, ho⟩ := m1.own z
                rcases (b2 a ha).1 with q | ⟨j, i', q1, q2⟩
                · have q' : w1.H a = none := q
                  rw [ho] at q'; cases q'
                · have := m1.dis i i' a z q2
                  subst this
                  exact hn j q1
          | ex c e2 =>
            intro w' A hA m' f'
            obtain ⟨g1, g2⟩ := back_mt m1 n2 hok.2 k1 f' m' rfl
            exact h2 (w1.back w' mi) A hA g1 g2
/-- the world in which what the arguments' slots own is frozen -/
noncomputable def WS.lent (w : WS) (os : List O) : WS := by
  classical
  exact { G := fun a => if ∃ i, O.s i ∈ os ∧ w.fp i a then w.H a else w.G a, H := w.H, fp := fun _ _ => False }
theorem lent_G (m : Mt C π e σ w) {os : List O} : Same w.G (w.lent os).G := fun a o h => by
  classical
  show (if ∃ i, O.s i ∈ os ∧ w.fp i a then w.H a else w.G a) = some o
  by_cases z : ∃ i, O.s i ∈ os ∧ w.fp i a
  · obtain ⟨i, _, z⟩ := z
    obtain ⟨h1, _⟩ := m.own z
    rw [h] at h1; cases h1
  · rw [if_neg z]; exact h
theorem lent_sub (m : Mt C π e σ w) {os : List O} : Same (w.lent os).G w.H := fun a o h => by
  classical
  have h' : (if ∃ i, O.s i ∈ os ∧ w.fp i a then w.H a else w.G a) = some o := h
  by_cases z : ∃ i, O.s i ∈ os ∧ w.fp i a
  · rw [if_pos z] at h'; exact h'
  · rw [if_neg z] at h'; exact m.sub a o h'
theorem lent_at {os : List O} {i : Nat} {a : Addr} (h : O.s i ∈ os) (h2 : w.fp i a) : (w.lent os).G a = w.H a := by
  classical
  show (if ∃ i, O.s i ∈ os ∧ w.fp i a then w.H a else w.G a) = w.H a
  rw [if_pos ⟨i, h, h2⟩]
theorem lent_bok (m : Mt C π e σ w) {os : List O} {i : Nat} {x y : B} {v : V} (h : O.s i ∈ os) (hx : BOk C w.G w.H x v (w.fp i)) (hy : lent x = some y) : BOk C (w.lent os).G w.H y v fun _ => False := by
  have g := lent_G (os := os) m
  cases x with
  | fr d => cases hy; exact ⟨hx.1.mono g, fun _ z => z⟩
  | ow ds =>
    cases hy
    obtain ⟨p, xs, rfl, h1, h2, h3, h4⟩ := hx
    have e1 := lent_at (os := os) h ((h4 p).mpr rfl)
    exact ⟨.lst (e1.trans h2) (h3.mono g), fun _ z => z⟩
  | od ds =>
    cases hy
    obtain ⟨p, xs, rfl, h1, h2, h3, h5, h4⟩ := hx
    have e1 := lent_at (os := os) h ((h4 p).mpr rfl)
    exact ⟨.dic (e1.trans h2) h3 (h5.mono g), fun _ z => z⟩
  | ex c =>
    cases hy
    obtain ⟨⟨p, A, h1, h2, h3⟩, _⟩ := hx
    exact ⟨⟨p, A, h1, h2, g _ _ h3⟩, fun _ z => z⟩
  | sc ns =>
    cases hy
    obtain ⟨⟨p, h1, h2⟩, _⟩ := hx
    exact ⟨⟨p, h1, g.seq h2⟩, fun _ z => z⟩
  | rs n d => cases hy
  | tr t =>
    have hy' : (t.dat.map B.fr) = some y := hy
    cases qd : t.dat with
    | none => rw [qd] at hy'; cases hy'
    | some d =>
      rw [qd] at hy'
      cases hy'
      obtain ⟨as, g1, g2, g3⟩ := hx
      exact ⟨g1.rp g (fun a ha => lent_at (os := os) h ((g3 a).mpr ha)) qd, fun _ z => z⟩
theorem lent_mt (m : Mt C π e σ w) {os' : List O} : ∀ {os : List O} {bs : List B} {vs : List V}, (∀ o ∈ os, o ∈ os') → flatO os = true → lendO e os = some bs → Paired (OOk C σ w0 w) os vs →
    bs.length = vs.length ∧ ∀ (j : Nat) (b : B), bs[j]? = some b → ∃ v, vs[j]? = some v ∧ BOk C (w.lent os').G w.H b v fun _ => False
  | [], bs, _, _, _, h, .nil => by cases h; exact ⟨rfl, fun j b q => by simp at q⟩
  | .b x :: os, bs, v :: vs, hs, hf, h, .cons r t => by
    unfold lendO at h
    unfold flatO at hf
    rw [Bool.and_eq_true] at hf
    cases q : lendO e os with
    | none => rw [q] at h; cases h
    | some cs =>
      rw [q] at h
      cases h
      obtain ⟨h1, h2⟩ := lent_mt m (fun o ho => hs o (List.mem_cons_of_mem _ ho)) hf.2 q t
      refine ⟨by simp [h1], fun j b qb => ?_⟩
      cases j with
      | zero =>
        simp at qb
        subst qb
        refine ⟨v, rfl, ?_⟩
        obtain ⟨fp, b1, b2⟩ := r
        have b3 : BOk C w.G w.H x v fun _ => False := by
          cases x with
          | fr d => exact ⟨b1.1, fun _ z => z⟩
          | ex d => exact ⟨b1.1, fun _ z => z⟩
          | sc d => exact ⟨b1.1, fun _ z => z⟩
          | ow d => exact absurd hf.1 (by simp)
          | od d => exact absurd hf.1 (by simp)
          | rs n d => exact absurd hf.1 (by simp)
          | tr t => exact absurd hf.1 (by simp)
        exact b3.mono (lent_G m) (fun _ z => z.elim)
      | succ j => exact h2 j b (by simpa using qb)
  | .s i :: os, bs, v :: vs, hs, hf, h, .cons r t => by
    unfold lendO at h
    cases qa : (at? e i).bind lent with
    | none => rw [qa] at h; cases h
    | some y =>
      rw [qa] at h
      cases q : lendO e os with
      | none => rw [q] at h; cases h
      | some cs =>
        rw [q] at h
        cases h
        obtain ⟨h1, h2⟩ := lent_mt m (fun o ho => hs o (List.mem_cons_of_mem _ ho)) (by unfold flatO at hf; exact hf) q t
        refine ⟨by simp [h1], fun j b qb => ?_⟩
        cases j with
        | zero =>
          simp at qb
          subst qb
          refine ⟨v, rfl, ?_⟩
          cases qx : at? e i with
          | none => rw [qx] at qa; cases qa
          | some x =>
            rw [qx] at qa
            obtain ⟨u, g1, g2⟩ := m.bok i x qx
            have r' : σ[i]? = some (some v) := r
            rw [r'] at g1
            cases g1
            exact lent_bok m (hs _ List.mem_cons_self) g2 qa
        | succ j => exact h2 j b (by simpa using qb)
theorem flat_rp {K : PySem.W.Frag} {G G' : Hp} {v : V} {d : PyData} (h : Rp K G v d) (hf : isFlat d = true) : Rp K G' v d := by
  cases h with
  | non => exact .non
  | bl b => exact .bl b
  | int i => exact .int i
  | str x => exact .str x
  | lst _ _ => cases hf
  | tup _ _ => cases hf
  | dic _ _ _ => cases hf
theorem ve_callP {x : Str} {n k : Nat} {F : Fn} (V0 : Vx X W) (c : Cal X ρ x n [] F k) (hr : Room k X.A) (ha : VA X ρ W (a :: es) as_) (hg : Gl X x := by rfl)
    (hdb : (x == ("__debug__" : Str)) = false := by decide) (he : starEach (a :: es) X.env = (false, eval a X.env) :: starEach es X.env := by rfl) (hpl : (backTo pos (starEach es X.env)).any (·.1) = false := by rfl) :
    VE X ρ W (.Call (.Name x p) (a :: es) [] pos) (fCallP F n as_) := by
  obtain ⟨f, fd, ps, FO, gm, gk, gb⟩ := c.ex
  obtain ⟨t, pa, s⟩ := ha
  refine ⟨_, pe_callG FO hr V0.gd V0.sm hg gm gk gb (fun σ => passAt V0.tk σ) pa hdb he hpl, fun π e σ w Q m h => ?_⟩
  refine s π e σ w _ m (h.bnd fun os e1 vs w1 m1 f1 k1 h1 => ?_)
  have h2 := h1.from f1
  split at h2
  case isFalse => exact h2.elim
  case isTrue hfo =>
  cases qb : lendO e1 os with
  | none => rw [qb] at h2; exact h2.elim
  | some bs =>
    rw [qb] at h2
    simp only [Option.bind_some] at h2
    split at h2
    case isFalse => exact h2.elim
    case isTrue hn =>
      obtain ⟨hl, hb⟩ := lent_mt (os' := os) m1 (fun o ho => ho) hfo qb k1
      have mc : Mt (cc X ρ) [] (bs.map some) (vs.map some) (w1.lent os) := ⟨by simp [hl], lent_sub m1, fun i b q => by
        rw [at_map] at q
        obtain ⟨v, g1, g2⟩ := hb i b q
        exact ⟨v, by rw [List.getElem?_map, g1]; rfl, g2⟩, fun i q a z => z, fun i j a z _ => z.elim, fun p h => by cases h⟩
      refine ⟨hl.symm.trans hn, bs, w1.lent os, rfl, mc, ?_⟩
      -- behind it: all owned as before
      have back : ∀ {w' : WS}, Frm (w1.lent os) w' → Mt (cc X ρ) π e1 σ { G := w1.G, H := w'.H, fp := w1.fp } ∧ Frm w1 { G := w1.G, H := w'.H, fp := w1.fp } := fun {w'} f' => by
        have keep : ∀ a o, w1.H a = some o → w'.H a = some o := fun a o h => (f'.k a o h fun _ z => z).1
        refine ⟨⟨m1.len, fun a o q => keep a o (m1.sub a o q), fun i b q => ?_, m1.non, m1.dis, m1.pin⟩, ⟨Same.refl _, fun a o h n => ⟨keep a o h, rfl, n⟩, f'.t⟩⟩
        obtain ⟨v, g1, g2⟩ := m1.bok i b q
        refine ⟨v, g1, g2.mono (Same.refl _) fun a ha => ⟨?_, rfl⟩⟩
        obtain ⟨_, o, ho⟩ := g2.own a ha
        exact (keep a o ho).trans ho.symm
      split at h2
      · rename_i d e2 qF
        rw [qF]
        split at h2
        · rename_i hfl
          intro v w' m' f' k'
          obtain ⟨g1, g2⟩ := back f'
          obtain ⟨fp, b1, b2⟩ := k'
          exact h2 v { G := w1.G, H := w'.H, fp := w1.fp } g1 g2 (.fr (flat_rp b1.1 hfl))
        · exact h2.elim
      · rename_i cc_ e2 qF
        rw [qF]
        intro w' A hA m' f'
        obtain ⟨g1, g2⟩ := back f'
        exact h2 { G := w1.G, H := w'.H, fp := w1.fp } A hA g1 g2
      · exact h2.elim
end
end VL
set_option maxRecDepth 100000
namespace VL
open PySem L2
section
variable {X : Cx} {ρ : Nat → Res} {W : WX} {pn : List Nat} {a b c o : Expr} {es : List Expr} {pos p apos cpos : Pos} {fa fb fc fx fv fy : FE} {fd : FD} {as_ : FA} {C : Cc} {π : List (Nat × V)} {e e1 e2 : Env} {σ : St} {w w0 w1 w2 : WS}
/-- the list of a name changed -/
theorem Mt.mut {i : Nat} {ds ds' : List PyData} (m : Mt C π e σ w) (h : at? e i = some (.ow ds)) : ∃ p xs, σ[i]? = some (some (.ref p)) ∧ w.H p = some (.lst xs) ∧ w.G p = none ∧ RpAll C.K w.G xs ds ∧
    ∀ xs', RpAll C.K w.G xs' ds' → Mt C π (e.set i (some (.ow ds'))) σ { w with H := upd w.H p (.lst xs') } ∧ Frm w { w with H := upd w.H p (.lst xs') } := by
  obtain ⟨v, h1, h2⟩ := m.bok i _ h
  obtain ⟨p, xs, rfl, g1, g2, g3, g4⟩ := h2
  refine ⟨p, xs, h1, g2, g1, g3, fun xs' r => ⟨⟨by rw [List.length_set]; exact m.len, fun a o q => ?_, fun j b q => ?_, fun j q a z => ?_, m.dis, m.pin⟩, ⟨Same.refl _, fun a o q n => ⟨?_, rfl, n⟩, fun a q => ?_⟩⟩⟩
  · show upd w.H p (.lst xs') a = some o
    rw [upd_ne (ne_of_none q g1)]
    exact m.sub a o q
  · by_cases hj : i = j
    · subst hj
      rw [at_set_same h] at q
      cases q
      exact ⟨.ref p, h1, p, xs', rfl, g1, upd_same, r, g4⟩
    · rw [at_set_ne hj] at q
      obtain ⟨u, k1, k2⟩ := m.bok j b q
      refine ⟨u, k1, k2.mono (Same.refl _) fun a ha => ⟨upd_ne fun z => ?_, rfl⟩⟩
      subst z
      exact hj (m.dis i j a ((g4 a).mpr rfl) ha)
  · by_cases hj : i = j
    · subst hj
      rw [at_set_same h] at q
      cases q
    · rw [at_set_ne hj] at q
      exact m.non j q a z
  · show upd w.H p (.lst xs') a = some o
    rw [upd_ne fun z => n i (by rw [z]; exact (g4 p).mpr rfl)]
    exact q
  · by_cases z : a = p
    · rw [z] at q
      have q' : upd w.H p (.lst xs') p = none := q
      rw [upd_same] at q'
      cases q'
    · have q' : upd w.H p (.lst xs') a = none := q
      rw [upd_ne z] at q'
      exact q'
/-- a method that changes its list -/
def MthV (X : Cx) (id : String) (g : List PyData → List PyData → Option (B × List PyData)) : Prop := ∃ r, MtR X id r ∧
  ∀ (G H : Hp) (p : Addr) (xs vs : List V) (ds as : List PyData) (b : B) (ds' : List PyData) (Q : VK), H p = some (.lst xs) → Same G H → G p = none → RpAll X.K G xs ds → RpAll X.K G vs as → g ds as = some (b, ds') →
    (∀ v d xs', b = .fr d → Rp X.K G v d → RpAll X.K G xs' ds' → Q v (upd H p (.lst xs'))) → r (.ref p) vs H Q
theorem se_mth {r : V → List V → Hp → VK → Prop} {g : List PyData → List PyData → Option (B × List PyData)} {i : Nat} {t : TA} (hr : ∀ (G H : Hp) (p : Addr) (xs vs : List V) (ds as : List PyData) (b : B) (ds' : List PyData) (Q : VK), H p = some (.lst xs) → Same G H → G p = none → RpAll C.K G xs ds → RpAll C.K G vs as → g ds as = some (b, ds') →
    (∀ v d xs', b = .fr d → Rp C.K G v d → RpAll C.K G xs' ds' → Q v (upd H p (.lst xs'))) → r (.ref p) vs H Q) (s : SD C W t fd) : SE C W (tBM C.K "list" r (tVar i) t) (fMth i g fd) := fun π e σ w Q m h => by
  unfold fMth at h
  split at h
  case h_2 => exact h.elim
  case h_1 dd q =>
    obtain ⟨v0, h1, h2⟩ := m.bok i _ q
    refine ⟨v0, h1, ?_⟩
    have h3 : Post C W π σ w (bnd (fd e) fun as e1 => match at? e1 i with
      | some (.ow ds) => (g ds as).bind fun p => some (.ok (O.b p.1) (e1.set i (some (.ow p.2))))
      | _ => none) (OOk C σ w) Q := h
    -- what the name holds is a list of its own, ahead too
    have hty : tyV C.K "list" v0 w.H := by
      obtain ⟨p, xs, rfl, _, g2, _⟩ := h2
      exact .inl ⟨rfl, xs, .of g2⟩
    refine ⟨hty, s π e σ w _ m (h3.bnd fun as e1 vs w1 m1 f1 k1 h4 => ?_)⟩
    have h5 := h4.from f1
    split at h5
    · rename_i ds q1
      cases qg : g ds as with
      | none => rw [qg] at h5; exact h5.elim
      | some pr =>
        rw [qg] at h5
        obtain ⟨b, ds'⟩ := pr
        simp only [Option.bind_some] at h5
        obtain ⟨p, xs, g1, g2, g3, g4, g5⟩ := m1.mut (ds' := ds') q1
        rw [h1] at g1
        cases g1
        refine hr w1.G w1.H p xs vs ds as b ds' Q g2 m1.sub g3 g4 k1 qg fun v d xs' eb rv rx => ?_
        subst eb
        obtain ⟨m2, f2⟩ := g5 xs' rx
        exact h5 v _ m2 f2 (.fr rv)
    · exact h5.elim
theorem ve_mth {name : Str} {id : String} {y : Str} {g : List PyData → List PyData → Option (B × List PyData)} {py : Pos} (hm : MthV X id g) (i : Nat) (slot : Slot "list" name id) (hty : typeOf (.builtin id) = pure (.type "method_descriptor")) (ha : VD X ρ W (a :: es) fd)
    (hN : X.N[i]? = some y := by rfl) (hv : Vis X.env.scope y := by first | exact Or.inl rfl | exact Or.inr (Or.inl rfl) | exact Or.inr (Or.inr rfl)) (hd : (y == ("__debug__" : Str)) = false := by decide) (hcd : (y == ("__classdict__" : Str)) = false := by decide)
    (hbase : attributeBase (.Name y py) name X.env (eval (.Name y py) X.env) = eval (.Name y py) X.env := by rfl)
    (hfew : ((backTo cpos (starEach (a :: es) X.env)).all (fun x => !x.1) && (backToKw cpos (keywordEach [] X.env)).all (fun x => x.1.isSome)
      && decide ((a :: es).length + ([] : List Keyword).length + (if ([] : List Keyword).isEmpty then 0 else 1) < 30)) = true := by rfl)
    (hline : (apos.endLine == cpos.line) = true := by rfl) (hs : starEach (a :: es) X.env = (false, eval a X.env) :: starEach es X.env := by rfl) (hplain : (backTo cpos (starEach es X.env)).any (·.1) = false := by rfl) :
    VE X ρ W (.Call (.Attribute (.Name y py) name apos) (a :: es) [] cpos) (fMth i g fd) := by
  obtain ⟨r, h1, h2⟩ := hm
  obtain ⟨t, pa, s⟩ := ha
  exact ⟨_, pe_bm PySem.F.plainAttrs_list slot hty h1 (pe_var hN hv hd hcd) pa hbase hfew hline hs hplain, se_mth h2 s⟩
theorem ve_mth0 {name : Str} {id : String} {y : Str} {g : List PyData → List PyData → Option (B × List PyData)} {py : Pos} (hm : MthV X id g) (i : Nat) (slot : Slot "list" name id) (hty : typeOf (.builtin id) = pure (.type "method_descriptor"))
    (hN : X.N[i]? = some y := by rfl) (hv : Vis X.env.scope y := by first | exact Or.inl rfl | exact Or.inr (Or.inl rfl) | exact Or.inr (Or.inr rfl)) (hd : (y == ("__debug__" : Str)) = false := by decide) (hcd : (y == ("__classdict__" : Str)) = false := by decide)
    (hbase : attributeBase (.Name y py) name X.env (eval (.Name y py) X.env) = eval (.Name y py) X.env := by rfl) (hline : (apos.endLine == cpos.line) = true := by rfl) :
    VE X ρ W (.Call (.Attribute (.Name y py) name apos) [] [] cpos) (fMth i g dNil) := by
  obtain ⟨r, h1, h2⟩ := hm
  refine ⟨_, pe_bm0 PySem.F.plainAttrs_list slot hty h1 (pe_var hN hv hd hcd) hbase hline, fun π e σ w Q m h => ?_⟩
  exact se_mth (t := tNil) (fd := dNil) h2 (fun π e σ w Q m h => h [] w m (.refl w) .nil) π e σ w Q m h
theorem rp_lst {K : PySem.W.Frag} {G : Hp} {x : V} {ds : List PyData} (r : Rp K G x (.list ds)) : ∃ p xs, x = .ref p ∧ G p = some (.lst xs) ∧ RpAll K G xs ds := by
  cases r with
  | lst h1 h2 => exact ⟨_, _, rfl, h1, h2⟩
theorem lt_big {n : Nat} (h : n < big) : n < sizeLine := Nat.lt_of_lt_of_le h big_le
theorem v_append : MthV X "list.append" mAppend := by
  refine ⟨_, mt_append, fun G H p xs vs ds as b ds' Q hp s hG rx rv hg k => ?_⟩
  unfold mAppend at hg
  split at hg
  · split at hg
    · rename_i d hb
      cases hg
      cases rv with
      | cons r1 r2 =>
        cases r2
        exact ⟨p, xs, _, rfl, rfl, hp, by rw [rx.length]; exact lt_big hb, k .non .none _ rfl .non (rx.append (.cons r1 .nil))⟩
    · cases hg
  · cases hg
theorem v_extend : MthV X "list.extend" mExtend := by
  refine ⟨_, mt_extend, fun G H p xs vs ds as b ds' Q hp s hG rx rv hg k => ?_⟩
  unfold mExtend at hg
  split at hg
  · split at hg
    · rename_i es hb
      cases hg
      cases rv with
      | cons r1 r2 =>
        cases r2
        obtain ⟨q, ys, rfl, g1, g2⟩ := rp_lst r1
        exact ⟨p, q, xs, ys, rfl, rfl, hp, s _ _ g1, by rw [rx.length, g2.length]; exact le_big hb, k .non .none _ rfl .non (rx.append g2)⟩
    · cases hg
  · cases hg
theorem RpAll.dropLast {K : PySem.W.Frag} {G : Hp} {vs : List V} {ds : List PyData} (h : RpAll K G vs ds) : RpAll K G vs.dropLast ds.dropLast := by
  rw [List.dropLast_eq_take, List.dropLast_eq_take, h.length]
  exact h.take _
theorem v_pop : MthV X "list.pop" mPop := by
  refine ⟨_, MtR.or mt_pop mt_popAt, fun G H p xs vs ds as b ds' Q hp s hG rx rv hg k => ?_⟩
  unfold mPop at hg
  split at hg
  · cases rv
    cases q : ds[ds.length - 1]? with
    | none => rw [q] at hg; cases hg
    | some d =>
      rw [q] at hg
      cases hg
      obtain ⟨v, h1, h2⟩ := rx.get q
      exact .inl ⟨p, xs, v, rfl, rfl, hp, by rw [rx.length]; exact h1, k v d _ rfl h2 rx.dropLast⟩
  · split at hg
    · rename_i i hl
      have hl' : -(2 ^ 63) ≤ i ∧ i < 2 ^ 63 := by
        unfold lim63 at hl
        rw [decide_eq_true_eq] at hl
        omega
      cases rv with
      | cons r1 r2 =>
        cases r2
        cases r1
        cases q : seqIndex? i ds.length with
        | none => rw [q] at hg; cases hg
        | some n =>
          rw [q] at hg
          simp only [Option.bind_some] at hg
          cases q2 : ds[n]? with
          | none => rw [q2] at hg; cases hg
          | some d =>
            rw [q2] at hg
            cases hg
            obtain ⟨v, h1, h2⟩ := rx.get q2
            exact .inr ⟨p, xs, i, n, v, rfl, rfl, hp, hl'.1, hl'.2, by rw [rx.length]; exact q, h1, k v d _ rfl h2 (rx.eraseIdx n)⟩
    · cases hg
  · cases hg
theorem v_insert : MthV X "list.insert" mInsert := by
  refine ⟨_, mt_insert, fun G H p xs vs ds as b ds' Q hp s hG rx rv hg k => ?_⟩
  unfold mInsert at hg
  split at hg
  · split at hg
    · rename_i i d hb
      cases hg
      cases rv with
      | cons r1 r2 =>
        cases r1
        cases r2 with
        | cons r3 r4 =>
          cases r4
          exact ⟨p, xs, i, _, rfl, rfl, hp, by rw [rx.length]; exact lt_big hb.2.2, hb.1, by omega, k .non .none _ rfl .non (((rx.take _).append (.cons r3 .nil)).append (rx.drop _))⟩
    · cases hg
  · cases hg
theorem plain_of {d : PyData} (h : SeqAt.shaped d = true) : d.plain = true := PyData.plain_of_canLay0 d (SeqAt.canLay_of_shaped h)
theorem mt_removeD (hu : X.A.units + 66 < cLine) : MtR X "list.remove" (fun x vs H Q => ∃ (l : Addr) (xs : List V) (y : V) (d : PyData) (ds : List PyData) (j : Nat), x = .ref l ∧ vs = [y] ∧ H l = some (.lst xs) ∧ DpAll X.K H xs ds ∧ Dp X.K H y d ∧ SeqAt.shaped d = true ∧ SeqAt.shaped (.list ds) = true ∧
    SeqAt.dataPlace ds d = some j ∧ Q .non (upd H l (.lst (xs.eraseIdx j)))) := by
  intro pins s σ H x vs v us Q I rx rv h
  obtain ⟨l, xs, y, d, ds, j, rfl, rfl, hH, hx, hy, sd, sl, hp, q⟩ := h
  cases rx
  obtain ⟨u, rfl, ru⟩ := rv.one
  obtain ⟨z, its, n, r, hl, e⟩ := I.lstM hH
  obtain ⟨as, ra⟩ := Dp.readsAll I ds xs its hx r
  obtain ⟨bs, rb⟩ := Dp.reads I d y u hy ru
  have pl : PyData.plainAll ds = true := PyData.plainAll_of_canLay0 ds (SeqAt.canLay_of_shaped sl)
  refine SeqAt.remove_list_data (vs := its.toArray) ⟨_, e, rfl, n, rfl⟩ (by simpa using ra) rb pl (plain_of sd) ?_ hp (by rw [List.size_toArray]; omega) ?_
  · have := SeqAt.depth_of_shaped sd
    have h2 : min (PyData.depthAll ds) d.depth ≤ d.depth := Nat.min_le_right _ _
    omega
  · refine ⟨.non, _, I.lset (its' := its.eraseIdx j) hH e ?_ (r.eraseIdx j) ?_, rfl, q⟩
    · show its.toArray.eraseIdxIfInBounds j = (its.eraseIdx j).toArray
      rw [List.eraseIdxIfInBounds_toArray]
    · rw [List.length_eraseIdx]
      split <;> omega
end
end VL
set_option maxRecDepth 100000
namespace VL
open PySem L2
section
variable {X : Cx} {ρ : Nat → Res} {W : WX} {pn : List Nat} {a b c o tg : Expr} {es : List Expr} {pos p apos cpos : Pos} {fa fb fc fx fv fy : FE} {fd : FD} {ft : FG} {as_ : FA} {C : Cc} {π : List (Nat × V)} {e e1 e2 : Env} {σ : St} {w w0 w1 w2 : WS}
theorem Vx.u66 (V0 : Vx X W) : X.A.units + 66 < cLine := by have := V0.room.un; omega
theorem v_remove (hu : X.A.units + 66 < cLine) : MthV X "list.remove" mRemove := by
  refine ⟨_, mt_removeD hu, fun G H p xs vs ds as b ds' Q hp s hG rx rv hg k => ?_⟩
  unfold mRemove at hg
  split at hg
  · rename_i d
    split at hg
    · rename_i hs
      cases q : SeqAt.dataPlace ds d with
      | none => rw [q] at hg; cases hg
      | some j =>
        rw [q] at hg
        cases hg
        cases rv with
        | cons r1 r2 =>
          cases r2
          exact ⟨p, xs, _, d, ds, j, rfl, rfl, hp, (RpAll.dp ds (SeqAt.canLay_of_shaped hs.2) (rx.mono s)), Rp.dp d (SeqAt.canLay_of_shaped hs.1) (r1.mono s), hs.1, hs.2, q, k .non .none _ rfl .non (rx.eraseIdx j)⟩
    · cases hg
  · cases hg
theorem bndS_bnd {α β : Type} {r : Option (Out α)} {F : α → Env → Option (Out β)} {kk : β → Env → Option SO} : bndS (bnd r F) kk = bndS r fun a e => bndS (F a e) kk := by
  cases r with
  | none => rfl
  | some x => cases x <;> rfl
theorem put_sound {ti : TE} {i : Nat} {d : PyData} {x : V} {D : Ends} {kk : Unit → Env → Option SO} {Qt : St → Hp → Prop} (s : SE C W ti fx) (m : Mt C π e σ w) (r : Rp C.K w.G x d) (h : PostS C W π w (bndS (putAt i fx d e) kk) D)
    (hk : ∀ e2 w2, Mt C π e2 σ w2 → Frm w w2 → PostS C W π w2 (kk () e2) D → Qt σ w2.H) : gSub (tVar i) ti rSetL x σ w.H Qt := by
  unfold putAt at h
  cases q : at? e i with
  | none => rw [q] at h; exact h.elim
  | some b =>
    rw [q] at h
    obtain ⟨v, h1, h2⟩ := m.bok i b q
    refine ⟨v, h1, ?_⟩
    have h' : PostS C W π w (bndS (bnd (fx e) fun o e1 => match res e1 o, at? e1 i with
      | some (.int k), some (.ow ds) => (ixN ds.length k).bind fun j => some (.ok () (e1.set i (some (.ow (ds.set j d)))))
      | _, _ => none) kk) D := h
    rw [bndS_bnd] at h'
    refine s π e σ w _ m (h'.bnd fun o1 e1 v1 w1 m1 f1 k1 h3 => ?_)
    split at h3
    · rename_i k ds q1 q2
      cases qj : ixN ds.length k with
      | none => rw [qj] at h3; exact h3.elim
      | some j =>
        rw [qj] at h3
        simp only [Option.bind_some] at h3
        obtain ⟨p, xs, g1, g2, g3, g4, g5⟩ := m1.mut (ds' := ds.set j d) q2
        rw [h1] at g1
        cases g1
        have rk := res_sound m1 k1 q1
        cases rk
        obtain ⟨m2, f2⟩ := g5 (xs.set j x) (RpAll.set (r.mono f1.g) j g4)
        exact ⟨p, xs, k, j, rfl, rfl, g2, by rw [g4.length]; exact qj, hk _ _ m2 (f1.trans f2) (h3.from (f1.trans f2))⟩
    · exact h3.elim
theorem ss_put {te ti : TE} {i : Nat} (sv : SE C W te fv) (sx : SE C W ti fx) : SS C W pn (tAsg te (gSub (tVar i) ti rSetL)) (sPut i fx fv) := fun π e σ w D hp m h => by
  refine sv π e σ w _ m (h.bnd fun o1 e1 v1 w1 m1 f1 k1 h1 => ?_)
  cases q : fz e1 o1 with
  | none => rw [q] at h1; exact h1.elim
  | some pr =>
    rw [q] at h1
    obtain ⟨w2, m2, f2, eH, rp⟩ := fz_sound (e' := pr.2) m1 f1 k1 q
    rw [← eH]
    exact put_sound sx m2 rp (h1.from f2) fun e3 w3 m3 f3 h3 => h3 σ w3 m3 (.refl _)
theorem vs_put {x : Str} {py ps : Pos} (i : Nat) (hx : VE X ρ W b fx) (hv : VE X ρ W a fv) (hN : X.N[i]? = some x := by rfl) (hvs : Vis X.env.scope x := by first | exact Or.inl rfl | exact Or.inr (Or.inl rfl) | exact Or.inr (Or.inr rfl)) (hd : (x == ("__debug__" : Str)) = false := by decide)
    (hcd : (x == ("__classdict__" : Str)) = false := by decide) (hs : swapsWithSole [.Subscript (.Name x py) b ps] a pos.line X.env = pure false := by rfl) (hw : swappedStores [.Subscript (.Name x py) b ps] a X.env = pure none := by rfl)
    (h1 : (assignEach [.Subscript (.Name x py) b ps] X.env).map (·.2) = [assign (.Subscript (.Name x py) b ps) X.env] := by rfl)
    (ha : ∀ v, assign (.Subscript (.Name x py) b ps) X.env v = (do
      let ov ← holding [v] (eval (.Name x py) X.env)
      let iv ← holding [v, ov] (eval b X.env)
      standAt ps
      holding [v, ov, iv] (setItem ov iv v)
      release [v, ov, iv] []) := by intro _; rfl) : VS X ρ W pn (.Assign [.Subscript (.Name x py) b ps] a pos) (sPut i fx fv) := by
  obtain ⟨t, p, s⟩ := hx
  obtain ⟨t2, p2, s2⟩ := hv
  exact ⟨_, ps_asg p2 (pg_sub (pe_var hN hvs hd hcd) p set_list ha) hs hw h1, ss_put s2 s⟩
theorem ss_put2 {te : TA} {ti tj : TE} {i j : Nat} (sv : SD C W te fd) (sx : SE C W ti fx) (sy : SE C W tj fy) : SS C W pn (tAsg (tTup te) (gTup C.K 2 (gCons (gSub (tVar i) ti rSetL) (gCons (gSub (tVar j) tj rSetL) gNil)))) (sPut2 i fx j fy fd) := fun π e σ w D hp m h => by
  refine sv π e σ w _ m (h.bnd fun ds e1 vs w1 m1 f1 k1 h1 => ?_)
  split at h1
  · rename_i d1 d2
    refine ⟨by rw [k1.length]; show 2 ≤ sizeLine; decide, fun p hp => ?_⟩
    obtain ⟨w2, m2, f2, eH, k2⟩ := mk_tup m1 hp k1
    have hT : w2.H p = some (.tup vs) := by rw [eH]; exact upd_same
    rw [← eH]
    cases k1 with
    | cons r1 k1 =>
      cases k1 with
      | cons r2 k1 =>
        cases k1
        refine ⟨p, _, rfl, .of hT, rfl, _, _, rfl, ?_⟩
        refine put_sound sx m2 (r1.mono f2.g) (h1.from (f1.trans f2)) fun e3 w3 m3 f3 h3 => ⟨_, _, rfl, ?_⟩
        exact put_sound sy m3 (r2.mono (f2.g.trans f3.g)) h3 fun e4 w4 m4 f4 h4 => ⟨rfl, h4 σ w4 m4 (.refl _)⟩
  · exact h1.elim
theorem vs_put2 {x y : Str} {px py ps pt p2 pp : Pos} {b2 a2 : Expr} {kt k2} (V0 : Vx X W) (i j : Nat) (hx : VE X ρ W b fx) (hy : VE X ρ W b2 fy) (hv : VD X ρ W [a, a2] fd) (hN : X.N[i]? = some x := by rfl) (hN2 : X.N[j]? = some y := by rfl)
    (hvs : Vis X.env.scope x := by first | exact Or.inl rfl | exact Or.inr (Or.inl rfl) | exact Or.inr (Or.inr rfl)) (hvs2 : Vis X.env.scope y := by first | exact Or.inl rfl | exact Or.inr (Or.inl rfl) | exact Or.inr (Or.inr rfl)) (hd : (x == ("__debug__" : Str)) = false := by decide) (hd2 : (y == ("__debug__" : Str)) = false := by decide)
    (hcd : (x == ("__classdict__" : Str)) = false := by decide) (hcd2 : (y == ("__classdict__" : Str)) = false := by decide)
    (hs : swapsWithSole [.Tuple [.Subscript (.Name x px) b ps, .Subscript (.Name y py) b2 p2] kt pt] (.Tuple [a, a2] k2 pp) pos.line X.env = pure false := by rfl) (hw : swappedStores [.Tuple [.Subscript (.Name x px) b ps, .Subscript (.Name y py) b2 p2] kt pt] (.Tuple [a, a2] k2 pp) X.env = pure none := by rfl)
    (h1 : (assignEach [.Tuple [.Subscript (.Name x px) b ps, .Subscript (.Name y py) b2 p2] kt pt] X.env).map (·.2) = [assign (.Tuple [.Subscript (.Name x px) b ps, .Subscript (.Name y py) b2 p2] kt pt) X.env] := by rfl)
    (ha : ∀ v, assign (.Subscript (.Name x px) b ps) X.env v = (do
      let ov ← holding [v] (eval (.Name x px) X.env)
      let iv ← holding [v, ov] (eval b X.env)
      standAt ps
      holding [v, ov, iv] (setItem ov iv v)
      release [v, ov, iv] []) := by intro _; rfl)
    (ha2 : ∀ v, assign (.Subscript (.Name y py) b2 p2) X.env v = (do
      let ov ← holding [v] (eval (.Name y py) X.env)
      let iv ← holding [v, ov] (eval b2 X.env)
      standAt p2
      holding [v, ov, iv] (setItem ov iv v)
      release [v, ov, iv] []) := by intro _; rfl)
    (hn : (assignEach [.Subscript (.Name x px) b ps, .Subscript (.Name y py) b2 p2] X.env).length = 2 := by rfl) (hst : (assignEach [.Subscript (.Name x px) b ps, .Subscript (.Name y py) b2 p2] X.env).findIdx? (·.1) = none := by rfl)
    (hs1 : (assignEach (.Subscript (.Name x px) b ps :: [.Subscript (.Name y py) b2 p2]) X.env).map (·.2) = assign (.Subscript (.Name x px) b ps) X.env :: (assignEach [.Subscript (.Name y py) b2 p2] X.env).map (·.2) := by rfl)
    (hs2 : (assignEach (.Subscript (.Name y py) b2 p2 :: []) X.env).map (·.2) = assign (.Subscript (.Name y py) b2 p2) X.env :: (assignEach [] X.env).map (·.2) := by rfl) :
    VS X ρ W pn (.Assign [.Tuple [.Subscript (.Name x px) b ps, .Subscript (.Name y py) b2 p2] kt pt] (.Tuple [a, a2] k2 pp) pos) (sPut2 i fx j fy fd) := by
  obtain ⟨t, p, s⟩ := hx
  obtain ⟨t3, p3, s3⟩ := hy
  obtain ⟨t4, p4, s4⟩ := hv
  exact ⟨_, ps_asg (pe_tup p4) (pg_tup V0.calm (pgs_cons (pg_sub (pe_var hN hvs hd hcd) p set_list ha) (pgs_cons (pg_sub (pe_var hN2 hvs2 hd2 hcd2) p3 set_list ha2) pgs_nil hs2) hs1) hn hst) hs hw h1, ss_put2 s4 s s3⟩
/-- a target takes the value -/
theorem vs_tgt (V0 : Vx X W) (hg : VG X ρ pn tg ft) (he : VE X ρ W a fa) (hs : swapsWithSole [tg] a pos.line X.env = pure false := by rfl) (hw : swappedStores [tg] a X.env = pure none := by rfl)
    (h1 : (assignEach [tg] X.env).map (·.2) = [assign tg X.env] := by rfl) : VS X ρ W pn (.Assign [tg] a pos) (sTgt ft fa) := by
  obtain ⟨t, p, s⟩ := hg
  obtain ⟨t2, p2, s2⟩ := he
  refine ⟨_, ps_asg p2 p hs hw h1, fun π e σ w D hpi m h => ?_⟩
  refine s2 π e σ w _ m (h.bnd fun o1 e1 v1 w1 m1 f1 k1 h1 => ?_)
  cases q : fz e1 o1 with
  | none => rw [q] at h1; exact h1.elim
  | some pr =>
    rw [q] at h1
    obtain ⟨w2, m2, f2, eH, rp⟩ := fz_sound (e' := pr.2) m1 f1 k1 q
    simp only [Option.bind_some] at h1
    cases q2 : ft pr.1 pr.2 with
    | none => rw [q2] at h1; exact h1.elim
    | some e3 =>
      rw [q2] at h1
      rw [← eH]
      exact s π pr.2 σ w2 pr.1 v1 e3 _ hpi m2 rp q2 fun σ' w' m' f' eH' => h1 σ' w' m' (f2.trans f')
def IpV (X : Cx) (op : Operator) (g : PyData → PyData → Option B) : Prop := ∃ r, PIp X op r ∧ ∀ (G H : Hp) x y dx dy z (Q : VK), Rq X.K G H x dx → Rq X.K G H y dy → g dx dy = some z → (∀ v d, z = .fr d → Rp X.K G v d → Q v H) → r x y H Q
theorem i_add : IpV X .Add (opI0 fun i j => i + j) := by
  refine ⟨_, ip_add, fun G H x y dx dy z Q hx hy hz k => ?_⟩
  unfold opI0 at hz
  split at hz
  · cases hz
    cases hx
    cases hy
    exact ⟨_, _, rfl, rfl, k _ _ rfl (.int _)⟩
  · cases hz
theorem vs_aug {op : Operator} {g : PyData → PyData → Option B} {x : Str} {pos' : Pos} (V0 : Vx X W) (i : Nat) (ho : IpV X op g) (he : VE X ρ W a fa) (hi : X.N[i]? = some x := by rfl) (hp : i ∉ pn := by decide) (hx : Loc X.env.scope x := by first | exact Or.inl rfl | exact Or.inr rfl)
    (hf : X.fn x = true ∨ X.env.scope.names.lookup x = some .local := by first | exact .inl rfl | exact .inr rfl) : VS X ρ W pn (.AugAssign (.Name x pos') op a pos) (sAug i g fa) := by
  obtain ⟨r, h1, h2⟩ := ho
  obtain ⟨t, p, s⟩ := he
  refine ⟨_, ps_aug V0.nd hi hx p h1 hf, fun π e σ w D hpi m h => ?_⟩
  unfold sAug at h
  split at h
  · rename_i d0 q0
    obtain ⟨v0, g1, g2⟩ := m.bok i _ q0
    refine ⟨v0, g1, s π e σ w _ m (h.bnd fun o1 e1 v1 w1 m1 f1 k1 h3 => ?_)⟩
    split at h3
    · rename_i d q1
      split at h3
      · rename_i z q2
        refine h2 w1.G w1.H v0 v1 d0 d _ _ ((g2.1.mono f1.g).rq m1.sub) (res_sound m1 k1 q1) q2 fun v d' ez rv => ?_
        cases ez
        obtain ⟨w2, m2, f2, eH, _⟩ := bind_fr m1 (fun p hq (z : p.1 = i) => hp (z ▸ hpi p hq)) rv
        rw [← eH]
        exact h3 _ w2 m2 (f1.trans f2)
      · exact h3.elim
    · exact h3.elim
  · exact h.elim
end
end VL
set_option maxRecDepth 100000
namespace VL
open PySem L2
/-- the built-in types that are asked for -/
inductive Ty where
  | int | bool | str | list | tuple | dict
def Ty.nm : Ty → String
  | .int => "int" | .bool => "bool" | .str => "str" | .list => "list" | .tuple => "tuple" | .dict => "dict"
def tyN : PyData → String
  | .none => "NoneType"
  | .bool _ => "bool"
  | .int _ => "int"
  | .str _ => "str"
  | .list _ => "list"
  | .tuple _ => "tuple"
  | .dict _ => "dict"
def isD : Ty → PyData → Bool
  | .int, .int _ => true
  | .int, .bool _ => true
  | .bool, .bool _ => true
  | .str, .str _ => true
  | .list, .list _ => true
  | .tuple, .tuple _ => true
  | .dict, .dict _ => true
  | _, _ => false
def fIsi (T : Ty) (fa : FE) : FE := fun e => bnd (fa e) fun o e1 => (res e1 o).bind fun d => okD (.bool (isD T d)) e1
theorem kit_is (T : Ty) : ∀ d, kitB (tyN d) T.nm = some (isD T d) := by
  have h : ∀ T : Ty, kitB "NoneType" T.nm = some false ∧ kitB "bool" T.nm = some (isD T (.bool true)) ∧ kitB "int" T.nm = some (isD T (.int 0)) ∧ kitB "str" T.nm = some (isD T (.str "")) ∧ kitB "list" T.nm = some (isD T (.list [])) ∧ kitB "tuple" T.nm = some (isD T (.tuple [])) ∧ kitB "dict" T.nm = some (isD T (.dict [])) := by
    intro T
    cases T <;> decide +kernel
  obtain ⟨h1, h2, h3, h4, h5, h6, h7⟩ := h T
  intro d
  cases d with
  | none => exact h1.trans (by cases T <;> rfl)
  | bool b => exact h2.trans (by cases T <;> rfl)
  | int b => exact h3.trans (by cases T <;> rfl)
  | str b => exact h4.trans (by cases T <;> rfl)
  | list b => exact h5.trans (by cases T <;> rfl)
  | tuple b => exact h6.trans (by cases T <;> rfl)
  | dict b => exact h7.trans (by cases T <;> rfl)
section
variable {X : Cx} {ρ : Nat → Res} {W : WX} {pn : List Nat} {a b c o tg : Expr} {es : List Expr} {pos p p2 apos cpos : Pos} {fa fb fc fx fv fy : FE} {fd : FD} {ft : FG} {as_ : FA} {C : Cc} {π : List (Nat × V)} {e e1 e2 : Env} {σ : St} {w w0 w1 w2 : WS}
theorem Rq.ty {K : PySem.W.Frag} {G H : Hp} {v : V} {d : PyData} (r : Rq K G H v d) (s : Same G H) : TyX K H v (.type (tyN d)) := by
  cases d with
  | none => cases r; exact .base .non
  | bool b => cases r; exact .base (.bl b)
  | int b => cases r; exact .base (.int b)
  | str b => cases r; exact .base (.str b)
  | list b => obtain ⟨a, xs, rfl, h, _⟩ := r; exact .base (.lst h)
  | tuple b => obtain ⟨a, xs, rfl, h, _⟩ := r; exact .base (.tup (s _ _ h))
  | dict b => obtain ⟨a, xs, rfl, h, _⟩ := r; exact .base (.dK h)
theorem ve_isi (T : Ty) {x : Str} (ha : VE X ρ W a fa) (hm : X.mg "isinstance" = none) (hmx : X.mg x = none) (hv : bootBuiltins x = some (.type T.nm)) (hg : Gl X "isinstance" := by rfl) (hgx : Gl X x := by rfl) (hn : x ≠ "__name__" := by decide) (hdb : (x == ("__debug__" : Str)) = false := by decide)
    (he : starEach (a :: [.Name x p2]) X.env = (false, eval a X.env) :: starEach [.Name x p2] X.env := by rfl) (he2 : starEach (.Name x p2 :: []) X.env = (false, eval (.Name x p2) X.env) :: starEach [] X.env := by rfl) (hpl : (backTo pos (starEach [.Name x p2] X.env)).any (·.1) = false := by rfl) :
    VE X ρ W (.Call (.Name "isinstance" p) [a, .Name x p2] [] pos) (fIsi T fa) := by
  obtain ⟨t, pa, s⟩ := ha
  refine ⟨_, pe_callB call_isi hg hm PyProof.Rows.boot_isinstance (pa_cons pa (pa_cons (pe_bltn hgx hmx hv (v := .ty T.nm) rfl hn hdb) pa_nil he2) he) (by decide) (by decide) he hpl, fun π e σ w Q m h => ?_⟩
  refine s π e σ w _ m (h.bnd fun o1 e1 v1 w1 m1 f1 k1 h1 => ?_)
  have h3 := h1.from f1
  cases q1 : res e1 o1 with
  | none => rw [q1] at h3; exact h3.elim
  | some d1 =>
    rw [q1] at h3
    simp only [Option.bind_some] at h3
    exact ⟨v1, .ty T.nm, .type (tyN d1), .type T.nm, isD T d1, rfl, .ty _, (res_sound m1 k1 q1).ty m1.sub, kit_ty (kit_is T d1), h3 _ w1 m1 (.refl _) (.fr (.bl _))⟩
def bOf (e : Env) : O → Option B
  | .s i => at? e i
  | .b b => some b
theorem bOf_sound {o : O} {v : V} {b : B} (m : Mt C π e σ w) (h : OOk C σ w0 w o v) (hr : bOf e o = some b) : ∃ fp, BOk C w.G w.H b v fp := by
  cases o with
  | s i =>
    have hv : σ[i]? = some (some v) := h
    obtain ⟨u, h1, h2⟩ := m.bok i b hr
    rw [hv] at h1
    cases h1
    exact ⟨_, h2⟩
  | b b' =>
    cases hr
    obtain ⟨fp, h1, h2⟩ := h
    exact ⟨fp, h1⟩
def fScLen (fa : FE) : FE := fun e => bnd (fa e) fun o e1 => match bOf e1 o with
  | some (.sc ns) => okD (.int ns.length) e1
  | _ => none
def fScIx (fa fb : FE) : FE := fun e => bnd (fa e) fun o e1 => bnd (fb e1) fun o2 e2 => match bOf e2 o, res e2 o2 with
  | some (.sc ns), some (.int i) => (atI ns i).bind fun n => okD (.int n) e2
  | _, _ => none
theorem ve_scLen (ha : VE X ρ W a fa) (hm : X.mg "len" = none) (hv : bootBuiltins "len" = some (.builtin "len")) (hg : Gl X "len" := by rfl)
    (he : starEach (a :: []) X.env = (false, eval a X.env) :: starEach [] X.env := by rfl) (hpl : (backTo pos (starEach [] X.env)).any (·.1) = false := by rfl) : VE X ρ W (.Call (.Name "len" p) [a] [] pos) (fScLen fa) := by
  obtain ⟨t, pa, s⟩ := ha
  refine ⟨_, pe_callB call_len_seq hg hm hv (pa_cons pa pa_nil he) (by decide) (by decide) he hpl, fun π e σ w Q m h => ?_⟩
  refine s π e σ w _ m (h.bnd fun o1 e1 v1 w1 m1 f1 k1 h1 => ?_)
  have h3 := h1.from f1
  split at h3
  · rename_i ns q1
    obtain ⟨fp, ⟨p, rfl, hq⟩, _⟩ := bOf_sound m1 k1 q1
    refine ⟨p, _, rfl, .inl (m1.sub.seq hq), ?_⟩
    rw [List.length_map]
    exact h3 _ w1 m1 (.refl _) (.fr (.int _))
  · exact h3.elim
theorem at_ints {ns : List Int} {i n : Int} (h : atI ns i = some n) : atI (ns.map V.int) i = some (.int n) := by
  unfold atI at h ⊢
  rw [List.length_map]
  cases q : ixN ns.length i with
  | none => rw [q] at h; cases h
  | some j =>
    rw [q] at h
    simp only [Option.bind_some] at h ⊢
    rw [List.getElem?_map, h]
    rfl
theorem ve_scIx (ha : VE X ρ W a fa) (hb : VE X ρ W b fb) (hs : PlainIx b := by exact fun _ _ => rfl) : VE X ρ W (.Subscript a b pos) (fScIx fa fb) := by
  obtain ⟨t, p, s⟩ := ha
  obtain ⟨t2, p2, s2⟩ := hb
  refine ⟨_, pe_ix ix_list p p2 hs, fun π e σ w Q m h => ?_⟩
  refine s π e σ w _ m (h.bnd fun o1 e1 v1 w1 m1 f1 k1 h1 => ?_)
  refine s2 π e1 σ w1 _ m1 ((h1.from f1).bnd fun o2 e2 v2 w2 m2 f2 k2 h2 => ?_)
  have h3 := h2.from f2
  split at h3
  · rename_i ns i q1 q2
    obtain ⟨fp, ⟨p, rfl, hq⟩, _⟩ := bOf_sound m2 (k1.step f2) q1
    have r2 := res_sound m2 k2 q2
    cases r2
    cases q3 : atI ns i with
    | none => rw [q3] at h3; exact h3.elim
    | some n =>
      rw [q3] at h3
      simp only [Option.bind_some] at h3
      exact ⟨p, _, i, .int n, rfl, rfl, m2.sub.seq hq, at_ints q3, h3 _ w2 m2 (.refl _) (.fr (.int _))⟩
  · exact h3.elim
end
end VL
set_option maxRecDepth 100000
namespace VL
open PySem L2
theorem b_len : bootBuiltins "len" = some (.builtin "len") := by decide +kernel
theorem b_max : bootBuiltins "max" = some (.builtin "max") := by decide +kernel
theorem b_min : bootBuiltins "min" = some (.builtin "min") := by decide +kernel
theorem b_abs : bootBuiltins "abs" = some (.builtin "abs") := by decide +kernel
theorem b_sorted : bootBuiltins "sorted" = some (.builtin "sorted") := by decide +kernel
theorem b_int : bootBuiltins "int" = some (.type "int") := by decide +kernel
theorem b_bool : bootBuiltins "bool" = some (.type "bool") := by decide +kernel
theorem b_str : bootBuiltins "str" = some (.type "str") := by decide +kernel
theorem b_list : bootBuiltins "list" = some (.type "list") := by decide +kernel
theorem b_tuple : bootBuiltins "tuple" = some (.type "tuple") := by decide +kernel
theorem sg_t2 {C : Cc} {pn : List Nat} {i j : Nat} (hp : i ∉ pn) (hq : j ∉ pn) : SG C pn (gTup C.K 2 (gCons (gName i) (gCons (gName j) gNil))) (gT2 i j) := fun π e σ w d z e' Q hpi m r hg h => by
  unfold gT2 at hg
  split at hg
  · cases hg
    obtain ⟨q, xs, rfl, g1, g2⟩ := rp_tup r
    cases g2 with
    | cons r1 g3 =>
      cases g3 with
      | cons r2 g4 =>
        cases g4
        obtain ⟨w1, m1, f1, eH1, eG1⟩ := bind_fr m (fun p hq (z : p.1 = i) => hp (z ▸ hpi p hq)) r1
        obtain ⟨w2, m2, f2, eH2, _⟩ := bind_fr m1 (fun p hq' (z : p.1 = j) => hq (z ▸ hpi p hq')) (by rw [eG1]; exact r2)
        refine ⟨q, _, rfl, .of (m.sub _ _ g1), rfl, _, _, rfl, _, _, rfl, rfl, ?_⟩
        rw [← eH1, ← eH2]
        exact h _ w2 m2 (f1.trans f2) (eH2.trans eH1)
  · cases hg
section
variable {X : Cx} {ρ : Nat → Res} {W : WX} {pos : Pos}
/-- a number of the module -/
theorem ve_gint {x : Str} {i : Int} (hm : ∃ t, X.mg x = some (.int i t)) (hg : Gl X x := by rfl) (hd : (x == ("__debug__" : Str)) = false := by decide) : VE X ρ W (.Name x pos) (fC (.int i)) := by
  obtain ⟨t, h⟩ := hm
  exact ve_glob h (v := .int i) ⟨t, rfl⟩ (fun _ => .int i) hg hd
end
section
variable {P : Program} {w : World} {K : PySem.W.Frag} {mg : Str → Option Value} {base : Heap} {ρ : Nat → Res}
/-- the module's def x computes F; the parameters at ms are changed -/
structure CalK (P : Program) (w : World) (K : PySem.W.Frag) (mg : Str → Option Value) (base : Heap) (ρ : Nat → Res) (x : Str) (n : Nat) (ms : List Nat) (F : Fn) (k : Nat) : Prop where
  ex : ∃ f fd ps, FnG P w K mg base k f fd ps (spV ⟨K, mg, ρ⟩ n ms F) ∧ mg x = some (.ref f) ∧ PySem.W.keepIn K (.ref f) = true ∧ Binds K fd ps []
theorem CalK.c {X : Cx} {x : Str} {n : Nat} {ms : List Nat} {F : Fn} {k : Nat} (c : CalK X.prog X.w X.K X.mg X.base ρ x n ms F k) : Cal X ρ x n ms F k := ⟨c.ex⟩
theorem cal_mk {x qual : Str} {params : Arguments} {body : List Stmt} {scope : Scope} {f : Addr} {fd : FuncData} {N ps : List Str} {k : Nat} {g : FS} (ms : List Nat) (F : FunD K x qual params body scope [] [] f fd) (gm : mg x = some (.ref f)) (S : FnScope N ps scope) (hpn : ps.length ≤ N.length)
    (hb : ∀ (kV doc pm : Value) (an : Option Addr) (cdv ct : Value) (us : List Value), us.length = ps.length → bindArgs (PySem.W.fnOf x qual params body scope .none kV doc pm an cdv ct) ⟨us, []⟩ = pure (ps.zip us))
    (hbody : ∀ (cdv : Value) (A : Around) (outer : List PySem.Env) (s : Shared) (H : Hp) (E : XK), Room k (A.deeper (PyProof.Rows.envOfC qual scope s.heap.objs.size f cdv)) →
      Vx (cxOf (L2.CX P w) P w K mg base N qual scope f cdv A outer s H E) (fun cls d _ H => E cls d H) → VSs (cxOf (L2.CX P w) P w K mg base N qual scope f cdv A outer s H E) ρ (fun cls d _ H => E cls d H) ms body g) (hk : 1 ≤ k) :
    CalK P w K mg base ρ x ps.length ms (runF g N.length) (k + 1) := ⟨f, fd, ps, fn_okV ms F S hpn hbody hk, gm, F.kp, F.bindsN hb⟩
theorem xc_ok {h : Heap} {x : Str} (KX : K.In h) (G : h.Ns mainGlobals mg) (c : (He.Fa.exc x).ok K = true) (g : (He.Fa.glo x).ok K = true) : XC K mg x := by
  obtain ⟨h1, h2, h3, h4⟩ := He.exc_ok c
  exact ⟨_, He.glo_ok KX G g, h1, h2, h3, h4⟩
/-- nothing -/
def R0 : Res := ⟨fun _ _ _ _ _ _ => False, fun h _ _ => h.elim, fun h => h.elim⟩
theorem fn_mkV {x qual : Str} {params : Arguments} {body : List Stmt} {scope : Scope} {f : Addr} {fd : FuncData} {N ps : List Str} {k : Nat} {g : FS} (ms : List Nat) (F : FunD K x qual params body scope [] [] f fd) (S : FnScope N ps scope) (hpn : ps.length ≤ N.length)
    (hbody : ∀ (cdv : Value) (A : Around) (outer : List PySem.Env) (s : Shared) (H : Hp) (E : XK), Room k (A.deeper (PyProof.Rows.envOfC qual scope s.heap.objs.size f cdv)) →
      Vx (cxOf (L2.CX P w) P w K mg base N qual scope f cdv A outer s H E) (fun cls d _ H => E cls d H) → VSs (cxOf (L2.CX P w) P w K mg base N qual scope f cdv A outer s H E) ρ (fun cls d _ H => E cls d H) ms body g) (hk : 1 ≤ k) :
    FnG P w K mg base (k + 1) f fd ps (spV ⟨K, mg, ρ⟩ ps.length ms (runF g N.length)) := fn_okV ms F S hpn hbody hk
/-- the law's answer -/
theorem law_end {F : Fn} {a : Addr} {ns : List Int} {H : Hp} (hS : SqL K H a (ns.map V.int)) (hF : ∃ e, F [.sc ns] = some (.ret (.fr (.bool true)) e)) : spV ⟨K, mg, ρ⟩ 1 [] F [.ref a] H (fun v _ => v = .bl true) (fun _ _ _ => False) := by
  obtain ⟨e, hF⟩ := hF
  refine ⟨rfl, [.sc ns], ⟨H, H, fun _ _ => False⟩, rfl, ⟨rfl, Same.refl _, fun i b q => ?_, fun i q a z => z, fun i j a z _ => z.elim, fun p h => by cases h⟩, ?_⟩
  · match i, q with
    | 0, q =>
      cases q
      exact ⟨_, rfl, ⟨a, rfl, hS⟩, fun _ z => z⟩
    | i + 1, q => exact absurd q (by unfold at?; simp)
  · unfold PostF
    rw [hF]
    intro v w' m f k
    obtain ⟨fp, k1, k2⟩ := k
    cases k1.1
    rfl
end
end VL
set_option maxRecDepth 100000
namespace VL
open PySem L2
abbrev Pl := Int × Int × Int
def encP (p : Pl) : PyData := .list [.int p.1, .int p.2.1, .int p.2.2]
def encD (ps : List Pl) (i : Int) : PyData := .list [.list (ps.map encP), .int i]
def decP : PyData → Option Pl
  | .list [.int a, .int b, .int c] => some (a, b, c)
  | _ => none
def decPs : List PyData → Option (List Pl)
  | [] => some []
  | d :: ds => (decP d).bind fun p => (decPs ds).map (p :: ·)
def decD : PyData → Option (List Pl × Int)
  | .list [.list ds, .int i] => (decPs ds).map fun ps => (ps, i)
  | _ => none
theorem decPs_enc : ∀ ps : List Pl, decPs (ps.map encP) = some ps
  | [] => rfl
  | p :: ps => by
    show ((decPs (ps.map encP)).map (p :: ·)) = some (p :: ps)
    rw [decPs_enc ps]
    rfl
theorem decD_enc (ps : List Pl) (i : Int) : decD (encD ps i) = some (ps, i) := by
  show (decPs (ps.map encP)).map (fun ps => (ps, i)) = some (ps, i)
  rw [decPs_enc]
  rfl
def v3 (p : Pl) : List V := [.int p.1, .int p.2.1, .int p.2.2]
/-- what is drawn from a three, and the three behind it -/
def drawP (p : Pl) (many : Int) : Int × Pl :=
  if p.2.1 = 1 ∧ 0 < p.1 then (p.1 % many, (p.1 / many, p.2.1, p.2.2))
  else
    let x := (p.1 % 99999999977 + 700001 * (p.2.2 + 1)) % 99999999947
    let y := x * x % 99999999821
    let z := y * (y + 19) % 9999999967
    (z / 13 % many, (p.1, p.2.1, p.2.2 + 1))
def drawOk (ps : List Pl) (i many : Int) : Bool := decide (0 < ps.length) && decide (0 ≤ i) && decide (0 < many) && decide (many.natAbs < 2 ^ 64)
theorem drawOk_iff {ps : List Pl} {i many : Int} : drawOk ps i many = true ↔ (0 < ps.length ∧ 0 ≤ i ∧ 0 < many ∧ many < 2 ^ 64) := by
  unfold drawOk
  rw [Bool.and_eq_true, Bool.and_eq_true, Bool.and_eq_true, decide_eq_true_eq, decide_eq_true_eq, decide_eq_true_eq, decide_eq_true_eq]
  exact ⟨fun h => ⟨h.1.1.1, h.1.1.2, h.1.2, by omega⟩, fun h => ⟨⟨⟨h.1, h.2.1⟩, h.2.2.1⟩, by omega⟩⟩
/-- the place of the three that is drawn from -/
def drawJ (ps : List Pl) (i : Int) : Nat := (i % (ps.length : Int)).toNat
def drawF : Fn := fun bs => match bs with
  | [.rs 0 d, .fr (.int many)] => match decD d with
    | some (ps, i) => if drawOk ps i many = true then (ps[drawJ ps i]?).bind fun p => some (.ret (.fr (.int (drawP p many).1)) [some (.rs 0 (encD (ps.set (drawJ ps i) (drawP p many).2) (i + 1)))]) else none
    | none => none
  | _ => none
theorem drawP_nonneg {p : Pl} {many : Int} (h : 0 < many) : 0 ≤ (drawP p many).1 ∧ (drawP p many).1 < many := by
  unfold drawP
  split
  · exact ⟨Int.emod_nonneg _ (by omega), Int.emod_lt_of_pos _ h⟩
  · exact ⟨Int.emod_nonneg _ (by omega), Int.emod_lt_of_pos _ h⟩
section
variable {K : PySem.W.Frag}
abbrev cI (i : Int) : TE := tC (.int i)
end
end VL
set_option maxRecDepth 100000
namespace VL
open PySem L2
def sNewP (i : Nat) : FS := fun e => some (.nx (e.set i (some (.rs 1 (.list [])))))
def sAppP (i : Nat) (fd : FD) : FS := fun e => match at? e i with
  | some (.rs 1 _) => bndS (fd e) fun ds e1 => match ds, at? e1 i with
    | [.int a, .int b, .int c], some (.rs 1 (.list l)) => if l.length < big then some (.nx (e1.set i (some (.rs 1 (.list (l ++ [encP (a, b, c)])))))) else none
    | _, _ => none
  | _ => none
def fDeck (i : Nat) : FE := fun e => match at? e i with
  | some (.rs 1 (.list l)) => some (.ok (.b (.rs 0 (.list [.list l, .int 0]))) (e.set i none))
  | _ => none
end VL
set_option maxRecDepth 100000
namespace VL
open PySem L2
def rgOk (i j : Int) : Bool := decide (i.natAbs < 2 ^ 62) && decide (j.natAbs < 2 ^ 62) && decide ((j - i).toNat ≤ big)
def fListRg1 (fa : FE) : FE := fun e => bnd (fa e) fun o e1 => match res e1 o with
  | some (.int j) => if rgOk 0 j = true then some (.ok (.b (.ow (rngN 0 j.toNat))) e1) else none
  | _ => none
section
variable {X : Cx} {ρ : Nat → Res} {W : WX} {a b : Expr} {pos p p2 p3 : Pos} {fa fb : FE}
theorem rp_rng {K : PySem.W.Frag} {G : Hp} {lo : Int} {n : Nat} : RpAll K G ((List.range n).map fun i => V.int (lo + (i : Nat))) (rngN lo n) := by
  unfold rngN
  generalize List.range n = l
  induction l with
  | nil => exact .nil
  | cons x l ih => exact .cons (.int _) ih
theorem rg_ok {i j : Int} (h : rgOk i j = true) : RgOk i j := by
  unfold rgOk at h
  rw [Bool.and_eq_true, Bool.and_eq_true, decide_eq_true_eq, decide_eq_true_eq, decide_eq_true_eq] at h
  exact ⟨by omega, by omega, by omega, by omega, Nat.le_trans h.2 (by decide)⟩
theorem ve_listRg1 (hc : X.calm = true) (hm : X.mg "list" = none) (hr : X.mg "range" = none) (ha : VE X ρ W a fa) (hg : Gl X "list" := by rfl) (hg2 : Gl X "range" := by rfl) (na : starEach [a] X.env = (false, eval a X.env) :: starEach [] X.env := by rfl)
    (na2 : starEach [.Call (.Name "range" p2) [a] [] p3] X.env = (false, eval (.Call (.Name "range" p2) [a] [] p3) X.env) :: starEach [] X.env := by rfl) : VE X ρ W (.Call (.Name "list" p) [.Call (.Name "range" p2) [a] [] p3] [] pos) (fListRg1 fa) := by
  obtain ⟨t, p, s⟩ := ha
  refine ⟨_, pe_listRg hc hg hm (prg_1 hg2 hr p na) na2, fun π e σ w Q m h => ?_⟩
  refine s π e σ w _ m (h.bnd fun o1 e1 v1 w1 m1 f1 k1 h1 => ?_)
  have h3 := h1.from f1
  split at h3
  · rename_i j q1
    have r := res_sound m1 k1 q1
    cases r
    split at h3
    · rename_i hok
      refine ⟨j, rfl, rg_ok hok, fun q hq => ?_⟩
      obtain ⟨m2, f2, k2⟩ := mk_lst (es := rngN 0 j.toNat) (zs := rgV 0 j) m1 hq (by unfold rgV; rw [Int.sub_zero]; exact rp_rng)
      exact h3 _ _ m2 f2 (k2.base f1)
    · exact h3.elim
  · exact h3.elim
end
end VL
set_option maxRecDepth 100000
namespace VL
open PySem L2
end VL
set_option maxRecDepth 100000
namespace VL
open PySem L2
/-- the module's x is a tuple of these texts -/
def TupG (K : PySem.W.Frag) (mg : Str → Option Value) (x : Str) (ss : List Str) : Prop := ∃ a, mg x = some (.ref a) ∧ ∀ H, SqT K H a (ss.map V.str)
def strsB : List Value → List Str → Bool
  | [], [] => true
  | .str y _ :: vs, z :: zs => decide (y = z) && strsB vs zs
  | _, _ => false
def tupB (x : Str) (ss : List Str) (K : PySem.W.Frag) : Bool := match PySem.W.nsIn K mainGlobals x with
  | some (some (.ref a)) => (match K.lookup a with
    | some ⟨.type c, _, .seq its n, _⟩ => decide (c = "tuple") && (decide (its.size ≤ sizeLine) && strsB its.toList ss)
    | _ => false)
  | _ => false
theorem strs_vals : ∀ (vs : List Value) (ss : List Str), strsB vs ss = true → Vals (ss.map V.str) vs
  | [], [], _ => .nil
  | [], z :: zs, h => by cases h
  | v :: vs, [], h => by cases v <;> cases h
  | v :: vs, z :: zs, h => by
    cases v with
    | str y t =>
      have h' : (decide (y = z) && strsB vs zs) = true := h
      rw [Bool.and_eq_true] at h'
      have e := of_decide_eq_true h'.1
      subst e
      exact .cons ⟨t, rfl⟩ (strs_vals vs zs h'.2)
    | _ => cases h
theorem tup_ok {K : PySem.W.Frag} {h : Heap} {mg : Str → Option Value} (X : K.In h) (G : h.Ns mainGlobals mg) {x : Str} {ss : List Str} (c : tupB x ss K = true) : TupG K mg x ss := by
  unfold tupB at c
  split at c
  · rename_i a q
    split at c
    · rename_i cl od its n sl q2
      rw [Bool.and_eq_true, Bool.and_eq_true] at c
      obtain ⟨c1, c2, c3⟩ := c
      refine ⟨a, PySem.W.mg_of X G q, fun H => .inr ⟨_, its, n, q2, ?_, rfl, of_decide_eq_true c2, strs_vals _ _ c3⟩⟩
      rw [of_decide_eq_true c1]
    · cases c
  · cases c
def fInT (neg : Bool) (ss : List Str) (fa : FE) : FE := fun e => bnd (fa e) fun o e1 => match res e1 o with
  | some (.str s) => okD (.bool (if neg then !decide (s ∈ ss) else decide (s ∈ ss))) e1
  | _ => none
section
variable {X : Cx} {ρ : Nat → Res} {W : WX} {a : Expr} {pos p : Pos} {fa : FE}
theorem inV_strs (s : Str) : ∀ ss : List Str, inV (.str s) (ss.map V.str) = decide (s ∈ ss)
  | [] => rfl
  | z :: zs => by
    show (eqV (.str z) (.str s) || inV (.str s) (zs.map V.str)) = _
    rw [inV_strs s zs]
    show ((z == s) || decide (s ∈ zs)) = _
    by_cases h : z = s
    · subst h; simp
    · have : ¬ s = z := fun e => h e.symm
      simp [h, this]
theorem flat_strs : ∀ ss : List Str, (ss.map V.str).all flatV = true
  | [] => rfl
  | z :: zs => by rw [List.map_cons, List.all_cons, flat_strs zs]; rfl
theorem se_inT {C : Cc} {t : TE} {b : Addr} {ss : List Str} {neg : Bool} (hs : ∀ H, SqT C.K H b (ss.map V.str)) (s : SE C W t fa) : SE C W (tOp (rIn C.K neg) t (tC (.ref b))) (fInT neg ss fa) := fun π e σ w Q m h => by
  refine s π e σ w _ m (h.bnd fun o1 e1 v1 w1 m1 f1 k1 h1 => ?_)
  have h3 := h1.from f1
  split at h3
  · rename_i z q1
    have r := res_sound m1 k1 q1
    cases r
    refine ⟨b, _, rfl, .inr (hs _), rfl, flat_strs ss, ?_⟩
    rw [inV_strs]
    exact h3 _ w1 m1 (.refl _) (.fr (.bl _))
  · exact h3.elim
theorem vt_notInT {x : Str} {ss : List Str} (ha : VE X ρ W a fa) (ht : TupG X.K X.mg x ss) (hg : Gl X x := by rfl) (hd : (x == ("__debug__" : Str)) = false := by decide) (hm : behindInMarks .NotIn (.Name x p) = false := by first | exact nomark _ | rfl) : VT X ρ W (.Compare a [.NotIn] [.Name x p] pos) (fTest (fInT true ss fa)) := by
  obtain ⟨ta, pa, sa⟩ := ha
  obtain ⟨b, h1, h2⟩ := ht
  exact ⟨_, pt_cmpR op_notIn_seq pa (pe_glob hg h1 (v := .ref b) rfl hd) hm, st_test (se_inT h2 sa)⟩
end
end VL
set_option maxRecDepth 100000
namespace VL
open PySem L2
end VL
set_option maxRecDepth 100000
namespace VL
open PySem L2
def keq : PyData → PyData → Bool
  | .int i, .int j => decide (i = j)
  | .str a, .str b => decide (a = b)
  | _, _ => false
theorem keq_kP (a b : Key) : keq (kP a) (kP b) = decide (a = b) := by
  cases a <;> cases b <;> simp [kP, keq]
abbrev DKv := List (PyData × PyData)
def putD (ds : DKv) (k v : PyData) : DKv := if (ds.any fun p => keq p.1 k) = true then ds.map (fun p => if keq p.1 k = true then (p.1, v) else p) else ds ++ [(k, v)]
/-- a dict's entries and their data -/
inductive RpD (K : PySem.W.Frag) (G : Hp) : List (Key × V) → DKv → Prop
  | nil : RpD K G [] []
  | cons {k : Key} {v : V} {d : PyData} {ks : List (Key × V)} {ds : DKv} : Rp K G v d → RpD K G ks ds → RpD K G ((k, v) :: ks) ((kP k, d) :: ds)
section
variable {K : PySem.W.Frag} {G : Hp}
theorem RpD.length : ∀ {ks : List (Key × V)} {ds : DKv}, RpD K G ks ds → ks.length = ds.length
  | _, _, .nil => rfl
  | _, _, .cons _ t => by rw [List.length_cons, List.length_cons, t.length]
theorem RpD.mono {G' : Hp} (e : Same G G') : ∀ {ks : List (Key × V)} {ds : DKv}, RpD K G ks ds → RpD K G' ks ds
  | _, _, .nil => .nil
  | _, _, .cons r t => .cons (r.mono e) (t.mono e)
theorem RpD.append : ∀ {ks ls : List (Key × V)} {ds es : DKv}, RpD K G ks ds → RpD K G ls es → RpD K G (ks ++ ls) (ds ++ es)
  | _, _, _, _, .nil, t => t
  | _, _, _, _, .cons r t, u => .cons r (t.append u)
theorem RpD.any : ∀ {ks : List (Key × V)} {ds : DKv}, RpD K G ks ds → ∀ k : Key, (ks.any fun p => decide (p.1 = k)) = ds.any fun p => keq p.1 (kP k)
  | _, _, .nil, k => rfl
  | _, _, .cons (k := a) r t, k => by rw [List.any_cons, List.any_cons, keq_kP, t.any k]
theorem RpD.over {v : V} {d : PyData} (k : Key) (r : Rp K G v d) : ∀ {ks : List (Key × V)} {ds : DKv}, RpD K G ks ds → RpD K G (ks.map (fun kv => if kv.1 = k then (kv.1, v) else kv)) (ds.map fun p => if keq p.1 (kP k) = true then (p.1, d) else p)
  | _, _, .nil => .nil
  | _, _, .cons (k := a) r1 t => by
    rw [List.map_cons, List.map_cons, keq_kP]
    by_cases q : a = k
    · rw [if_pos q, if_pos (decide_eq_true q)]
      exact .cons r (RpD.over k r t)
    · rw [if_neg q, if_neg (by rw [decide_eq_false q]; decide)]
      exact .cons r1 (RpD.over k r t)
theorem RpD.put {ks : List (Key × V)} {ds : DKv} {v : V} {d : PyData} (h : RpD K G ks ds) (k : Key) (r : Rp K G v d) : RpD K G (putK ks k v) (putD ds (kP k) d) := by
  unfold putK putD
  rw [h.any k]
  split
  · exact h.over k r
  · exact h.append (.cons r .nil)
end
end VL
set_option maxRecDepth 100000
namespace VL
open PySem L2
/-- an unowned thing changes -/
theorem Mt.over {C : Cc} {π : List (Nat × V)} {e : Env} {σ : St} {w : WS} {D : Addr} {o' : HO} (m : Mt C π e σ w) (hG : w.G D = none) (hn : ∀ i, ¬ w.fp i D) : Mt C π e σ { w with H := upd w.H D o' } := by
  refine ⟨m.len, fun a u qa => ?_, fun j b qb => ?_, m.non, m.dis, m.pin⟩
  · show upd w.H D o' a = some u
    rw [upd_ne (ne_of_none qa hG)]
    exact m.sub a u qa
  · obtain ⟨v, b1, b2⟩ := m.bok j b qb
    exact ⟨v, b1, b2.mono (Same.refl _) fun a ha => ⟨upd_ne fun z => hn j (by rw [← z]; exact ha), rfl⟩⟩
theorem Frm.over {w w2 : WS} {D : Addr} {o' : HO} (f : Frm w w2) (hD : w.H D = none) : Frm w { w2 with H := upd w2.H D o' } := by
  refine ⟨f.g, fun a o ha hna => ?_, fun a ha => ?_⟩
  · obtain ⟨b1, b2, b3⟩ := f.k a o ha hna
    refine ⟨?_, b2, b3⟩
    show upd w2.H D _ a = some o
    rw [upd_ne (ne_of_none ha hD)]
    exact b1
  · by_cases z : a = D
    · rw [z]; exact hD
    · have ha' : upd w2.H D o' a = none := ha
      rw [upd_ne z] at ha'
      exact f.t a ha'
end VL
set_option maxRecDepth 100000
namespace VL
open PySem L2 PySem.Spec PyProof.Rows
end VL
set_option maxRecDepth 100000
namespace VL
open PySem L2 PySem.Spec PyProof.Rows
end VL
set_option maxRecDepth 100000
namespace VL
open PySem L2 PySem.Spec PyProof.Rows
end VL
set_option maxRecDepth 100000
namespace VL
open PySem L2 PySem.Spec PyProof.Rows
open PySem.W (AllAlike Sortable EachIs dataKind sortVals sortingHeap copyHeap alike alikeAll)
def dle (a b : PyData) : Bool := !PySem.W.dataLt b a
def isIL : PyData → Bool
  | .list es => (asInts es).isSome
  | _ => false
theorem asInts_some : ∀ {es : List PyData} {ns : List Int}, asInts es = some ns → es = ns.map .int := fun {es ns} h => by
  induction es generalizing ns with
  | nil => cases h; rfl
  | cons e es ih =>
    cases e with
    | int i =>
      have h' : ∃ a, asInts es = some a ∧ i :: a = ns := by simpa [asInts] using h
      obtain ⟨a, e1, e2⟩ := h'
      subst e2
      rw [ih e1]
      rfl
    | _ => simp [asInts] at h
theorem isIL_of {d : PyData} (h : isIL d = true) : ∃ ns : List Int, d = .list (ns.map .int) := by
  unfold isIL at h
  split at h
  · rename_i es
    obtain ⟨ns, hn⟩ := Option.isSome_iff_exists.mp h
    exact ⟨ns, by rw [asInts_some hn]⟩
  · cases h
theorem alike_IL {ds : List PyData} (h : ds.all isIL = true) : AllAlike ds := fun d hd d' hd' => by
  obtain ⟨ns, rfl⟩ := isIL_of (List.all_eq_true.mp h d hd)
  obtain ⟨ms, rfl⟩ := isIL_of (List.all_eq_true.mp h d' hd')
  show alike (.list _) (.list _) = true
  rw [alike]
  exact PySem.W.alike_ints ns ms
theorem sortable_IL {ds : List PyData} (h : ds.all isIL = true) : Sortable ds := .inr fun d hd => by
  obtain ⟨ns, rfl⟩ := isIL_of (List.all_eq_true.mp h d hd)
  exact ⟨(fun z => nomatch z), (fun xs z => nomatch z)⟩
theorem depth_IL {ds : List PyData} (h : ds.all isIL = true) {d : PyData} (hd : d ∈ ds) : d.depth ≤ 4 := by
  obtain ⟨ns, rfl⟩ := isIL_of (List.all_eq_true.mp h d hd)
  rw [PyData.depth, PySem.W.depth_ints]
  omega
section
variable {X : Cx} {ρ : Nat → Res}
def rSortedL (K : PySem.W.Frag) : List V → Hp → VK → Prop := fun vs H Q => ∃ (a : Addr) (xs : List V) (ds : List PyData) (P : V → PyData → Prop), vs = [V.ref a] ∧ SqL K H a xs ∧ Paired P xs ds ∧ (∀ x d, P x d → Dp K H x d) ∧ ds.all isIL = true ∧
  ∀ (ys : List V) (p : Addr), Paired P ys (ds.mergeSort dle) → H p = none → Q (.ref p) (upd H p (.lst ys))
theorem each_of {P : V → PyData → Prop} : ∀ {xs : List V} {us : List Value} {ds : List PyData}, Vals xs us → Paired P xs ds → EachIs (fun u d => ∃ x, RelV x u ∧ P x d) us ds
  | _, _, _, .nil, .nil => .nil
  | _, _, _, .cons r t, .cons h u => .cons ⟨_, r, h⟩ (each_of t u)
theorem of_each {P : V → PyData → Prop} : ∀ {us : List Value} {ds : List PyData}, EachIs (fun u d => ∃ x, RelV x u ∧ P x d) us ds → ∃ xs, Vals xs us ∧ Paired P xs ds
  | _, _, .nil => ⟨[], .nil, .nil⟩
  | _, _, .cons ⟨x, r, h⟩ t => by
    obtain ⟨xs, h1, h2⟩ := of_each t
    exact ⟨x :: xs, .cons r h1, .cons h h2⟩
theorem each_imp {R R' : Value → PyData → Prop} : ∀ {us : List Value} {ds : List PyData}, (∀ u d, d ∈ ds → R u d → R' u d) → EachIs R us ds → EachIs R' us ds
  | _, _, _, .nil => .nil
  | _, _, h, .cons r t => .cons (h _ _ List.mem_cons_self r) (each_imp (fun u d hd => h u d (List.mem_cons_of_mem _ hd)) t)
theorem cr_sortedL (hu : X.A.units + 66 < cLine) : CallR X (.builtin "sorted") (rSortedL X.K) := by
  intro pins s σ H vs us Q I r h
  obtain ⟨a, xs, ds, P, rfl, hs, hP, hD, hI, q⟩ := h
  obtain ⟨its, rv, hl, hz⟩ := I.list hs
  rw [Vals.ref1 r]
  have e := each_of rv hP
  have hal := alike_IL hI
  have er : EachIs (fun u d => ∃ as, Reads (sortingHeap (copyHeap s.heap its) (s.heap.objs.size + 1) its) u d as) its ds := each_imp (fun u d _ ⟨x, r1, h1⟩ => by
    obtain ⟨as, ra⟩ := Dp.reads I d x u (hD x d h1) r1
    exact ⟨as, PyProof.Rows.Reads.keeps (fun b o z => PySem.W.sorting_copy_old z) ra⟩) e
  have hlen : its.length ≤ sizeLine := by rw [← rv.length]; exact hz
  refine PySem.W.sorted_vals hl.isList (PySem.W.SortsAt.data er hal (sortable_IL hI) fun d hd => ?_) hlen ?_
  · have := depth_IL hI hd
    show X.A.in1.in1.units + d.depth < cLine
    have : X.A.in1.in1.units = X.A.units + 1 + 1 := rfl
    omega
  · have hk : EachIs (fun v b => (dataKind (sortingHeap (copyHeap s.heap its) (s.heap.objs.size + 1) its) ds).keyOf v = some (PySem.W.keyToks b)) its ds := each_imp (fun u d hd ⟨as, ra⟩ => PySem.W.dataKind_some hal hd ra) er
    have out := PySem.W.sortVals_each (κ := dataKind (sortingHeap (copyHeap s.heap its) (s.heap.objs.size + 1) its) ds) (rev := false) PySem.W.keyToks e hk
    have out' : EachIs (fun u d => ∃ x, RelV x u ∧ P x d) (sortVals (dataKind (sortingHeap (copyHeap s.heap its) (s.heap.objs.size + 1) its) ds) false its its) (ds.mergeSort dle) := out
    have hlo := PySem.W.sortVals_length (κ := dataKind (sortingHeap (copyHeap s.heap its) (s.heap.objs.size + 1) its) ds) false (ks := its) (vs := its) rfl
    generalize sortVals (dataKind (sortingHeap (copyHeap s.heap its) (s.heap.objs.size + 1) its) ds) false its its = o at *
    obtain ⟨ys, y1, y2⟩ := of_each out'
    obtain ⟨ep, he'⟩ := PyProof.Rows.sortedAll_at s.heap its o.toArray
    have hyl : ys.length ≤ sizeLine := by rw [y1.length]; omega
    exact ⟨.ref _, upd H (s.heap.objs.size + 1) (.lst ys), I.laid (t' := s.toks) (fun _ _ => PyProof.Rows.sortedAll_old) (Nat.le_succ _) ⟨hyl, o, ep, y1, he'⟩, rfl, q _ _ y2 (I.hok.fresh (Nat.le_succ _))⟩
def gSortedL : List PyData → Option B
  | [.list ds] => if ds.all isIL = true then some (.ow (ds.mergeSort dle)) else none
  | _ => none
theorem paired_rp {K : PySem.W.Frag} {G : Hp} : ∀ {xs : List V} {ds : List PyData}, RpAll K G xs ds → Paired (Rp K G) xs ds
  | _, _, .nil => .nil
  | _, _, .cons h t => .cons h (paired_rp t)
theorem lay_ints : ∀ ns : List Int, PyData.canLayAll0 (ns.map .int) = true
  | [] => by simp [PyData.canLayAll0]
  | n :: ns => by
    show PyData.canLayAll0 (.int n :: ns.map .int) = true
    simp [PyData.canLayAll0, PyData.canLay0, lay_ints ns]
theorem rp_dp_IL {K : PySem.W.Frag} {G H : Hp} (s : Same G H) {x : V} {d : PyData} (hi : isIL d = true) (h : Rp K G x d) : Dp K H x d := by
  obtain ⟨ns, rfl⟩ := isIL_of hi
  refine Rp.dp _ ?_ (h.mono s)
  simp [PyData.canLay0, lay_ints ns]
theorem paired_and {α β : Type} {F F' : α → β → Prop} : ∀ {xs : List α} {ys : List β}, (∀ y ∈ ys, ∀ x, F x y → F' x y) → Paired F xs ys → Paired F' xs ys
  | _, _, _, .nil => .nil
  | _, _, h, .cons r t => .cons (h _ List.mem_cons_self _ r) (paired_and (fun y hy => h y (List.mem_cons_of_mem _ hy)) t)
theorem rp_paired {K : PySem.W.Frag} {G : Hp} : ∀ {xs : List V} {ds : List PyData}, Paired (Rp K G) xs ds → RpAll K G xs ds
  | _, _, .nil => .nil
  | _, _, .cons h t => .cons h (rp_paired t)
theorem v_sortedL (hu : X.A.units + 66 < cLine) : CallV X ρ (.builtin "sorted") gSortedL := by
  refine ⟨_, cr_sortedL hu, fun π e σ w xs ds z Q m hx hz k => ?_⟩
  unfold gSortedL at hz
  split at hz
  · rename_i ds
    split at hz
    · rename_i hI
      cases hz
      cases hx with
      | cons r t =>
        cases t
        obtain ⟨p, ys, rfl, hp, rp⟩ := r
        refine ⟨p, ys, ds, fun x d => Rp X.K w.G x d ∧ isIL d = true, rfl, .of hp, paired_and (fun d hd x h => ⟨h, List.all_eq_true.mp hI d hd⟩) (paired_rp rp), fun x d h => rp_dp_IL m.sub h.2 h.1, hI, fun zs q hz hq => ?_⟩
        obtain ⟨m5, f5, k5⟩ := mk_lst m hq (rp_paired (paired_and (fun _ _ _ h => h.1) hz))
        exact k _ _ m5 f5 k5
    · cases hz
  · cases hz
end
end VL
set_option maxRecDepth 100000
namespace VW
open PySem L2 PyProof.Rows
/-- the first n places from x on -/
def trip (m : Nat) : Nat → Nat → List Nat
  | 0, _ => []
  | n + 1, x => x :: trip m n ((x * 5 + 1) % (m + 1))
theorem trip_at (m : Nat) : ∀ (n k a : Nat), k < n → (trip m n (lcgN m a))[k]? = some (lcgN m (a + k))
  | 0, _, _, h => absurd h (Nat.not_lt_zero _)
  | n + 1, 0, a, _ => rfl
  | n + 1, k + 1, a, h => by
    show (trip m n (lcgN m (a + 1)))[k]? = _
    rw [trip_at m n k (a + 1) (by omega), show a + 1 + k = a + (k + 1) by omega]
def whole511 : Bool := (List.range 512).all fun j => (trip 511 512 0).contains j
theorem whole511_ok : whole511 = true := by decide +kernel
theorem home511 : lcgN 511 512 = 0 := by decide +kernel
/-- from each place each other is met within one round -/
def Meets (m : Nat) : Prop := ∀ i j, i ≤ m → j ≤ m → ∃ k, k ≤ m ∧ lcgI m i k = j
theorem meets511 : Meets 511 := by
  have at_ : ∀ j, j ≤ 511 → ∃ b, b ≤ 511 ∧ lcgN 511 b = j := fun j hj => by
    have h1 := List.all_eq_true.mp whole511_ok j (List.mem_range.mpr (by omega))
    have h2 : j ∈ trip 511 512 0 := by simpa using h1
    obtain ⟨b, hb, e⟩ := List.getElem_of_mem h2
    have hl : ∀ n x, (trip 511 n x).length = n := fun n => by
      induction n with
      | zero => exact fun _ => rfl
      | succ n ih => exact fun x => by rw [trip, List.length_cons, ih]
    rw [hl] at hb
    have h3 := trip_at 511 512 b 0 hb
    have h4 : (trip 511 512 0)[b]? = some j := by rw [List.getElem?_eq_getElem (by rw [hl]; exact hb), e]
    have h5 : trip 511 512 (lcgN 511 0) = trip 511 512 0 := rfl
    rw [h5, h4, Nat.zero_add] at h3
    exact ⟨b, by omega, (Option.some.inj h3).symm⟩
  have round : ∀ k, lcgN 511 (512 + k) = lcgN 511 k := fun k => by
    induction k with
    | zero => exact home511
    | succ k ih =>
      show (lcgN 511 (512 + k) * 5 + 1) % 512 = (lcgN 511 k * 5 + 1) % 512
      rw [ih]
  intro i j hi hj
  obtain ⟨a, ha, rfl⟩ := at_ i hi
  obtain ⟨b, hb, rfl⟩ := at_ j hj
  by_cases h : a ≤ b
  · exact ⟨b - a, by omega, by rw [lcgN_add, show a + (b - a) = b by omega]⟩
  · exact ⟨512 + b - a, by omega, by rw [lcgN_add, show a + (512 + b - a) = 512 + b by omega, round]⟩
/-- the masks that come -/
structure Mk (m : Nat) : Prop where
  four : m = 7 ∨ m = 31 ∨ m = 127 ∨ m = 511
  odd : m % 2 = 1
  le : m ≤ 511
  meets : Meets m
theorem mk_kit {m : Nat} (h : MaskOk m) : Mk m := ⟨by rcases h with h | h | h <;> omega, mask_odd h, by rcases h with h | h | h <;> omega, fun i j hi hj => lcgI_all h hi hj⟩
theorem mk7 : Mk 7 := mk_kit (.inl rfl)
theorem mk31 : Mk 31 := mk_kit (.inr (.inl rfl))
theorem mk127 : Mk 127 := mk_kit (.inr (.inr rfl))
theorem mk511 : Mk 511 := ⟨.inr (.inr (.inr rfl)), rfl, Nat.le_refl _, meets511⟩
section
variable {m : Nat} {t : SetTable} {hs : List Int} {h : Int} {K : Nat}
theorem in_table : way m h K ≤ m := by
  have h1 : SetTable.bits h % (m + 1) ≤ m := Nat.le_of_lt_succ (Nat.mod_lt _ (Nat.succ_pos _))
  obtain ⟨r1, r2, _⟩ := runEnd_bd h1
  have := nth_in (m := m) K (runAt m (SetTable.bits h % (m + 1)) (SetTable.bits h)) (by
    show SetTable.bits h % (m + 1) + (SetTable.runEnd m (SetTable.bits h % (m + 1)) - SetTable.bits h % (m + 1)) ≤ m
    omega)
  exact Nat.le_trans (Nat.le_add_right _ _) this
/-- a run that begins at a place -/
theorem begins (W : Mk m) (h : Int) {j : Nat} (hj : j ≤ m) : ∃ n, n ≤ m + 12 ∧ runI m (SetTable.bits h) n = j := by
  obtain ⟨k, hk, e⟩ := W.meets _ _ (runI_le m (SetTable.bits h) 12) hj
  exact ⟨12 + k, by omega, (runI_tail (bits_lt h) k).trans e⟩
/-- the first step that has what some place has -/
theorem least_step {p : Nat → Prop} (W : Mk m) (h : Int) {j : Nat} (hj : j ≤ m) (hp : p j) : ∃ K, K < 10 * SetTable.turns m ∧ p (way m h K) ∧ ∀ k, k < K → ¬ p (way m h k) := by
  obtain ⟨n, hn, e⟩ := begins W h hj
  obtain ⟨k, hk, e2⟩ := run_nth m (SetTable.bits h) n
  have e3 : way m h k = j := by
    show (nth m (runAt m (SetTable.bits h % (m + 1)) (SetTable.bits h)) k).j = j
    rw [e2]
    exact e
  obtain ⟨K, h1, h2, h3⟩ := st_least (p := fun k => p (way m h k)) k (show p (way m h k) by rw [e3]; exact hp)
  exact ⟨K, Nat.lt_of_le_of_lt h1 (by unfold SetTable.turns; omega), h2, h3⟩
/-- what has a hash lies on its way with no gap before it -/
structure Fnd (t : SetTable) (hs : List Int) : Prop where
  msk : Mk t.mask
  up : Ris t.place.toList
  none : t.dummies = #[]
  len : t.place.toList.length = hs.length
  inn : ∀ x ∈ t.place.toList, x ≤ t.mask
  way : ∀ (i : Nat) (h : Int) (j : Nat), hs[i]? = some h → t.place.toList[i]? = some j → ∃ k, way t.mask h k = j ∧ ∀ k', k' < k → L2.way t.mask h k' ∈ t.place.toList
theorem Fnd.gap (T : Fnd t hs) (hl : hs.length ≤ t.mask) (h : Int) : ∃ K, K < 10 * SetTable.turns t.mask ∧ L2.way t.mask h K ∉ t.place.toList ∧ ∀ k, k < K → L2.way t.mask h k ∈ t.place.toList := by
  obtain ⟨j, hj, hn⟩ := st_missing t.place.toList (t.mask + 1) (by rw [T.len]; omega)
  obtain ⟨K, h1, h2, h3⟩ := least_step (p := fun x => x ∉ t.place.toList) T.msk h (Nat.le_of_lt_succ hj) hn
  exact ⟨K, h1, h2, fun k hk => Classical.not_not.mp (h3 k hk)⟩
/-- what has the hash lies before the gap -/
theorem Fnd.ahead (T : Fnd t hs) (hK : L2.way t.mask h K ∉ t.place.toList) {i j : Nat} (hi : hs[i]? = some h) (hj : t.place.toList[i]? = some j) : ∃ k, k < K ∧ L2.way t.mask h k = j := by
  obtain ⟨k, e, g⟩ := T.way i h j hi hj
  refine ⟨k, Nat.lt_of_not_le fun hle => ?_, e⟩
  rcases Nat.lt_or_eq_of_le hle with c | c
  · exact hK (g K c)
  · rw [c, e] at hK
    exact hK (List.mem_of_getElem? hj)
/-- one put into the gap -/
theorem Fnd.put (T : Fnd t hs) (hK : L2.way t.mask h K ∉ t.place.toList) (hb : ∀ k, k < K → L2.way t.mask h k ∈ t.place.toList) :
    ∃ p, t.put (L2.way t.mask h K) = ((t.put (L2.way t.mask h K)).1, p) ∧ p ≤ hs.length ∧ Fnd (t.put (L2.way t.mask h K)).1 (hs.take p ++ h :: hs.drop p) ∧
      (t.put (L2.way t.mask h K)).1.mask = t.mask ∧ (t.put (L2.way t.mask h K)).1.led = t.led ∧ (t.put (L2.way t.mask h K)).1.plain = t.plain ∧ (t.put (L2.way t.mask h K)).1.fill = hs.length + 1 := by
  have hin : L2.way t.mask h K ≤ t.mask := in_table
  generalize hj : L2.way t.mask h K = j at hK hin ⊢
  have hp : SetTable.below t.place j ≤ t.place.toList.length := by
    obtain ⟨c, _, _⟩ := below_cut T.up j
    rwa [Array.length_toList]
  have hp' : SetTable.below t.place j ≤ hs.length := T.len ▸ hp
  have e := put_place t j
  have sub : ∀ x, x ∈ t.place.toList → x ∈ (t.put j).1.place.toList := fun x hx => by rw [e]; exact mem_ins.mpr (.inr hx)
  have hlen : (t.put j).1.place.toList.length = hs.length + 1 := by rw [e, len_ins _ hp, T.len]
  refine ⟨SetTable.below t.place j, rfl, hp', ⟨T.msk, ris_insert T.up fun z => hK (List.mem_of_getElem? (by rw [Array.getElem?_toList]; exact z)), put_dm T.none j, by rw [hlen, len_ins _ hp'], fun x hx => ?_, fun i h' j' h1 h2 => ?_⟩, rfl, rfl, rfl, ?_⟩
  · rw [e] at hx
    rcases mem_ins.mp hx with rfl | hx
    · exact hin
    · exact T.inn x hx
  · show ∃ k, L2.way t.mask h' k = j' ∧ ∀ k', k' < k → L2.way t.mask h' k' ∈ (t.put j).1.place.toList
    rw [tins_get hs hp'] at h1
    rw [e, tins_get _ hp] at h2
    have old : ∀ i', hs[i']? = some h' → t.place.toList[i']? = some j' → ∃ k, L2.way t.mask h' k = j' ∧ ∀ k', k' < k → L2.way t.mask h' k' ∈ (t.put j).1.place.toList := fun i' a b => by
      obtain ⟨k, q, r⟩ := T.way i' h' j' a b
      exact ⟨k, q, fun k' hk' => sub _ (r k' hk')⟩
    split at h1
    · rename_i c
      rw [if_pos c] at h2
      exact old i h1 h2
    · rename_i c
      rw [if_neg c] at h2
      split at h1
      · rename_i d
        rw [if_pos d] at h2
        cases h1
        cases h2
        exact ⟨K, hj, fun k' hk' => sub _ (hb k' hk')⟩
      · rename_i d
        rw [if_neg d] at h2
        exact old (i - 1) h1 h2
  · show (t.put j).1.place.size + (t.put j).1.dummies.size = _
    rw [put_dm T.none j, ← Array.length_toList, hlen]
    rfl
/-- the first free place of the way is what is found -/
theorem free_at (W : Mk m) (owner : Array (Option Nat)) (h : Int) {j : Nat} (hj : j ≤ m) (hf : oAt owner j = none) :
    ∃ K, SetTable.layClean.free m owner (SetTable.turns m) (SetTable.bits h % (m + 1)) (SetTable.bits h) = some (way m h K) ∧ oAt owner (way m h K) = none ∧ ∀ k, k < K → oAt owner (way m h k) ≠ none := by
  obtain ⟨n, hn, e⟩ := begins W h hj
  have e1 : way m h (off m (SetTable.bits h % (m + 1)) (SetTable.bits h) n) = j := by
    show (nth m _ _).j = j
    rw [nth_off, itL_run]
    exact e
  obtain ⟨K, k1, k2, k3⟩ := st_least (p := fun k => oAt owner (way m h k) = none) _ (show oAt owner (way m h (off m (SetTable.bits h % (m + 1)) (SetTable.bits h) n)) = none by rw [e1]; exact hf)
  refine ⟨K, free_spec m owner _ n _ _ K (by unfold SetTable.turns; omega) k1 (fun k hk => ?_) (by rw [show oAt owner (nth m _ K).j = none from k2]; rfl), k2, k3⟩
  cases q : oAt owner (nth m (runAt m (SetTable.bits h % (m + 1)) (SetTable.bits h)) k).j with
  | none => exact absurd q (k3 k hk)
  | some _ => rfl
/-- one more laid -/
theorem lay_one (W : Mk m) {done : List Int} {owner : Array (Option Nat)} (O : Own m done owner) (hl : done.length ≤ m) (h : Int) :
    ∃ owner', stepF m (some (owner, done.length)) h = some (owner', (done ++ [h]).length) ∧ Own m (done ++ [h]) owner' := by
  obtain ⟨ps, p1, p2⟩ := O.ps
  obtain ⟨j0, h0, n0⟩ := st_missing ps (m + 1) (by omega)
  have f0 : oAt owner j0 = none := Classical.byContradiction fun z => n0 (p2 j0 (Nat.le_of_lt_succ h0) z)
  obtain ⟨K, e1, e2, e3⟩ := free_at W owner h (Nat.le_of_lt_succ h0) f0
  have hm : way m h K ≤ m := in_table
  generalize hj : way m h K = j at e1 e2 hm
  have new : oAt (owner.setIfInBounds j (some done.length)) j = some done.length := oAt_set_self _ (by rw [O.sz]; exact Nat.lt_succ_of_le hm)
  have old : ∀ i, oAt owner i ≠ none → i ≠ j ∧ oAt (owner.setIfInBounds j (some done.length)) i = oAt owner i := fun i hi => by
    have : i ≠ j := fun z => hi (z ▸ e2)
    exact ⟨this, oAt_set_ne _ this⟩
  refine ⟨_, (stepF_some e1).trans (by rw [List.length_append]; rfl), ⟨by rw [Array.size_setIfInBounds]; exact O.sz, fun i k hi q => ?_, fun k hk => ?_, j :: ps, by rw [List.length_cons, List.length_append, p1]; rfl, fun i hi q => ?_⟩⟩
  · by_cases c : i = j
    · subst c
      rw [new] at q
      cases q
      refine ⟨h, K, by rw [List.getElem?_append_right (Nat.le_refl _), Nat.sub_self]; rfl, hj, fun k' hk' => ?_⟩
      rw [(old _ (e3 k' hk')).2]
      exact e3 k' hk'
    · rw [oAt_set_ne _ c] at q
      obtain ⟨h', K', a1, a2, a3⟩ := O.at_ i k hi q
      refine ⟨h', K', by rw [List.getElem?_append_left (List.getElem?_eq_some_iff.mp a1).1]; exact a1, a2, fun k' hk' => ?_⟩
      rw [(old _ (a3 k' hk')).2]
      exact a3 k' hk'
  · rw [List.length_append] at hk
    by_cases c : k < done.length
    · obtain ⟨i, hi, q⟩ := O.all k c
      exact ⟨i, hi, (old i (by rw [q]; exact fun z => nomatch z)).2.trans q⟩
    · have : k = done.length := by
        have : k < done.length + 1 := hk
        omega
      exact ⟨j, hm, this ▸ new⟩
  · by_cases c : i = j
    · rw [c]; exact List.mem_cons_self
    · rw [oAt_set_ne _ c] at q
      exact List.mem_cons_of_mem _ (p2 i hi q)
theorem lay_all (W : Mk m) : ∀ (rest done : List Int) (owner : Array (Option Nat)), Own m done owner → done.length + rest.length ≤ m →
    ∃ owner', rest.foldl (stepF m) (some (owner, done.length)) = some (owner', (done ++ rest).length) ∧ Own m (done ++ rest) owner'
  | [], done, owner, O, _ => ⟨owner, by rw [List.append_nil]; rfl, by rw [List.append_nil]; exact O⟩
  | h :: rest, done, owner, O, hl => by
    have hl' : done.length + (rest.length + 1) ≤ m := hl
    obtain ⟨o1, e1, O1⟩ := lay_one W O (by omega) h
    obtain ⟨o2, e2, O2⟩ := lay_all W rest (done ++ [h]) o1 O1 (by rw [List.length_append]; show done.length + 1 + _ ≤ _; omega)
    have e : done ++ [h] ++ rest = done ++ h :: rest := by rw [List.append_assoc]; rfl
    rw [e] at e2 O2
    exact ⟨o2, by rw [List.foldl_cons, e1, e2], O2⟩
theorem lay_ok (W : Mk m) {hs : Array Int} (hn : hs.size ≤ m) : ∃ owner, SetTable.layClean m hs = some owner ∧ Own m hs.toList owner := by
  obtain ⟨owner, e, O⟩ := lay_all W hs.toList [] _ (Own.init m) (by rw [Array.length_toList]; show 0 + hs.size ≤ m; omega)
  rw [List.nil_append] at O
  refine ⟨owner, ?_, O⟩
  rw [layClean_eq, show (some (Array.replicate (m + 1) none, 0) : Option (Array (Option Nat) × Nat)) = some (Array.replicate (m + 1) none, ([] : List Int).length) from rfl, e]
  rfl
/-- the live places and who lies there -/
theorem live_len {owner : Array (Option Nat)} {hs : Array Int} (O : Own m hs.toList owner) : (liveOf m owner).length = hs.size ∧ Ris ((liveOf m owner).map (·.1)) ∧ ((liveOf m owner).map (·.2)).Perm (List.range hs.size) := by
  have up : Ris ((liveOf m owner).map (·.1)) := (ris_live (fun j => owner.getD j none) (List.range (m + 1)) (by unfold Ris; exact List.pairwise_lt_range)).1
  obtain ⟨ps, p1, p2⟩ := O.ps
  have all : ∀ k ∈ List.range hs.size, k ∈ (liveOf m owner).map (·.2) := fun k hk => by
    obtain ⟨j, b1, b2⟩ := O.all k (by rw [Array.length_toList]; exact List.mem_range.mp hk)
    exact List.mem_map.mpr ⟨(j, k), (mem_live O.sz).mpr ⟨b1, b2⟩, rfl⟩
  have nd : ((liveOf m owner).map (·.1)).Nodup := by
    unfold Ris at up
    exact List.Pairwise.imp (fun h => Nat.ne_of_lt h) up
  have le1 := nat_nodup_len ((liveOf m owner).map (·.1)) ps nd fun x hx => by
    obtain ⟨⟨y, k⟩, hq, rfl⟩ := List.mem_map.mp hx
    obtain ⟨b1, b2⟩ := (mem_live O.sz).mp hq
    exact p2 y b1 (by rw [b2]; exact fun z => nomatch z)
  have le2 := nat_nodup_len (List.range hs.size) _ List.nodup_range all
  rw [List.length_map, p1, Array.length_toList] at le1
  rw [List.length_map, List.length_range] at le2
  have e : (liveOf m owner).length = hs.size := Nat.le_antisymm le1 le2
  exact ⟨e, up, perm_range _ _ (by rw [List.length_map, e]) fun k hk => all k (List.mem_range.mpr hk)⟩
theorem relaid_fnd (t : SetTable) {hs : Array Int} {wanted : Nat} (hw : SetTable.sizeAbove wanted - 1 = m) (W : Mk m) (hn : hs.size ≤ m) :
    ∃ t' order, t.relaid hs wanted = some (t', order) ∧ order.toList.Perm (List.range hs.size) ∧ Fnd t' (order.toList.map fun i => hs.getD i 0) ∧ t'.mask = m ∧ t'.led = t.led ∧ t'.plain = t.plain := by
  obtain ⟨owner, e, O⟩ := lay_ok W hn
  obtain ⟨hl, up, pm⟩ := live_len O
  refine ⟨tabOf t m owner, ((liveOf m owner).map (·.2)).toArray, by rw [relaid_eq, hw, e]; rfl, pm, ⟨W, up, rfl, ?_, fun x hx => ?_, fun i h j h1 h2 => ?_⟩, rfl, rfl, rfl⟩
  · show ((liveOf m owner).map (·.1)).length = (((liveOf m owner).map (·.2)).map fun i => hs.getD i 0).length
    rw [List.length_map, List.length_map, List.length_map]
  · have hx' : x ∈ (liveOf m owner).map (·.1) := hx
    obtain ⟨⟨y, k⟩, hq, rfl⟩ := List.mem_map.mp hx'
    exact ((mem_live O.sz).mp hq).1
  · have h1' : (((liveOf m owner).map (·.2)).map fun i => hs.getD i 0)[i]? = some h := h1
    have h2' : ((liveOf m owner).map (·.1))[i]? = some j := h2
    rw [List.getElem?_map, List.getElem?_map] at h1'
    rw [List.getElem?_map] at h2'
    obtain ⟨⟨y, k⟩, hq⟩ : ∃ q, (liveOf m owner)[i]? = some q := by
      cases hq : (liveOf m owner)[i]? with
      | none => rw [hq] at h2'; cases h2'
      | some q => exact ⟨q, rfl⟩
    rw [hq] at h1' h2'
    have ej : y = j := Option.some.inj h2'
    have eh : hs.getD k 0 = h := Option.some.inj h1'
    subst ej
    obtain ⟨b1, b2⟩ := (mem_live O.sz).mp (List.mem_of_getElem? hq)
    obtain ⟨h0, K, a1, a2, a3⟩ := O.at_ y k b1 b2
    have e0 : h0 = h := by
      rw [← eh, Array.getD_eq_getD_getElem?, ← Array.getElem?_toList, a1]
      rfl
    subst e0
    refine ⟨K, a2, fun k' hk' => ?_⟩
    cases q : oAt owner (way m h0 k') with
    | none => exact absurd q (a3 k' hk')
    | some x => exact List.mem_map.mpr ⟨(way m h0 k', x), (mem_live O.sz).mpr ⟨in_table, q⟩, rfl⟩
end
end VW
set_option maxRecDepth 100000
namespace VW
open PySem L2 PySem.Spec PyProof.Rows
/-- the state of a search, so many steps on -/
abbrev pr (m : Nat) (h : Int) (c : Nat) : SetTable.Probe := nth m (runAt m (SetTable.bits h % (m + 1)) (SetTable.bits h)) c
theorem pr_on (m : Nat) (h : Int) (c q : Nat) : nth m (pr m h c) q = pr m h (c + q) := (nth_add m c _ q).symm
theorem pr_clean (m : Nat) (h : Int) : ∀ c, (pr m h c).dummy = none
  | 0 => rfl
  | c + 1 => by
    have ih := pr_clean m h c
    show (nth m _ (c + 1)).dummy = none
    rw [nth_succ]
    unfold adv
    split
    · exact ih
    · exact ih
section
variable {P : Program} {w : World} {A : Around} {E : Value → Shared → Prop} {s : Shared} {a : Addr} {L : List (Addr × List Int)} {es : Array (Int × Value)} {ep : Nat} {t : SetTable}
/-- the set at a has the tuples L, in the order of their places -/
structure Tups (P : Program) (w : World) (h : Heap) (a : Addr) (L : List (Addr × List Int)) (es : Array (Int × Value)) (ep : Nat) (t : SetTable) : Prop where
  obj : ∃ o, h.get? a = some o ∧ o.ExactSet ∧ o.data = .set es ep t
  row : es.toList = rowsOf P w L
  fnd : Fnd t (L.map fun p => thash P w p.2)
  once : (L.map (·.2)).Nodup
  each : ∀ p ∈ L, IsT P w h p.2 p.1
  plain : t.plain = true
  room : L.length * 5 < t.mask * 3
theorem Tups.size (R : Tups P w s.heap a L es ep t) : es.size = L.length := by
  rw [← Array.length_toList, R.row]
  unfold rowsOf
  rw [List.length_map]
theorem Tups.places (R : Tups P w s.heap a L es ep t) : t.place.toList.length = L.length := by rw [R.fnd.len, List.length_map]
theorem fits_of (hd : t.dummies = #[]) (hz : t.place.size = es.size) (hl : es.size ≤ t.mask) : t.fits es.size = true := by
  unfold SetTable.fits SetTable.fill
  rw [hd, Bool.and_eq_true, beq_iff_eq, decide_eq_true_eq]
  exact ⟨hz, by rw [hz]; exact hl⟩
theorem Tups.fits (R : Tups P w s.heap a L es ep t) : t.fits es.size = true := by
  have h1 := R.places
  have h2 := R.size
  have h3 := R.room
  rw [Array.length_toList] at h1
  exact fits_of R.fnd.none (h1.trans h2.symm) (by omega)
theorem Tups.at (R : Tups P w s.heap a L es ep t) {i : Nat} {p : Addr × List Int} (h : L[i]? = some p) : es[i]? = some (thash P w p.2, Value.ref p.1) := by
  rw [← Array.getElem?_toList, R.row]
  unfold rowsOf
  rw [List.getElem?_map, h]
  rfl
theorem steady (h : Mk t.mask) : ¬ t.gaveWay = true := by
  unfold SetTable.gaveWay
  rw [h.odd]
  decide
/-- the search for a key, from some step of its way on -/
theorem seek (R : Tups P w s.heap a L es ep t) {x : Addr} {k : List Int} (hx : IsT P w s.heap k x) (hu : A.units < cLine) {K : Nat} (hf : K < 10 * SetTable.turns t.mask)
    (gap : L2.way t.mask (thash P w k) K ∉ t.place.toList) (full : ∀ c, c < K → L2.way t.mask (thash P w k) c ∈ t.place.toList) {Q : SetFound → Shared → Prop}
    (yes : k ∈ L.map (·.2) → Q (.there none) s) (no : k ∉ L.map (·.2) → Q (.free (L2.way t.mask (thash P w k) K) false) s) :
    ∀ (fuel c : Nat) (at_ : Option SetTable.Probe), at_.getD (t.probeStart (thash P w k)) = pr t.mask (thash P w k) c → c ≤ K → K < c + fuel →
      (∀ (i : Nat) p, L[i]? = some p → p.2 = k → ∃ b, c ≤ b ∧ b < K ∧ t.place.toList[i]? = some (L2.way t.mask (thash P w k) b)) → wpAny (model P w) A (setSearchFrom a (.ref x) (thash P w k) true fuel at_) Q E s := by
  obtain ⟨o, ho, hex, hd⟩ := R.obj
  have hashes : ∀ (i : Nat) p, L[i]? = some p → (fun i => (es[i]?.map (·.1)).getD 0) i = thash P w p.2 := fun i p hp => by
    show (es[i]?.map (·.1)).getD 0 = _
    rw [R.at hp]
    rfl
  intro fuel
  induction fuel with
  | zero => intro c at_ _ h1 h2; exact absurd h2 (by omega)
  | succ fuel ih =>
    intro c at_ hat h1 h2 hre
    rw [setSearchFrom_succ]
    refine wpAny_bind (wpAny_setState_of ho hd R.fits ?_)
    dsimp only
    refine wp_if_neg (steady R.fnd.msk) ?_
    have jj : ∀ q, (nth t.mask (pr t.mask (thash P w k) c) q).j = L2.way t.mask (thash P w k) (c + q) := fun q => congrArg SetTable.Probe.j (pr_on _ _ c q)
    have met := go_spec t R.fnd.up R.fnd.none (fun i => (es[i]?.map (·.1)).getD 0) (thash P w k) (10 * SetTable.turns t.mask) (K - c) (pr t.mask (thash P w k) c) (pr_clean _ _ c) (by omega)
      (fun q hq => by rw [jj]; exact full (c + q) (by omega)) (by rw [jj, show c + (K - c) = K by omega]; exact gap)
    rcases met with ⟨q, i, q1, q2, q3, q4, q5⟩ | ⟨q4, q5⟩
    · -- something with the hash lies on the way
      have hp : t.probe (fun i => (es[i]?.map (·.1)).getD 0) (thash P w k) (at_.getD (t.probeStart (thash P w k))) = some (.candidate (L2.way t.mask (thash P w k) (c + q)) i (pr t.mask (thash P w k) (c + (q + 1)))) := by
        rw [hat, ← jj, ← pr_on]
        exact q5
      rw [hp]
      dsimp only
      rw [jj] at q2
      have il : i < L.length := by
        rw [← R.places]
        exact (List.getElem?_eq_some_iff.mp q2).1
      obtain ⟨p, hLi⟩ : ∃ p, L[i]? = some p := ⟨_, List.getElem?_eq_getElem il⟩
      have pm : p ∈ L := List.mem_of_getElem? hLi
      have live : t.slot (L2.way t.mask (thash P w k) (c + q)) = .live i := slot_live R.fnd.up q2
      have goon : wpAny (model P w) A (searchRest a (.ref x) (thash P w k) true fuel es t (L2.way t.mask (thash P w k) (c + q)) i (pr t.mask (thash P w k) (c + (q + 1)))) Q E s := by
        unfold searchRest
        rw [R.at hLi]
        dsimp only
        refine wpAny_bind (wpAny_holding (wpAny_eqBool_tuple hu (R.each p pm) hx ?_))
        refine wpAny_bind (wpAny_setState_of ho hd R.fits ?_)
        dsimp only
        by_cases e : p.2 = k
        · exact wp_if_pos (by simp [e]) (wpAny_pure (yes (List.mem_map.mpr ⟨p, pm, e⟩)))
        · refine wp_if_neg (by simp [e]) ?_
          rw [sameMem]
          simp only [if_true, live, R.at hLi]
          refine wpAny_bind (wpAny_isSame_ref_self (wpAny_bind (wpAny_pure ?_)))
          simp only [if_true]
          refine wp_if_neg (by simp [e]) ?_
          refine ih (c + (q + 1)) (some (pr t.mask (thash P w k) (c + (q + 1)))) rfl (by omega) (by omega) fun i0 p0 g1 g2 => ?_
          obtain ⟨b, b1, b2, b3⟩ := hre i0 p0 g1 g2
          refine ⟨b, Nat.lt_of_not_le fun hle => ?_, b2, b3⟩
          have hle' : b ≤ c + q := hle
          have hb : b - c < q ∨ b = c + q := by omega
          rcases hb with hb | hb
          · exact q4 (b - c) i0 hb (by rw [jj, show c + (b - c) = b by omega]; exact b3) ((hashes i0 p0 g1).trans (congrArg (thash P w) g2))
          · subst hb
            have := slot_live R.fnd.up b3
            rw [live] at this
            cases this
            rw [hLi] at g1
            cases g1
            exact e g2
      by_cases hl : t.led = true
      · exact wp_if_neg (by simp [hl]) goon
      · refine wp_if_pos (by simp [hl]) (wpAny_bind (seen_tup hx (fun y hy => ?_) (wp_if_neg (by decide) goon)))
        obtain ⟨e, he, rfl⟩ := List.mem_map.mp hy
        have he' : e ∈ es.toList := by
          have : e ∈ es ∧ e.1 = thash P w k := by simpa using he
          simpa using this.1
        rw [R.row] at he'
        obtain ⟨p2, hp2, rfl⟩ := List.mem_map.mp he'
        exact ⟨p2.2, p2.1, rfl, R.each p2 hp2⟩
    · -- the gap
      have hp : t.probe (fun i => (es[i]?.map (·.1)).getD 0) (thash P w k) (at_.getD (t.probeStart (thash P w k))) = some (.empty (L2.way t.mask (thash P w k) K) none) := by
        rw [hat, show L2.way t.mask (thash P w k) K = (nth t.mask (pr t.mask (thash P w k) c) (K - c)).j by rw [jj, show c + (K - c) = K by omega]]
        exact q5
      rw [hp]
      refine wpAny_pure (no fun hm => ?_)
      obtain ⟨p0, g0, g2⟩ := List.mem_map.mp hm
      obtain ⟨i0, g1⟩ := List.getElem?_of_mem g0
      obtain ⟨b, b1, b2, b3⟩ := hre i0 p0 g1 g2
      exact q4 (b - c) i0 (by omega) (by rw [jj, show c + (b - c) = b by omega]; exact b3) ((hashes i0 p0 g1).trans (congrArg (thash P w) g2))
theorem seek_all (R : Tups P w s.heap a L es ep t) {x : Addr} {k : List Int} (hx : IsT P w s.heap k x) (hu : A.units < cLine) {Q : SetFound → Shared → Prop} (yes : k ∈ L.map (·.2) → Q (.there none) s)
    (no : ∀ K, k ∉ L.map (·.2) → L2.way t.mask (thash P w k) K ∉ t.place.toList → (∀ c, c < K → L2.way t.mask (thash P w k) c ∈ t.place.toList) → Q (.free (L2.way t.mask (thash P w k) K) false) s) :
    wpAny (model P w) A (setSearch a (.ref x) (thash P w k) true) Q E s := by
  have h0 := R.room
  obtain ⟨K, h1, h2, h3⟩ := R.fnd.gap (by rw [List.length_map]; omega) (thash P w k)
  have h4 : 10 * SetTable.turns t.mask < 100000 := by
    have := R.fnd.msk.le
    unfold SetTable.turns
    omega
  refine seek R hx hu h1 h2 h3 yes (fun hn => no K hn h2 h3) 100000 0 none rfl (Nat.zero_le _) (by omega) fun i p hp hk => ?_
  have il : i < t.place.toList.length := by
    rw [R.places]
    exact (List.getElem?_eq_some_iff.mp hp).1
  have hj := List.getElem?_eq_getElem il
  obtain ⟨b, b1, b2⟩ := R.fnd.ahead h2 (i := i) (by rw [List.getElem?_map, hp, ← hk]; rfl) hj
  exact ⟨b, Nat.zero_le _, b1, by rw [hj, b2]⟩
/-- the sizes that come -/
theorem next_size (n : Nat) : (n = 5 → SetTable.sizeAbove (SetTable.grown n) = 32) ∧ (n = 19 → SetTable.sizeAbove (SetTable.grown n) = 128) ∧ (n = 77 → SetTable.sizeAbove (SetTable.grown n) = 512) :=
  ⟨fun h => by subst h; decide +kernel, fun h => by subst h; decide +kernel, fun h => by subst h; decide +kernel⟩
/-- what the tuples' set holds, its table perhaps too full -/
structure Laid (P : Program) (w : World) (h : Heap) (a : Addr) (L : List (Addr × List Int)) (es : Array (Int × Value)) (ep : Nat) (t : SetTable) : Prop where
  obj : ∃ o, h.get? a = some o ∧ o.ExactSet ∧ o.data = .set es ep t
  row : es.toList = rowsOf P w L
  fnd : Fnd t (L.map fun p => thash P w p.2)
  once : (L.map (·.2)).Nodup
  each : ∀ p ∈ L, IsT P w h p.2 p.1
  plain : t.plain = true
theorem grow {m wanted : Nat} (R : Laid P w s.heap a L es ep t) (hl : L.length ≤ t.mask) (hw : SetTable.sizeAbove wanted = m + 1) (W : Mk m) (hm : L.length * 5 < m * 3) {Q : Unit → Shared → Prop}
    (h : ∀ h' L' es' ep' t', Heap.SameBut a s.heap h' → Tups P w h' a L' es' ep' t' → L'.Perm L → Q () { s with heap := h' }) : wpAny (model P w) A (setRelay a wanted) Q E s := by
  obtain ⟨o, ho, hex, hd⟩ := R.obj
  have hz : es.size = L.length := by
    rw [← Array.length_toList, R.row]
    unfold rowsOf
    rw [List.length_map]
  have hpl : t.place.size = es.size := by
    have := R.fnd.len
    rw [Array.length_toList, List.length_map] at this
    rw [this, hz]
  obtain ⟨t', order, e1, e2, e3, e4, e5, e6⟩ := relaid_fnd t (hs := es.map (·.1)) (wanted := wanted) (m := m) (by rw [hw]; rfl) W (by rw [Array.size_map, hz]; omega)
  rw [Array.size_map, hz] at e2
  obtain ⟨L2, r1, r2, r3⟩ := order_rows L es order R.row e2
  rw [← r3] at e3
  have hsame : (order.filterMap (es[·]?)).size = es.size := by
    rw [← Array.length_toList, r1, hz, ← r2.length_eq]
    unfold rowsOf
    rw [List.length_map]
  have big : m + 1 ≤ sizeLine := by
    rw [sizeLine_eq]
    have := W.le
    omega
  rw [setRelay_eq]
  refine wpAny_bind (wpAny_setState_of ho hd (fits_of R.fnd.none hpl (by omega)) ?_)
  dsimp only
  refine wp_if_neg (by rw [hw]; omega) ?_
  rw [e1]
  dsimp only
  refine wpAny_bind (wp_if_neg (by rw [hsame]; simp) (wpAny_pure ?_))
  dsimp only
  refine wpAny_storeSet_of ho hd ?_ (by rw [hsame]; omega)
  have sb : Heap.SameBut a s.heap (s.heap.update a (Obj.putSet (order.filterMap (es[·]?)) t')) := Heap.SameBut.update ..
  exact h _ L2 _ (ep + 1) t' sb ⟨⟨_, store_at ho hd, hex, rfl⟩, r1, e3, (r2.map (·.2)).nodup_iff.mpr R.once, fun p hp => isT_same (R.each p (r2.mem_iff.mp hp)) ho hd sb, e6.trans R.plain, by rw [r2.length_eq, e4]; exact hm⟩ r2
theorem join (R : Tups P w s.heap a L es ep t) {x : Addr} {k : List Int} (hx : IsT P w s.heap k x) (hu : A.units < cLine) (few : L.length < 200) {Q : Bool → Shared → Prop}
    (h : ∀ b h' L' es' ep' t', Heap.SameBut a s.heap h' → Tups P w h' a L' es' ep' t' → (k ∈ L.map (·.2) → L' = L) → (k ∉ L.map (·.2) → L'.Perm ((x, k) :: L)) → Q b { s with heap := h' }) :
    wpAny (model P w) A (setAddHashed a (.ref x) (thash P w k)) Q E s := by
  obtain ⟨o, ho, hex, hd⟩ := R.obj
  have hz := R.size
  have hr := R.room
  unfold setAddHashed
  refine wpAny_holding ?_
  rw [show (100000 : Nat) = 99999 + 1 from rfl, setAddHashedIn_succ]
  refine wpAny_bind (wpAny_setState_of ho hd R.fits ?_)
  dsimp only
  refine wp_if_neg (by simp [byScan, Value.scannable]) ?_
  refine wpAny_bind (seek_all R hx hu (fun hm => wpAny_pure (h false s.heap L es ep t (Heap.SameBut.refl a s.heap) R (fun _ => rfl) fun z => absurd hm z)) fun K hm gap full => ?_)
  dsimp only
  refine wpAny_bind (wpAny_setState_of ho hd R.fits ?_)
  dsimp only
  obtain ⟨p, p1, p2, p3, p4, p5, p6, p7⟩ := R.fnd.put gap full
  generalize ht1 : (t.put (L2.way t.mask (thash P w k) K)).1 = t1 at p1 p3 p4 p5 p6 p7
  rw [p1]
  dsimp only
  have pl1 : t1.plain = true := p6.trans R.plain
  refine wp_if_pos pl1 (wpAny_bind (hashBy_tup hx ?_))
  simp only [if_true]
  have pm := put_perm L p (x, k)
  have row1 : (SetTable.insertAt es p (thash P w k, Value.ref x)).toList = rowsOf P w (L.take p ++ (x, k) :: L.drop p) := by rw [SetTable.toList_insertAt, rows_put, R.row]
  have fnd1 : Fnd t1 ((L.take p ++ (x, k) :: L.drop p).map fun p => thash P w p.2) := by
    rw [List.map_append, List.map_cons, List.map_take, List.map_drop]
    exact p3
  have once1 : ((L.take p ++ (x, k) :: L.drop p).map (·.2)).Nodup := (pm.map (·.2)).nodup_iff.mpr (List.nodup_cons.mpr ⟨hm, R.once⟩)
  have len1 := pm.length_eq
  rw [List.length_cons] at len1
  rw [List.length_map] at p7
  generalize hes : SetTable.insertAt es p (thash P w k, Value.ref x) = es1 at row1
  have size1 : es1.size = L.length + 1 := by
    rw [← Array.length_toList, row1, ← len1]
    unfold rowsOf
    rw [List.length_map]
  generalize L.take p ++ (x, k) :: L.drop p = L1 at pm row1 fnd1 once1 len1
  refine wpAny_bind (wpAny_storeSet_of ho hd ?_ (by rw [size1, sizeLine_eq]; omega))
  have sb : Heap.SameBut a s.heap (s.heap.update a (Obj.putSet es1 t1)) := Heap.SameBut.update ..
  have at1 := store_at (es' := es1) (t' := t1) ho hd
  generalize s.heap.update a (Obj.putSet es1 t1) = h1 at sb at1 ⊢
  have each1 : ∀ q ∈ L1, IsT P w h1 q.2 q.1 := fun q hq => by
    rcases List.mem_cons.mp (pm.mem_iff.mp hq) with rfl | hq
    · exact isT_same hx ho hd sb
    · exact isT_same (R.each q hq) ho hd sb
  have laid : Laid P w h1 a L1 es1 (ep + 1) t1 := ⟨⟨_, at1, hex, rfl⟩, row1, fnd1, once1, each1, pl1⟩
  have full1 : t1.tooFull = decide ((L.length + 1) * 5 ≥ t1.mask * 3) := by
    unfold SetTable.tooFull
    rw [p7]
  by_cases hf : (L.length + 1) * 5 ≥ t.mask * 3
  · refine wp_if_pos (show (!false && t1.tooFull) = true by rw [full1, p4, decide_eq_true hf]; rfl) (wpAny_bind ?_)
    rw [hz]
    have last : ∀ {m : Nat}, SetTable.sizeAbove (SetTable.grown (L.length + 1)) = m + 1 → Mk m → (L.length + 1) * 5 < m * 3 → wpAny (model P w) A (setRelay a (SetTable.grown (L.length + 1))) (fun _ s' => wpAny (model P w) A (pure true) Q E s') E { s with heap := h1 } := fun {m} h1' W h2' =>
      grow (s := { s with heap := h1 }) laid (by rw [len1, p4]; omega) h1' W (by rw [len1]; exact h2') fun h2 L2 es2 ep2 t2 sb2 R2 pm2 => wpAny_pure (h true h2 L2 es2 ep2 t2 (sb.trans sb2) R2 (fun z => absurd z hm) fun _ => pm2.trans pm)
    have sz := next_size (L.length + 1)
    have hc : L.length + 1 = 5 ∨ L.length + 1 = 19 ∨ L.length + 1 = 77 := by rcases R.fnd.msk.four with e | e | e | e <;> omega
    rcases hc with c | c | c
    · exact last (m := 31) (sz.1 c) mk31 (by omega)
    · exact last (m := 127) (sz.2.1 c) mk127 (by omega)
    · exact last (m := 511) (sz.2.2 c) mk511 (by omega)
  · refine wp_if_neg (show ¬ (!false && t1.tooFull) = true by rw [full1, p4, decide_eq_false hf]; decide) ?_
    exact wpAny_pure (h true h1 L1 es1 (ep + 1) t1 sb ⟨laid.obj, row1, fnd1, once1, each1, pl1, by rw [len1, p4]; omega⟩ (fun z => absurd z hm) fun _ => pm)
end
end VW
set_option maxRecDepth 100000
namespace VW
open PySem L2 PySem.Spec PyProof.Rows
section
variable {P : Program} {w : World} {A : Around} {E : Value → Shared → Prop} {s : Shared} {a : Addr} {L : List (Addr × List Int)} {es : Array (Int × Value)} {ep : Nat} {t : SetTable}
theorem Tups.moved {h h' : Heap} (R : Tups P w h a L es ep t) (ha : ∀ o, h.get? a = some o → h'.get? a = some o) (ht : ∀ p ∈ L, IsT P w h' p.2 p.1) : Tups P w h' a L es ep t := by
  obtain ⟨o, ho, r⟩ := R.obj
  exact ⟨⟨o, ha o ho, r⟩, R.row, R.fnd, R.once, ht, R.plain, R.room⟩
/-- an empty set's table -/
abbrev t0 (w : World) : SetTable := .fresh 0 0 (!w.params.followText "set-order")
abbrev setObj (w : World) : Obj := { cls := .type "set", dict := none, data := .set #[] 0 (t0 w) }
theorem empty_tups {h : Heap} (ho : h.get? a = some (setObj w)) : Tups P w h a [] #[] 0 (t0 w) :=
  ⟨⟨_, ho, ⟨rfl, rfl, rfl⟩, rfl⟩, rfl, ⟨mk7, List.Pairwise.nil, rfl, rfl, (fun _ hx => nomatch hx), fun i h j hi => by cases hi⟩, List.nodup_nil, (fun _ hp => nomatch hp), rfl, by show 0 * 5 < 7 * 3; decide⟩
/-- the set has the first i, each key once -/
structure Has (ks : List (Addr × List Int)) (i : Nat) (L : List (Addr × List Int)) : Prop where
  key : ∀ x, x ∈ L.map (·.2) ↔ x ∈ (ks.take i).map (·.2)
  sub : ∀ p ∈ L, p ∈ ks
  len : L.length ≤ i
theorem take_one {α : Type} {l : List α} {i : Nat} {x : α} (h : l[i]? = some x) : l.take (i + 1) = l.take i ++ [x] := by
  rw [List.take_add_one, h]
  rfl
theorem Has.next {ks L' : List (Addr × List Int)} {i : Nat} {x : Addr × List Int} (g : Has ks i L) (h : ks[i]? = some x) (c1 : x.2 ∈ L.map (·.2) → L' = L) (c2 : x.2 ∉ L.map (·.2) → L'.Perm (x :: L)) : Has ks (i + 1) L' := by
  have kk : ∀ y, y ∈ (ks.take (i + 1)).map (·.2) ↔ y ∈ (ks.take i).map (·.2) ∨ y = x.2 := fun y => by
    rw [take_one h, List.map_append, List.mem_append]
    exact or_congr Iff.rfl (by rw [List.map_cons, List.map_nil, List.mem_singleton])
  by_cases c : x.2 ∈ L.map (·.2)
  · rw [c1 c]
    refine ⟨fun y => ?_, g.sub, Nat.le_succ_of_le g.len⟩
    rw [kk, ← g.key]
    exact ⟨.inl, fun z => z.elim id fun e => e ▸ c⟩
  · have pm := c2 c
    refine ⟨fun y => ?_, fun p hp => ?_, by rw [pm.length_eq]; exact Nat.succ_le_succ g.len⟩
    · rw [kk, ← g.key, (pm.map (·.2)).mem_iff, List.map_cons, List.mem_cons]
      exact Or.comm
    · rcases List.mem_cons.mp (pm.mem_iff.mp hp) with rfl | hp
      · exact List.mem_of_getElem? h
      · exact g.sub p hp
/-- the loop that puts in what is walked -/
theorem fill {I : Addr} {fp wr : List Addr} {G : Array GenState → Array GenState → Prop} {n : Nat} {Pv : Nat → Value → Prop} {St : Nat → Shared → Prop} {R : Result → Shared → Prop}
    (W : WalksS P w A.in1 I fp wr G n Pv St) (hu : A.in1.units < cLine) (S : Addr) (hSf : S ∉ fp) (ks : List (Addr × List Int)) (few : ks.length < 200) (hn : n = ks.length) (hval : ∀ i v, Pv i v → ∃ p, ks[i]? = some p ∧ v = .ref p.1)
    (h0 : Heap) (hk : ∀ p ∈ ks, IsT P w h0 p.2 p.1) (hS0 : h0.get? S = none) (hw0 : ∀ b ∈ wr, h0.get? b = none) (k : Nat) :
    ∀ (i : Nat) (s : Shared), i + k = n → St i s → (∀ b o, h0.get? b = some o → s.heap.get? b = some o) → (∃ L es ep t, Tups P w s.heap S L es ep t ∧ Has ks i L) →
      (∀ s' L es ep t, Moved (S :: wr) G s s' → Tups P w s'.heap S L es ep t → Has ks n L → (∀ b o, h0.get? b = some o → s'.heap.get? b = some o) → R (.ok (.ret .none)) s') →
      codeAny (model P w) A (.builtin "set.update.loop" ⟨[.ref S, .ref I], []⟩) R s := by
  have hSw : S ∉ wr := fun h => hSf (W.sub _ h)
  have wide : ∀ b ∈ wr, b ∈ S :: wr := fun b hb => List.mem_cons_of_mem _ hb
  have on : ∀ {s s' : Shared}, Moved wr G s s' → (∀ b o, h0.get? b = some o → s.heap.get? b = some o) → ∀ b o, h0.get? b = some o → s'.heap.get? b = some o := fun hm hkp b o e => by
    refine hm.heap b o (fun hb => ?_) (hkp b o e)
    rw [hw0 b hb] at e
    cases e
  induction k with
  | zero =>
    intro i s hi hst hkp ⟨L, es, ep, t, hS, g⟩ hR
    rw [Nat.add_zero] at hi
    subst hi
    refine codeAny_builtin F.entry_set_update_loop ?_
    rw [Around.under_plainId F.plain_set_update_loop _]
    refine wpAny_bind (W.done s _ _ hst fun s' hm => ?_)
    have hkp' := on hm hkp
    exact wpAny_pure (hR s' L es ep t (hm.mono wide) (hS.moved (fun o e => hm.heap S o hSw e) fun p hp => isT_keep (hk p (g.sub p hp)) hkp') g hkp')
  | succ k ih =>
    intro i s hi hst hkp ⟨L, es, ep, t, hS, g⟩ hR
    refine codeAny_builtin F.entry_set_update_loop ?_
    rw [Around.under_plainId F.plain_set_update_loop _]
    refine wpAny_bind (W.item i s _ _ (by omega) hst fun v s' hP hst' hm => ?_)
    obtain ⟨p, hp, rfl⟩ := hval i v hP
    have hkp' := on hm hkp
    have hx : IsT P w s'.heap p.2 p.1 := isT_keep (hk p (List.mem_of_getElem? hp)) hkp'
    have hS' : Tups P w s'.heap S L es ep t := hS.moved (fun o e => hm.heap S o hSw e) fun q hq => isT_keep (hk q (g.sub q hq)) hkp'
    refine wpAny_bind (wpAny_holding ?_)
    unfold setAdd
    refine wpAny_holding (wpAny_bind (wpAny_pyHash_tuple hu hx ?_))
    refine join (s := { s' with toks := s'.toks + (p.2.length + 1) }) hS' hx hu (by have := g.len; omega) fun b h' L' es' ep' t' same hS2 c1 c2 => ?_
    have hkp2 : ∀ b o, h0.get? b = some o → h'.get? b = some o := fun b o e => (same.2 b fun z => by rw [z, hS0] at e; cases e).trans (hkp' b o e)
    refine wpAny_pure ⟨plainId_quiet F.plain_set_update_loop _, ih (i + 1) _ (by omega) (W.frame _ s' _ _ hst' (Nat.le_add_right _ _) fun b hb o e => (same.2 b fun h : b = S => hSf (h ▸ hb)).trans e) hkp2 ⟨L', es', ep', t', hS2, g.next hp c1 c2⟩ fun s'' L2 es2 ep2 t2 hm2 hS'' g'' hkp'' => ?_⟩
    exact hR s'' L2 es2 ep2 t2 (Moved.trans W.gtrans ((hm.mono wide).then_heap (Nat.le_add_right _ _) fun b o hb e => (same.2 b fun h : b = S => hb (h ▸ List.mem_cons_self)).trans e) hm2) hS'' g'' hkp''
theorem beyond (h : Heap) {b : Addr} (hb : h.objs.size ≤ b) : h.get? b = none := by
  cases q : h.get? b with
  | none => rfl
  | some o => exact absurd (Nat.lt_of_lt_of_le (Heap.lt_size q) hb) (Nat.lt_irrefl _)
set_option maxRecDepth 100000 in
set_option maxHeartbeats 3200000 in
/-- set(xs) -/
theorem call_set {l : Addr} {items : Array Value} (ks : List (Addr × List Int)) {Q : Value → Shared → Prop} (hh : A.handled = none) (hu : A.units + 3 < cLine) (hl : s.heap.IsList l items) (hit : items.toList = ks.map fun p => Value.ref p.1)
    (hk : ∀ p ∈ ks, IsT P w s.heap p.2 p.1) (few : ks.length < 200)
    (h : ∀ (h' : Heap) (tk : Nat) L es ep t, Tups P w h' s.heap.objs.size L es ep t → Has ks ks.length L → (∀ b o, s.heap.get? b = some o → h'.get? b = some o) → Q (.ref s.heap.objs.size) { s with heap := h', toks := tk }) :
    wpAny (model P w) A (call (.type "set") [.ref l]) Q E s := by
  have hz : items.size = ks.length := by rw [← Array.length_toList, hit, List.length_map]
  have hval : ∀ (i : Nat) (v : Value), items[i]? = some v → ∃ p, ks[i]? = some p ∧ v = .ref p.1 := fun i v hv => by
    rw [← Array.getElem?_toList, hit, List.getElem?_map] at hv
    cases hq : ks[i]? with
    | none => rw [hq] at hv; cases hv
    | some p => rw [hq] at hv; cases hv; exact ⟨p, rfl, rfl⟩
  obtain ⟨c, tl, hmro⟩ := F.called_set.mro
  have hmade := F.called_set.made
  have hsub := F.called_set.sub
  refine wpAny_call (codeAny_of_tree ?_)
  show wpAny _ _ (callAny (.type "set") _) _ _ _
  refine wpAny_pure ⟨Code.quiet_builtin _ (by decide +kernel), codeAny_builtin F.entry_type_call ?_⟩
  rw [Around.under_plain (weight_type_call_type "set" [.ref l] []) rfl]
  have h1 := F.called_set.notType
  have h2 := F.called_set.canCreate
  have hct := F.typeCall_set_1 (.ref l)
  repeat (any_goals (first | assumption | wp_step))

  refine codeAny_mono (code_set_led1 (.ref l) (E := E) (Q₁ := fun obj s₁ => obj = .ref s.heap.objs.size ∧ s₁ = { s with heap := s.heap.push (setObj w) }) ⟨rfl, rfl⟩) fun r s₁ hr => ?_
  rcases r with er | fl
  · exact hr
  rcases fl with _ | _ | _ | obj
  case ok.ret =>
    obtain ⟨rfl, rfl⟩ := hr
    have hS : (s.heap.push (setObj w)).get? s.heap.objs.size = some (setObj w) := Heap.get?_push_size _ rfl
    have hT : Shared.TypeIs { s with heap := s.heap.push (setObj w) } (.ref s.heap.objs.size) "set" := ⟨_, hS, rfl⟩
    have hli := F.called_set.init.lookup
    have hbi := F.called_set.init.bind (.ref s.heap.objs.size)
    repeat (any_goals (first | assumption | wp_step))

    refine codeAny_mono (codeAny_call_builtin (R := wants (fun r s₂ => r = .none ∧ ∃ h' tk L es ep t, s₂ = { s with heap := h', toks := tk } ∧ Tups P w h' s.heap.objs.size L es ep t ∧ Has ks ks.length L ∧
        (∀ b o, s.heap.get? b = some o → h'.get? b = some o)) E) F.called_set.init.plain F.entry_set_init (check_set_init_1 hT ?_)) fun r₂ s₂ hr₂ => ?_
    · have hlt : l < s.heap.objs.size := by
        obtain ⟨_, e, _⟩ := hl
        exact Heap.lt_size e
      obtain ⟨ol, hol, hcl, nl, hdl⟩ := hl
      obtain ⟨ocls, odict, odata, oslots⟩ := ol
      simp only at hcl hdl
      subst hcl; subst hdl
      have hol' : (s.heap.push (setObj w)).get? l = some { cls := .type "list", dict := odict, data := .seq items nl, slots := oslots } := Heap.get?_push_of_some _ hol
      have hl1 : (s.heap.push (setObj w)).IsList l items := ⟨_, hol', rfl, nl, rfl⟩
      have hsls := F.sub_list_set
      have hslf := F.sub_list_frozenset
      have hne : (Value.type "list" == Value.type "dict") = false := by decide
      unfold Builtin.«set.__init__» noKeywords Builtin.Frozenset.updateFrom
      generalize hPI : pyIter = PI
      wp_walk
      subst hPI

      refine wpAny_pyIter_list hl1 (wpAny_bind (wpAny_runValue ?_))
      have size1 : (s.heap.push (setObj w)).objs.size = s.heap.objs.size + 1 := Heap.size_push ..
      refine fill (Walks.list (by simp [hh]) _ l (by rw [size1]; exact Nat.ne_of_lt (Nat.lt_succ_of_lt hlt)) items).toS hu s.heap.objs.size
        (by rw [size1]; simp only [List.mem_cons, List.mem_singleton, List.not_mem_nil, or_false, not_or]; exact ⟨Nat.ne_of_lt (Nat.lt_succ_self _), Nat.ne_of_gt hlt⟩)
        ks few hz hval s.heap hk (beyond _ (Nat.le_refl _)) (fun b hb => beyond _ (by rw [List.mem_singleton.mp hb, size1]; exact Nat.le_succ _)) items.size 0 _ (Nat.zero_add _) ⟨⟨_, Heap.get?_push_size _ rfl, rfl, rfl⟩, (hl1.push _)⟩
        (fun b o e => Heap.get?_push_of_some _ (Heap.get?_push_of_some _ e)) ⟨[], #[], 0, _, empty_tups (Heap.get?_push_of_some _ hS), fun x => Iff.rfl, (fun p hp => nomatch hp), Nat.le_refl _⟩ fun s' L es ep t hm hS' g hkp => ?_
      obtain ⟨h', g2, d', tk', os'⟩ := s'
      have eg : g2 = s.gens := hm.gens
      have ed : d' = s.drawn := hm.drawn
      have eo : os' = s.os := hm.os
      subst eg; subst ed; subst eo
      rw [hz] at g
      refine wpAny_pure ?_
      show wpAny _ _ (ret Value.none) _ _ _
      exact wpAny_pure ⟨rfl, h', tk', L, es, ep, t, rfl, hS', g, hkp⟩
    · rcases r₂ with er | fl₂
      · exact hr₂
      rcases fl₂ with _ | _ | _ | r
      case ok.ret =>
        obtain ⟨rfl, h', tk, L, es, ep, t, rfl, hS', g, hk'⟩ := hr₂
        repeat (any_goals (first | assumption | wp_step))
        exact h _ _ _ _ _ _ hS' g hk'
      all_goals exact hr₂.elim
  all_goals exact hr.elim
end
end VW
set_option maxRecDepth 100000
namespace VL
open PySem L2 PySem.Spec PyProof.Rows
section
variable {X : Cx} {ρ : Nat → Res} {W : WX} {a : Expr} {fa : FE} {p p2 q pos : Pos}
/-- each once -/
def onceL : List (List Int) → List (List Int)
  | [] => []
  | x :: xs => if x ∈ xs then onceL xs else x :: onceL xs
theorem mem_once : ∀ (xs : List (List Int)) (y : List Int), y ∈ onceL xs ↔ y ∈ xs
  | [], y => Iff.rfl
  | x :: xs, y => by
    unfold onceL
    split
    · rename_i h
      rw [mem_once xs y, List.mem_cons]
      exact ⟨.inr, fun z => z.elim (fun e => e ▸ h) id⟩
    · rw [List.mem_cons, List.mem_cons, mem_once xs y]
theorem once_nodup : ∀ xs : List (List Int), (onceL xs).Nodup
  | [] => List.nodup_nil
  | x :: xs => by
    unfold onceL
    split
    · exact once_nodup xs
    · rename_i h
      exact List.nodup_cons.mpr ⟨fun z => h ((mem_once xs x).mp z), once_nodup xs⟩
def rLenSetT (K : PySem.W.Frag) : V → Hp → VK → Prop := fun x H Q => ∃ (l : Addr) (ks : List (Addr × List Int)), x = V.ref l ∧ SqL K H l (ks.map fun p => V.ref p.1) ∧ (∀ p ∈ ks, SqT K H p.1 (p.2.map V.int)) ∧ ks.length < 200 ∧ Q (.int (onceL (ks.map (·.2))).length) H
theorem nodup_sub : ∀ (l1 l2 : List (List Int)), l1.Nodup → (∀ x ∈ l1, x ∈ l2) → l1.length ≤ l2.length
  | [], _, _, _ => Nat.zero_le _
  | a :: l1, l2, hn, hs => by
    have ha := hs a List.mem_cons_self
    have hn' := List.nodup_cons.mp hn
    have h2 := (List.perm_cons_erase ha).length_eq
    rw [List.length_cons] at h2 ⊢
    have := nodup_sub l1 (l2.erase a) hn'.2 fun x hx => (List.mem_erase_of_ne (fun e => by rw [e] at hx; exact hn'.1 hx)).mpr (hs x (List.mem_cons_of_mem _ hx))
    omega
theorem pe_lenSetT {a : Expr} {ta : TE} (hc : X.calm = true) (hu : X.A.units + 66 < cLine) (hg : Gl X "len") (hm : X.mg "len" = none) (hg2 : Gl X "set") (hm2 : X.mg "set" = none) (ha : PE X a ta)
    (na : starEach [a] X.env = (false, eval a X.env) :: starEach [] X.env := by rfl) : PE X (.Call (.Name "len" p) [.Call (.Name "set" p2) [a] [] q] [] pos) (L2.tUn (rLenSetT X.K) ta) := by
  refine ⟨fun pins s σ H Q I h => ?_⟩
  refine Call_ (ld_blt I hg hm PySem.boot_len ?_)
  refine PyProof.Rows.callWith_builtin1 (PyProof.Rows.args_cons ?_ rfl) rfl rfl
  refine Call_ (ld_blt I hg2 hm2 PyProof.Rows.boot_set ?_)
  refine PyProof.Rows.callWith_type1 (PyProof.Rows.args_cons (thn (ha.run pins s σ H _ I h) fun v s1 ⟨x, H1, I1, r1, q1⟩ => PyProof.Rows.args_nil ?_) na) na rfl
  obtain ⟨l, ks, rfl, hl, hk, hf, q1⟩ := q1
  cases r1
  obtain ⟨its, rv, pl, hz⟩ := I1.list hl
  refine VW.call_set (P := X.prog) (w := X.w) ks (I1.ok.hd hc) (by omega) pl.isList (by simpa using refs_of_vals rv) (fun p hp => I1.isT (hk p hp)) hf fun h' tk L es ep t R g k => ?_
  refine PyProof.Rows.args_nil ?_
  obtain ⟨o, ho, hex, hd⟩ := R.obj
  have hlen : L.length = (onceL (ks.map (·.2))).length := by
    have kk : ∀ x, x ∈ L.map (·.2) ↔ x ∈ onceL (ks.map (·.2)) := fun x => by
      rw [g.key, List.take_length, mem_once]
    have h1 := nodup_sub (onceL (ks.map (·.2))) (L.map (·.2)) (once_nodup _) fun x hx => (kk x).mpr hx
    have h2 := nodup_sub (L.map (·.2)) (onceL (ks.map (·.2))) R.once fun x hx => (kk x).mp hx
    rw [List.length_map] at h1 h2
    omega
  have hle := g.len
  have hsz : es.size = (onceL (ks.map (·.2))).length := by rw [VW.Tups.size (s := { s1 with heap := h', toks := tk }) R, hlen]
  have I2 : Inv X pins σ H1 { s1 with heap := h', toks := tk } := I1.kept fun b o e => k b o e
  refine call_len_set ho hex hd (VW.Tups.fits (s := { s1 with heap := h', toks := tk }) R) (by rw [hsz]; omega) ⟨.int (onceL (ks.map (·.2))).length, H1, I2.tok _, ⟨_, by rw [hsz]⟩, q1⟩
def asIT : List PyData → Option (List (List Int))
  | [] => some []
  | .tuple es :: r => (asInts es).bind fun ns => (asIT r).map (ns :: ·)
  | _ :: _ => none
def oLenSet : PyData → Option B
  | .list ds => match asIT ds with
    | some ks => if ks.length < 200 then some (.fr (.int (onceL ks).length)) else none
    | none => none
  | _ => none
theorem tups_of {K : PySem.W.Frag} {G H : Hp} (s : Same G H) : ∀ {vs : List V} {ds : List PyData} {kk : List (List Int)}, asIT ds = some kk → RpAll K G vs ds → ∃ ks : List (Addr × List Int), vs = ks.map (fun p => V.ref p.1) ∧ ks.map (·.2) = kk ∧ ∀ p ∈ ks, SqT K H p.1 (p.2.map V.int)
  | _, _, kk, h, .nil => by
    cases h
    exact ⟨[], rfl, rfl, fun p hp => nomatch hp⟩
  | _ :: _, _ :: ds, kk, h, .cons r t => by
    cases r with
    | tup hG ra =>
      rename_i b xs es
      cases q : asInts es with
      | none =>
        have h' : ((asInts es).bind fun ns => _) = some kk := h
        rw [q] at h'
        cases h'
      | some ns =>
        have h' : ((asInts es).bind fun ns => (asIT ds).map (ns :: ·)) = some kk := h
        rw [q, Option.bind_some] at h'
        cases q2 : asIT ds with
        | none => rw [q2] at h'; cases h'
        | some ms =>
          rw [q2] at h'
          cases h'
          obtain ⟨ks, e1, e2, e3⟩ := tups_of s q2 t
          obtain ⟨e4, _⟩ := ints_of q ra
          refine ⟨(b, ns) :: ks, by rw [e1]; rfl, by rw [List.map_cons, e2], fun p hp => ?_⟩
          rcases List.mem_cons.mp hp with rfl | hp
          · rw [e4] at hG
            exact .inl (.inl (s _ _ hG))
          · exact e3 p hp
    | _ => cases h
theorem ve_lenSet (hc : X.calm = true) (hu : X.A.units + 66 < cLine) (hm : X.mg "len" = none) (hm2 : X.mg "set" = none) (ha : VE X ρ W a fa) (hg : Gl X "len" := by rfl) (hg2 : Gl X "set" := by rfl)
    (na : starEach [a] X.env = (false, eval a X.env) :: starEach [] X.env := by rfl) : VE X ρ W (.Call (.Name "len" p) [.Call (.Name "set" p2) [a] [] q] [] pos) (fUn oLenSet fa) := by
  obtain ⟨t, pp, s⟩ := ha
  refine ⟨_, pe_lenSetT hc hu hg hm hg2 hm2 pp na, se_un (r := rLenSetT X.K) (fun π e σ w x dx z Q m hx hz k => ?_) s⟩
  unfold oLenSet at hz
  split at hz
  · split at hz
    · rename_i ds kk hq
      split at hz
      · rename_i hh
        cases hz
        obtain ⟨d, xs, rfl, hd, hr⟩ := hx
        obtain ⟨ks, e1, e2, e3⟩ := tups_of m.sub hq hr
        subst e1
        subst e2
        rw [List.length_map] at hh
        refine ⟨d, ks, rfl, .of hd, e3, hh, ?_⟩
        exact sc_end m k (.int _)
      · cases hz
    · cases hz
  · cases hz
end
end VL
set_option maxRecDepth 100000
namespace VL
open PySem L2 PySem.Spec PyProof.Rows
section
variable {X : Cx} {pins : List (Addr × Obj)} {σ : L2.St} {H : Hp} {s : Shared}
theorem smNe (hs : H sysModules = none) {a : Addr} {o : HO} (h : H a = some o) : sysModules ≠ a := fun z => by rw [z, h] at hs; cases hs
mutual
theorem Rp.reads (I : Inv X pins σ H s) (hs : H sysModules = none) : ∀ {v : V} {d : PyData}, Rp X.K H v d → ∀ u, RelV v u → ∃ as, Reads s.heap u d as ∧ sysModules ∉ as
  | _, _, .non, u, r => by cases r; exact ⟨_, .none, nofun⟩
  | _, _, .bl b, u, r => by cases r; exact ⟨_, .bool b, nofun⟩
  | _, _, .int i, u, r => by obtain ⟨t, rfl⟩ := r; exact ⟨_, .int i t, nofun⟩
  | _, _, .str x, u, r => by obtain ⟨t, rfl⟩ := r; exact ⟨_, .str x t, nofun⟩
  | _, _, .lst h a, u, r => by
    cases r
    obtain ⟨its, rv, ⟨o, n, ho, hc, _, hd⟩, _⟩ := I.list (.of h)
    obtain ⟨as, h1, h2⟩ := RpAll.reads I hs a _ rv
    exact ⟨_, .list ho hc hd h1, fun z => (List.mem_cons.mp z).elim (smNe hs h) h2⟩
  | _, _, .tup h a, u, r => by
    cases r
    obtain ⟨its, rv, ⟨o, ho, hc, n, hd⟩, _⟩ := I.tuple (.of h)
    obtain ⟨as, h1, h2⟩ := RpAll.reads I hs a _ rv
    exact ⟨_, .tuple ho hc hd h1, h2⟩
  | _, _, .dic (a := a) (ks := ks) (ds := ds) h k b, u, r => by
    cases r
    obtain ⟨_, _, vs, kv, hdo⟩ := I.hok _ _ h
    obtain ⟨o, es, ep, ho, hx, hd, _, pr, _⟩ := hdo
    have hv : Vals (ks.map (·.2)) (es.toList.map (·.val)) := by
      have go : ∀ {ks : List (Key × V)} {vs : List (Key × Value)} {es : List DictEntry}, KV ks vs → Pairs (mixKind X.prog X.w) es vs → Vals (ks.map (·.2)) (es.map (·.val)) := by
        intro ks vs es h1 h2
        induction h2 generalizing ks with
        | nil => cases h1; exact .nil
        | cons e1 e2 _ ih => cases h1 with
          | cons r1 r2 => exact .cons (by show L2.RelV _ (DictEntry.val _); rw [e2]; exact r1.2) (ih r2)
      exact go kv pr
    have hk : ReadsAll s.heap (es.toList.map (·.key)) (ds.map (·.1)) [] := by
      rw [← k]
      have go : ∀ {ks : List (Key × V)} {vs : List (Key × Value)} {es : List DictEntry}, KV ks vs → Pairs (mixKind X.prog X.w) es vs → ReadsAll s.heap (es.map (·.key)) (ks.map fun p => kP p.1) [] := by
        intro ks vs es h1 h2
        induction h2 generalizing ks with
        | nil => cases h1; exact .nil
        | @cons e kv es' kvs' e1 e2 _ ih => cases h1 with
          | @cons p _ _ _ r1 r2 =>
            have e3 : keyIs kv.1 e.key = true := e1
            have z := ih r2
            have : ∃ q : Reads s.heap e.key (kP p.1) [], True := by
              rw [r1.1]
              rcases keyIs_shape e3 with ⟨i, t, g1, g2⟩ | ⟨x, t, g1, g2⟩
              · rw [g1, g2]; exact ⟨.int i t, trivial⟩
              · rw [g1, g2]; exact ⟨.str x t, trivial⟩
            exact .cons this.1 z
      exact go kv pr
    obtain ⟨as, h1, h2⟩ := RpAll.reads I hs b _ hv
    refine ⟨_, .dict ho hx.1 hd hk h1, fun z => ?_⟩
    rcases List.mem_append.mp z with z | z
    · rcases List.mem_cons.mp z with z | z
      · exact smNe hs h z
      · cases z
    · exact h2 z
theorem RpAll.reads (I : Inv X pins σ H s) (hs : H sysModules = none) : ∀ {vs : List V} {ds : List PyData}, RpAll X.K H vs ds → ∀ us, Vals vs us → ∃ as, ReadsAll s.heap us ds as ∧ sysModules ∉ as
  | _, _, .nil, us, r => by cases r; exact ⟨_, .nil, nofun⟩
  | _, _, .cons h t, us, r => by
    cases r with
    | cons r1 r2 =>
      obtain ⟨as, h1, h2⟩ := Rp.reads I hs h _ r1
      obtain ⟨bs, h3, h4⟩ := RpAll.reads I hs t _ r2
      exact ⟨_, .cons h1 h3, fun z => (List.mem_append.mp z).elim h2 h4⟩
end
end
theorem SmB.none {X : Cx} {pins : List (Addr × Obj)} {σ : L2.St} {H : Hp} {s : Shared} (h : SmB X.base) (I : Inv X pins σ H s) : H sysModules = none := let ⟨o, e⟩ := h; (I.bs _ _ e).2
end VL
set_option maxRecDepth 100000
set_option maxHeartbeats 2000000
namespace VL
open PySem L2 PySem.Spec PyProof.Rows
end VL
set_option maxRecDepth 100000
namespace VL
open PySem L2
section
variable {C : Cc} {π : List (Nat × V)} {e : Env} {σ : L2.St} {w : WS}
theorem Mt.sfree {i : Nat} {x : Option V} (m : Mt C π e σ w) (he : at? e i = none) (hp : ∀ p ∈ π, p.1 ≠ i) : Mt C π e (σ.set i x) w := by
  refine ⟨by rw [List.length_set]; exact m.len, m.sub, fun k b q => ?_, m.non, m.dis, fun p h => ?_⟩
  · have hk : i ≠ k := fun z => by subst z; rw [he] at q; cases q
    rw [List.getElem?_set_ne hk]
    exact m.bok k b q
  · rw [List.getElem?_set_ne (Ne.symm (hp p h))]
    exact m.pin p h
end
end VL
set_option maxRecDepth 100000
namespace VL
open PySem L2
def isSub (c d : Str) : Bool := decide (c = d) || decide (d = "OrderError") || decide (d = "ValueError")
/-- what is asked of a class of errors, computed -/
def kExc (K : PySem.W.Frag) (D : Addr) : Bool :=
  He.eqO (PySem.W.findIn K (.ref D) "__getattribute__") (some (some (.builtin "BaseException.__getattribute__"))) && He.eqO (PySem.W.findIn K (.ref D) "__getattr__") (some none) && decide (PySem.W.subIn K (.ref D) (.type "BaseException") = some true) &&
  PySem.W.hasDictIn K D && He.eqO (PySem.W.findIn K (.ref D) "__class__") (some (some (.builtin "object.__class__"))) && He.eqO (PySem.W.specialIn K (.builtin "object.__class__") "__get__") (some (some (.builtin "getset_descriptor.__get__"))) &&
  decide (PySem.W.takesIn K (.builtin "object.__class__") = some true) && decide (PySem.W.mroIn K D (.type "object") = some true)
theorem kExc_ok {K : PySem.W.Frag} {D : Addr} (h : kExc K D = true) : ExcC K D := by
  unfold kExc at h
  simp only [Bool.and_eq_true, decide_eq_true_eq] at h
  obtain ⟨⟨⟨⟨⟨⟨⟨h1, h2⟩, h3⟩, h4⟩, h5⟩, h6⟩, h7⟩, h8⟩ := h
  exact ⟨He.eqO_ok h1, He.eqO_ok h2, h3, h4, He.eqO_ok h5, He.eqO_ok h6, h7, h8⟩
def exB (cs ds : List Str) (K : PySem.W.Frag) : Bool :=
  cs.all (fun c => kExc K (He.ga K c) && ds.all (fun d => decide (PySem.W.kitOne K (.ref (He.ga K c)) (.ref (He.ga K d)) = some (isSub c d))) && decide (PySem.W.kitOne K (.ref (He.ga K c)) (.type "ValueError") = some true) && decide (PySem.W.exmOne K (.ref (He.ga K c)) (.ref (He.ga K "OrderError")) = some true)) &&
  ds.all (fun d => decide (PySem.W.kitOne K (.type "NoneType") (.ref (He.ga K d)) = some false)) && decide (PySem.W.kitOne K (.type "NoneType") (.type "ValueError") = some false)
def gAll (K : PySem.W.Frag) (mg : Str → Option Value) : List Str → Prop
  | [] => True
  | c :: r => mg c = some (.ref (He.ga K c)) ∧ gAll K mg r
theorem gAll.get {K : PySem.W.Frag} {mg : Str → Option Value} : ∀ {l : List Str} {c : Str}, gAll K mg l → c ∈ l → mg c = some (.ref (He.ga K c))
  | _ :: _, _, h, .head _ => h.1
  | _ :: r, _, h, .tail _ q => gAll.get (l := r) h.2 q
structure ExF (K : PySem.W.Frag) (mg : Str → Option Value) (cs ds : List Str) : Prop where
  ok : exB cs ds K = true
  g1 : gAll K mg cs
  g2 : gAll K mg ds
  oe : mg "OrderError" = some (.ref (He.ga K "OrderError"))
  ve : mg "ValueError" = none
section
variable {K : PySem.W.Frag} {mg : Str → Option Value} {cs ds : List Str}
theorem ExF.exc (f : ExF K mg cs ds) {c : Str} (hc : c ∈ cs) : ExcC K (He.ga K c) := by
  have h := f.ok
  unfold exB at h
  simp only [Bool.and_eq_true, List.all_eq_true, decide_eq_true_eq] at h
  exact kExc_ok (h.1.1 c hc).1.1.1
end
end VL
set_option maxRecDepth 100000
namespace VL
open PySem L2 PySem.Spec PyProof.Rows
end VL
set_option maxRecDepth 100000
namespace VL
open PySem L2 PySem.Spec PyProof.Rows
end VL
set_option maxRecDepth 100000
namespace VL
open PySem L2
section
variable {X : Cx} {ρ : Nat → Res} {W : WX} {a : Expr} {es : List Expr} {pos p : Pos} {fa : FE} {as_ : FA} {C : Cc} {π : List (Nat × V)} {e e1 e2 : Env} {σ : St} {w w0 w1 w2 : WS}
/-- a slot more -/
def WS.push (w : WS) (n : Nat) (fp : Addr → Prop) : WS := { w with fp := fun i a => if i = n then fp a else w.fp i a }
theorem at_push {x : Option B} {i : Nat} : at? (e ++ [x]) i = if i = e.length then x else at? e i := by
  unfold at?
  by_cases h : i = e.length
  · subst h
    rw [if_pos rfl, List.getElem?_append_right (Nat.le_refl _)]
    simp
  · rw [if_neg h]
    by_cases h2 : i < e.length
    · rw [List.getElem?_append_left h2]
    · rw [List.getElem?_eq_none (by rw [List.length_append, List.length_singleton]; omega), List.getElem?_eq_none (by omega)]
theorem Mt.push {x : B} {v : V} {fp : Addr → Prop} (m : Mt C π e σ w) (hb : BOk C w.G w.H x v fp) (hd : ∀ a, fp a → ∀ i, ¬ w.fp i a) : Mt C π (e ++ [some x]) (σ ++ [some v]) (w.push e.length fp) := by
  have out : ∀ i, ¬ i < e.length → ∀ a, ¬ w.fp i a := fun i hi a z => m.non i (by unfold at?; rw [List.getElem?_eq_none (by omega)]) a z
  refine ⟨by simp [m.len], m.sub, fun i b q => ?_, fun i q a z => ?_, fun i j a h1 h2 => ?_, fun q hq => ?_⟩
  · rw [at_push] at q
    by_cases h : i = e.length
    · rw [if_pos h] at q
      cases q
      refine ⟨v, by rw [h, m.len, List.getElem?_append_right (Nat.le_refl _)]; simp, ?_⟩
      have e1 : (w.push e.length fp).fp i = fp := by funext a; show (if i = e.length then fp a else w.fp i a) = fp a; rw [if_pos h]
      rw [e1]
      exact hb
    · rw [if_neg h] at q
      obtain ⟨u, h1, h2⟩ := m.bok i b q
      have hl := (List.getElem?_eq_some_iff.mp h1).1
      refine ⟨u, by rw [List.getElem?_append_left hl]; exact h1, ?_⟩
      have e1 : (w.push e.length fp).fp i = w.fp i := by funext a; show (if i = e.length then fp a else w.fp i a) = w.fp i a; rw [if_neg h]
      rw [e1]
      exact h2
  · rw [at_push] at q
    have z' : (if i = e.length then fp a else w.fp i a) := z
    by_cases h : i = e.length
    · rw [if_pos h] at q; cases q
    · rw [if_neg h] at q z'
      exact m.non i q a z'
  · have h1' : (if i = e.length then fp a else w.fp i a) := h1
    have h2' : (if j = e.length then fp a else w.fp j a) := h2
    by_cases hi : i = e.length
    · rw [if_pos hi] at h1'
      by_cases hj : j = e.length
      · rw [hi, hj]
      · rw [if_neg hj] at h2'
        exact absurd h2' (hd a h1' j)
    · rw [if_neg hi] at h1'
      by_cases hj : j = e.length
      · rw [if_pos hj] at h2'
        exact absurd h1' (hd a h2' i)
      · rw [if_neg hj] at h2'
        exact m.dis i j a h1' h2'
  · have := m.pin q hq
    rw [List.getElem?_append_left (List.getElem?_eq_some_iff.mp this).1]
    exact this
theorem Frm.push {fp : Addr → Prop} {n : Nat} (f : Frm w0 w) (hf : ∀ a, fp a → w0.H a = none ∨ ∃ i, w0.fp i a) : Frm w0 (w.push n fp) := by
  refine ⟨f.g, fun a o h k => ?_, f.t⟩
  obtain ⟨h1, h2, h3⟩ := f.k a o h k
  refine ⟨h1, h2, fun i z => ?_⟩
  have z' : (if i = n then fp a else w.fp i a) := z
  by_cases hi : i = n
  · rw [if_pos hi] at z'
    rcases hf a z' with q | ⟨j, q⟩
    · rw [q] at h; cases h
    · exact k j q
  · rw [if_neg hi] at z'
    exact h3 i z'
end
end VL
set_option maxRecDepth 100000
namespace VL
open PySem L2
/-- a thing of its own, as a tree -/
def trOf : B → Option Tr
  | .fr d => some (.fr d)
  | .ow ds => some (.nd .lst (ds.map .fr))
  | .tr t => some t
  | _ => none
/-- the thing moved: a name that owned it owns it no longer -/
def ownT (e : Env) : O → Option (Tr × Env)
  | .b b => (trOf b).map fun t => (t, e)
  | .s i => match at? e i with
    | some (.fr d) => some (.fr d, e)
    | some b => (trOf b).map fun t => (t, e.set i none)
    | none => none
section
variable {C : Cc} {π : List (Nat × V)} {e e' : Env} {σ : St} {w w0 : WS} {o : O} {v : V} {t : Tr}
theorem tall_fr {G H : Hp} : ∀ {xs : List V} {ds : List PyData}, RpAll C.K G xs ds → TAll C G H (ds.map .fr) xs []
  | _, _, .nil => .nil
  | _, _, .cons r t => .cons (as := []) (.fr r) (tall_fr t)
theorem bok_tr {G H : Hp} {b : B} {fp : Addr → Prop} (h : BOk C G H b v fp) (ht : trOf b = some t) : BOk C G H (.tr t) v fp := by
  cases b with
  | fr d =>
    cases ht
    exact ⟨[], .fr h.1, List.nodup_nil, fun a => ⟨fun z => absurd z (h.2 a), fun z => nomatch z⟩⟩
  | ow ds =>
    cases ht
    obtain ⟨p, xs, rfl, h1, h2, h3, h4⟩ := h
    exact ⟨[p], .lst h1 h2 (tall_fr h3), by simp, fun a => (h4 a).trans (by simp)⟩
  | tr t' => cases ht; exact h
  | od ds => cases ht
  | ex c => cases ht
  | rs k d => cases ht
  | sc ns => cases ht
theorem ownT_sound (m : Mt C π e σ w) (f : Frm w0 w) (h : OOk C σ w0 w o v) (hz : ownT e o = some (t, e')) : ∃ w', Mt C π e' σ w' ∧ Frm w0 w' ∧ w'.H = w.H ∧ w'.G = w.G ∧ OOk C σ w0 w' (.b (.tr t)) v := by
  cases o with
  | b b =>
    have hz : ((trOf b).map fun t => (t, e)) = some (t, e') := hz
    cases q : trOf b with
    | none => rw [q] at hz; cases hz
    | some t' =>
      rw [q] at hz
      cases hz
      obtain ⟨fp, h1, h2⟩ := h
      exact ⟨w, m, f, rfl, rfl, fp, bok_tr h1 q, h2⟩
  | s i =>
    have hv : σ[i]? = some (some v) := h
    unfold ownT at hz
    dsimp only at hz
    cases q : at? e i with
    | none => rw [q] at hz; cases hz
    | some b =>
      obtain ⟨u, h1, h2⟩ := m.bok i b q
      rw [hv] at h1
      cases h1
      have mv : ∀ t', trOf b = some t' → e' = e.set i none → t = t' → ∃ w', Mt C π e' σ w' ∧ Frm w0 w' ∧ w'.H = w.H ∧ w'.G = w.G ∧ OOk C σ w0 w' (.b (.tr t)) v := by
        rintro t' q2 rfl rfl
        obtain ⟨w', m', f', eH, eG, hl⟩ := m.drop (i := i)
        refine ⟨w', m', f.trans f', eH, eG, w.fp i, by rw [eH, eG]; exact bok_tr h2 q2, fun a ha => ⟨f.back (.inr ⟨i, ha⟩), fun j z => ?_⟩⟩
        by_cases hj : i = j
        · subst hj
          exact m'.non i (at_set_same q) a z
        · exact hj (m.dis i j a ha (hl j a z))
      cases b with
      | fr d =>
        rw [q] at hz
        cases hz
        exact ⟨w, m, f, rfl, rfl, fun _ => False, bok_tr (b := .fr d) ⟨h2.1, fun _ z => z⟩ rfl, fun _ z => z.elim⟩
      | ow ds => rw [q] at hz; cases hz; exact mv _ rfl rfl rfl
      | tr t' => rw [q] at hz; cases hz; exact mv _ rfl rfl rfl
      | od ds => rw [q] at hz; cases hz
      | ex c => rw [q] at hz; cases hz
      | rs k d => rw [q] at hz; cases hz
      | sc ns => rw [q] at hz; cases hz
/-- the tree of a name changed -/
theorem Mt.trmut {i : Nat} {b : B} {H' : Hp} {as : List Addr} {t' : Tr} (m : Mt C π e σ w) (f : Frm w0 w) (h : at? e i = some b) (hv : σ[i]? = some (some v)) (hr : TOk C w.G H' t' v as) (nd : as.Nodup)
    (hc : ∀ a, H' a = w.H a ∨ w.fp i a ∨ w.H a = none) (ha : ∀ a ∈ as, w.fp i a ∨ ((w0.H a = none ∨ ∃ j, w0.fp j a) ∧ ∀ j, ¬ w.fp j a)) (hn : ∀ a, H' a = none → w.H a = none) (hk : ∀ a o, w0.H a = some o → (∀ j, ¬ w0.fp j a) → H' a = w.H a) :
    Mt C π (e.set i (some (.tr t'))) σ { w with H := H', fp := fun j a => if j = i then a ∈ as else w.fp j a } ∧ Frm w0 { w with H := H', fp := fun j a => if j = i then a ∈ as else w.fp j a } := by
  have fpi : (fun a => (if i = i then a ∈ as else w.fp i a)) = fun a => a ∈ as := by funext a; rw [if_pos rfl]
  have fpn : ∀ j, i ≠ j → (fun a => (if j = i then a ∈ as else w.fp j a)) = w.fp j := fun j hj => by funext a; rw [if_neg (Ne.symm hj)]
  refine ⟨⟨by rw [List.length_set]; exact m.len, fun a o q => ?_, fun j c q => ?_, fun j q a z => ?_, fun j k a x y => ?_, m.pin⟩, ⟨f.g, fun a o q n => ?_, fun a q => f.t a (hn a q)⟩⟩
  · have q' : w.H a = some o := m.sub a o q
    rcases hc a with z | z | z
    · exact z.trans q'
    · rw [(m.own z).1] at q; cases q
    · rw [z] at q'; cases q'
  · by_cases hj : i = j
    · subst hj
      rw [at_set_same h] at q
      cases q
      refine ⟨v, hv, ?_⟩
      show BOk C w.G H' (.tr t') v (fun a => (if i = i then a ∈ as else w.fp i a))
      rw [fpi]
      exact ⟨as, hr, nd, fun _ => Iff.rfl⟩
    · rw [at_set_ne hj] at q
      obtain ⟨u, k1, k2⟩ := m.bok j c q
      refine ⟨u, k1, ?_⟩
      show BOk C w.G H' c u (fun a => (if j = i then a ∈ as else w.fp j a))
      rw [fpn j hj]
      refine k2.mono (Same.refl _) fun a ha' => ⟨?_, rfl⟩
      rcases hc a with z | z | z
      · exact z
      · exact absurd (m.dis i j a z ha') hj
      · obtain ⟨_, o, ho⟩ := k2.own a ha'
        rw [ho] at z; cases z
  · by_cases hj : i = j
    · subst hj
      rw [at_set_same h] at q
      cases q
    · rw [at_set_ne hj] at q
      have z' : (if j = i then a ∈ as else w.fp j a) := z
      rw [if_neg (Ne.symm hj)] at z'
      exact m.non j q a z'
  · have x' : (if j = i then a ∈ as else w.fp j a) := x
    have y' : (if k = i then a ∈ as else w.fp k a) := y
    by_cases hj : j = i
    · rw [if_pos hj] at x'
      by_cases hk' : k = i
      · rw [hj, hk']
      · rw [if_neg hk'] at y'
        rcases ha a x' with z | z
        · exact hj.trans (m.dis i k a z y')
        · exact absurd y' (z.2 k)
    · rw [if_neg hj] at x'
      by_cases hk' : k = i
      · rw [if_pos hk'] at y'
        rcases ha a y' with z | z
        · exact (m.dis j i a x' z).trans hk'.symm
        · exact absurd x' (z.2 j)
      · rw [if_neg hk'] at y'
        exact m.dis j k a x' y'
  · obtain ⟨k1, k2, k3⟩ := f.k a o q n
    refine ⟨(hk a o q n).trans k1, k2, fun j z => ?_⟩
    have z' : (if j = i then a ∈ as else w.fp j a) := z
    by_cases hj : j = i
    · rw [if_pos hj] at z'
      rcases ha a z' with r | r
      · exact k3 i r
      · rcases r.1 with r | ⟨j', r⟩
        · rw [r] at q; cases q
        · exact n j' r
    · rw [if_neg hj] at z'
      exact k3 j z'
theorem TAll.append {G H : Hp} : ∀ {ts us : List Tr} {xs ys : List V} {as bs : List Addr}, TAll C G H ts xs as → TAll C G H us ys bs → TAll C G H (ts ++ us) (xs ++ ys) (as ++ bs)
  | _, _, _, _, _, _, .nil, k => k
  | _, _, _, _, _, bs, .cons (as := a1) (bs := b1) h t, k => by
    rw [List.append_assoc]
    exact .cons h (TAll.append t k)
theorem TAll.length {G H : Hp} : ∀ {ts : List Tr} {xs : List V} {as : List Addr}, TAll C G H ts xs as → xs.length = ts.length
  | _, _, _, .nil => rfl
  | _, _, _, .cons _ t => by rw [List.length_cons, List.length_cons, TAll.length t]
theorem TAll.one {G H : Hp} {as : List Addr} (h : TOk C G H t v as) : TAll C G H [t] [v] as := by
  have := TAll.cons h (.nil (C := C) (G := G) (H := H))
  rwa [List.append_nil] at this
end
end VL
set_option maxRecDepth 100000
namespace VL
open PySem L2
/-- what all are frozen -/
def frsT : List Tr → Option (List PyData)
  | [] => some []
  | .fr d :: r => (frsT r).map (d :: ·)
  | .nd _ _ :: _ => none
/-- a tree in a slot; fl: a list of what is frozen -/
def rowB (fl : Bool) : Tr → Option B
  | .fr d => if fl = true then none else some (.fr d)
  | .nd k ts => if fl = true then (match k with
    | .lst => (frsT ts).map .ow
    | _ => none) else some (.tr (.nd k ts))
section
variable {C : Cc} {π : List (Nat × V)} {e e' : Env} {σ : St} {w w0 w1 : WS}
theorem frs_all {G H : Hp} : ∀ {ts : List Tr} {ds : List PyData} {xs : List V} {as : List Addr}, frsT ts = some ds → TAll C G H ts xs as → RpAll C.K G xs ds ∧ as = []
  | [], _, _, _, h, .nil => by
    cases h
    exact ⟨.nil, rfl⟩
  | .fr d :: r, ds, _, _, h, .cons h1 h2 => by
    have h' : (frsT r).map (d :: ·) = some ds := h
    cases q : frsT r with
    | none => rw [q] at h'; cases h'
    | some es =>
      rw [q] at h'
      cases h'
      obtain ⟨g1, g2⟩ := frs_all q h2
      cases h1 with
      | fr rr => exact ⟨.cons rr g1, by rw [g2]; rfl⟩
  | .nd _ _ :: _, _, _, _, h, _ => by cases h
theorem bok_rowB {fl : Bool} {b : B} {G H : Hp} {t : Tr} {v : V} {as : List Addr} (hb : rowB fl t = some b) (h : TOk C G H t v as) (nd : as.Nodup) : BOk C G H b v fun a => a ∈ as := by
  unfold rowB at hb
  split at hb
  · split at hb
    · cases hb
    · cases hb
      cases h with
      | fr r => exact ⟨r, fun a z => nomatch z⟩
  · rename_i k ts
    split at hb
    · split at hb
      · cases q : frsT ts with
        | none => rw [q] at hb; cases hb
        | some ds =>
          rw [q] at hb
          cases hb
          cases h with
          | lst n1 n2 n3 =>
            rename_i p xs as'
            obtain ⟨g1, g2⟩ := frs_all q n3
            subst g2
            exact ⟨p, xs, rfl, n1, n2, g1, fun a => by simp⟩
      · cases hb
    · cases hb
      exact ⟨as, h, nd, fun _ => Iff.rfl⟩
/-- things at some addresses, in no slot: hidden -/
structure Hid (w : WS) (as : List Addr) : Prop where
  nd : as.Nodup
  g : ∀ a ∈ as, w.G a = none
  h : ∀ a ∈ as, ∃ o, w.H a = some o
  n : ∀ a ∈ as, ∀ i, ¬ w.fp i a
theorem Hid.step {as : List Addr} (k : Hid w as) (f : Frm w w1) : Hid w1 as ∧ ∀ a ∈ as, w1.H a = w.H a ∧ w1.G a = w.G a := by
  have key : ∀ a ∈ as, w1.H a = w.H a ∧ w1.G a = w.G a ∧ ∀ i, ¬ w1.fp i a := fun a ha => by
    obtain ⟨o, ho⟩ := k.h a ha
    obtain ⟨g1, g2, g3⟩ := f.k a o ho (k.n a ha)
    exact ⟨g1.trans ho.symm, g2, g3⟩
  exact ⟨⟨k.nd, fun a ha => (key a ha).2.1.trans (k.g a ha), fun a ha => by rw [(key a ha).1]; exact k.h a ha, fun a ha => (key a ha).2.2⟩, fun a ha => ⟨(key a ha).1, (key a ha).2.1⟩⟩
theorem Hid.sub {as bs : List Addr} (k : Hid w as) (h : bs.Sublist as) : Hid w bs := ⟨k.nd.sublist h, fun a ha => k.g a (h.subset ha), fun a ha => k.h a (h.subset ha), fun a ha => k.n a (h.subset ha)⟩
/-- a slot taken out: what it owned is hidden -/
theorem Mt.take {i : Nat} {b : B} {t : Tr} (m : Mt C π e σ w) (h : at? e i = some b) (ht : trOf b = some t) : ∃ v w' as, σ[i]? = some (some v) ∧ Mt C π (e.set i none) σ w' ∧ Frm w w' ∧ w'.H = w.H ∧ w'.G = w.G ∧ TOk C w'.G w'.H t v as ∧ Hid w' as ∧ (∀ a, a ∈ as ↔ w.fp i a) ∧ ∀ l a, w'.fp l a → w.fp l a := by
  obtain ⟨v, h1, h2⟩ := m.bok i b h
  obtain ⟨as, g1, g2, g3⟩ := bok_tr h2 ht
  obtain ⟨w', m', f', eH, eG, hl⟩ := m.drop (i := i)
  have hn : ∀ a ∈ as, ∀ j, ¬ w'.fp j a := fun a ha j z => by
    by_cases hj : i = j
    · subst hj
      exact m'.non i (at_set_same h) a z
    · exact hj (m.dis i j a ((g3 a).mpr ha) (hl j a z))
  refine ⟨v, w', as, h1, m', f', eH, eG, by rw [eH, eG]; exact g1, ⟨g2, fun a ha => ?_, fun a ha => ?_, hn⟩, fun a => (g3 a).symm, hl⟩
  · rw [eG]; exact (g1.own a ha).1
  · rw [eH]; exact (g1.own a ha).2
/-- a hidden thing given to a slot that is free -/
theorem Mt.give {i : Nat} {b : B} {v : V} {as : List Addr} (m : Mt C π e σ w) (f : Frm w0 w) (hv : σ[i]? = some (some v)) (hb : ∀ fp : Addr → Prop, (∀ a, fp a ↔ a ∈ as) → BOk C w.G w.H b v fp) (hd : Hid w as) (so : ∀ a ∈ as, w0.H a = none ∨ ∃ k, w0.fp k a) :
    Mt C π (e.set i (some b)) σ { w with fp := fun k a => if k = i then a ∈ as else w.fp k a } ∧ Frm w0 { w with fp := fun k a => if k = i then a ∈ as else w.fp k a } := by
  have hlt : i < e.length := by rw [m.len]; exact (List.getElem?_eq_some_iff.mp hv).1
  refine ⟨⟨by rw [List.length_set]; exact m.len, m.sub, fun j c q => ?_, fun j q a z => ?_, fun j k a x y => ?_, m.pin⟩, ⟨f.g, fun a o q n => ?_, f.t⟩⟩
  · by_cases hj : i = j
    · subst hj
      rw [at_set_lt hlt] at q
      cases q
      exact ⟨v, hv, hb _ fun a => by show (if i = i then a ∈ as else w.fp i a) ↔ _; rw [if_pos rfl]⟩
    · rw [at_set_ne hj] at q
      obtain ⟨u, k1, k2⟩ := m.bok j c q
      refine ⟨u, k1, ?_⟩
      have e1 : (fun a => (if j = i then a ∈ as else w.fp j a)) = w.fp j := by funext a; rw [if_neg (Ne.symm hj)]
      show BOk C w.G w.H c u (fun a => if j = i then a ∈ as else w.fp j a)
      rw [e1]
      exact k2
  · have z' : (if j = i then a ∈ as else w.fp j a) := z
    by_cases hj : i = j
    · subst hj
      rw [at_set_lt hlt] at q
      cases q
    · rw [at_set_ne hj] at q
      rw [if_neg (Ne.symm hj)] at z'
      exact m.non j q a z'
  · have x' : (if j = i then a ∈ as else w.fp j a) := x
    have y' : (if k = i then a ∈ as else w.fp k a) := y
    by_cases hj : j = i
    · rw [if_pos hj] at x'
      by_cases hk : k = i
      · rw [hj, hk]
      · rw [if_neg hk] at y'
        exact absurd y' (hd.n a x' k)
    · rw [if_neg hj] at x'
      by_cases hk : k = i
      · rw [if_pos hk] at y'
        exact absurd x' (hd.n a y' j)
      · rw [if_neg hk] at y'
        exact m.dis j k a x' y'
  · obtain ⟨h1, h2, h3⟩ := f.k a o q n
    refine ⟨h1, h2, fun k z => ?_⟩
    have z' : (if k = i then a ∈ as else w.fp k a) := z
    by_cases hk : k = i
    · rw [if_pos hk] at z'
      rcases so a z' with r | ⟨l, r⟩
      · rw [r] at q; cases q
      · exact n l r
    · rw [if_neg hk] at z'
      exact h3 k z'
theorem Mt.pin1 {i : Nat} {v : V} (m : Mt C π e σ w) (h : σ[i]? = some (some v)) : Mt C ((i, v) :: π) e σ w := ⟨m.len, m.sub, m.bok, m.non, m.dis, fun q hq => by
  rcases List.mem_cons.mp hq with rfl | hq
  · exact h
  · exact m.pin q hq⟩
theorem Mt.unpin {q : Nat × V} (m : Mt C (q :: π) e σ w) : Mt C π e σ w := ⟨m.len, m.sub, m.bok, m.non, m.dis, fun p hp => m.pin p (List.mem_cons_of_mem _ hp)⟩
end
section
variable {X : Cx} {ρ : Nat → Res} {W : WX} {pn : List Nat} {f : FS}
theorem TAll.at {C : Cc} {G H : Hp} {t : Tr} {r : List Tr} {x2 : List V} {a2 : List Addr} (h : TAll C G H (t :: r) x2 a2) : ∃ x y a b, x2 = x :: y ∧ a2 = a ++ b ∧ TOk C G H t x a ∧ TAll C G H r y b := by
  cases h with
  | cons h1 h2 => exact ⟨_, _, _, _, rfl, rfl, h1, h2⟩
/-- the list at p, its rows done and left, all hidden -/
structure Rws (C : Cc) (w0 w : WS) (p : Addr) (xs : List V) (us ts : List Tr) (k : Nat) (as1 as2 : List Addr) : Prop where
  at_ : w.H p = some (.lst xs)
  kk : k = us.length
  len : xs.length = us.length + ts.length
  a1 : TAll C w.G w.H us (xs.take k) as1
  a2 : TAll C w.G w.H ts (xs.drop k) as2
  hid : Hid w (p :: (as1 ++ as2))
  src : ∀ a ∈ p :: (as1 ++ as2), w0.H a = none ∨ ∃ j, w0.fp j a
theorem Rws.step {C : Cc} {w0 w w1 : WS} {p : Addr} {xs : List V} {us ts : List Tr} {k : Nat} {as1 as2 : List Addr} (r : Rws C w0 w p xs us ts k as1 as2) (f : Frm w w1) : Rws C w0 w1 p xs us ts k as1 as2 := by
  obtain ⟨h1, h2⟩ := r.hid.step f
  exact ⟨(h2 p List.mem_cons_self).1.trans r.at_, r.kk, r.len, r.a1.mono f.g fun a ha => h2 a (List.mem_cons_of_mem _ (List.mem_append_left _ ha)), r.a2.mono f.g fun a ha => h2 a (List.mem_cons_of_mem _ (List.mem_append_right _ ha)), h1, r.src⟩
end
end VL
set_option maxRecDepth 100000
namespace VL
open PySem L2 PySem.Spec PyProof.Rows
open PySem.W (alike minD AlikeAll)
open PySem.SeqAt (shaped)
end VL
set_option maxRecDepth 100000
namespace VL
open PySem L2 PySem.Spec PyProof.Rows
end VL
set_option maxRecDepth 100000
namespace VL
open PySem L2 PySem.Spec PyProof.Rows
end VL
set_option maxRecDepth 100000
namespace VL
open PySem L2
end VL
set_option maxRecDepth 100000
namespace VL
open PySem L2
def lendE (e : Env) : Env := e.map fun c => c.bind lent
def allO (e : Env) : List O := (List.range e.length).map .s
section
variable {C : Cc} {W : WX} {π : List (Nat × V)} {e e' : Env} {σ : St} {w w0 w1 : WS}
theorem at_lend {i : Nat} {y : B} (h : at? (lendE e) i = some y) : ∃ x, at? e i = some x ∧ lent x = some y ∧ i < e.length := by
  unfold at? lendE at h
  rw [List.getElem?_map] at h
  unfold at?
  cases q : e[i]? with
  | none => rw [q] at h; cases h
  | some c =>
    rw [q] at h
    cases c with
    | none => cases h
    | some x =>
      have h' : (lent x) = some y := by
        have h2 : (match (some ((some x : Option B).bind lent) : Option (Option B)) with | some b => b | none => none) = some y := h
        exact h2
      exact ⟨x, rfl, h', (List.getElem?_eq_some_iff.mp q).1⟩
theorem lend_back {os : List O} {w' : WS} (m : Mt C π e σ w) (f' : Frm (w.lent os) w') : Mt C π e σ { G := w.G, H := w'.H, fp := w.fp } ∧ Frm w { G := w.G, H := w'.H, fp := w.fp } := by
  have keep : ∀ a o, w.H a = some o → w'.H a = some o := fun a o h => (f'.k a o h fun _ z => z).1
  refine ⟨⟨m.len, fun a o q => keep a o (m.sub a o q), fun i b q => ?_, m.non, m.dis, m.pin⟩, ⟨Same.refl _, fun a o h n => ⟨keep a o h, rfl, n⟩, f'.t⟩⟩
  obtain ⟨v, g1, g2⟩ := m.bok i b q
  refine ⟨v, g1, g2.mono (Same.refl _) fun a ha => ⟨?_, rfl⟩⟩
  obtain ⟨_, o, ho⟩ := g2.own a ha
  exact (keep a o ho).trans ho.symm
end
/-- the rows of a list at p from k on, hidden -/
structure Tl (C : Cc) (w0 w : WS) (p : Addr) (xs : List V) (ts : List Tr) (k : Nat) (as : List Addr) : Prop where
  at_ : w.H p = some (.lst xs)
  len : xs.length = k + ts.length
  al : TAll C w.G w.H ts (xs.drop k) as
  hid : Hid w (p :: as)
  src : ∀ a ∈ p :: as, w0.H a = none ∨ ∃ j, w0.fp j a
theorem Tl.step {C : Cc} {w0 w w1 : WS} {p : Addr} {xs : List V} {ts : List Tr} {k : Nat} {as : List Addr} (r : Tl C w0 w p xs ts k as) (f : Frm w w1) : Tl C w0 w1 p xs ts k as := by
  obtain ⟨h1, h2⟩ := r.hid.step f
  exact ⟨(h2 p List.mem_cons_self).1.trans r.at_, r.len, r.al.mono f.g fun a ha => h2 a (List.mem_cons_of_mem _ ha), h1, r.src⟩
/-- the next row out of it, into the free slot j -/
theorem Tl.next {C : Cc} {π : List (Nat × V)} {e : Env} {σ : St} {w0 w : WS} {p : Addr} {xs : List V} {t : Tr} {ts : List Tr} {k j : Nat} {as : List Addr} {fl : Bool} {b : B} (r : Tl C w0 w p xs (t :: ts) k as) (m : Mt C π (e.set j none) σ w) (f : Frm w0 w) (hj : j < e.length) (hp : ∀ q ∈ π, q.1 ≠ j) (hb : rowB fl t = some b) :
    ∃ (hk : k < xs.length) (w' : WS) (a1 a2 : List Addr), as = a1 ++ a2 ∧ Mt C π ((e.set j none).set j (some b)) (σ.set j (some xs[k])) w' ∧ Frm w0 w' ∧ w'.H = w.H ∧ w'.G = w.G ∧ Tl C w0 w' p xs ts (k + 1) a2 ∧ (∀ l a, w'.fp l a → w.fp l a ∨ a ∈ a1) := by
  have hlt : k < xs.length := by rw [r.len, List.length_cons]; omega
  refine ⟨hlt, ?_⟩
  have al := r.al
  rw [List.drop_eq_getElem_cons hlt] at al
  obtain ⟨x, ys, at_, ar, ex, ea, tt, tr⟩ := TAll.at al
  cases ex
  subst ea
  have sub1 : at_.Sublist (p :: (at_ ++ ar)) := (List.sublist_append_left at_ ar).trans (List.sublist_cons_self _ _)
  have sub2 : (p :: ar).Sublist (p :: (at_ ++ ar)) := List.Sublist.cons_cons p (List.sublist_append_right at_ ar)
  have hidt : Hid w at_ := r.hid.sub sub1
  have hidr : Hid w (p :: ar) := r.hid.sub sub2
  have dsj : ∀ a ∈ at_, a ∉ p :: ar := fun a ha z => by
    obtain ⟨d1, d2⟩ := List.nodup_cons.mp r.hid.nd
    obtain ⟨d3, d4, d5⟩ := List.nodup_append.mp d2
    rcases List.mem_cons.mp z with rfl | z
    · exact d1 (List.mem_append_left _ ha)
    · exact d5 a ha a z rfl
  have hl : j < (e.set j none).length := by rw [List.length_set]; exact hj
  have m3 : Mt C π (e.set j none) (σ.set j (some xs[k])) w := m.sfree (at_set_lt hj) hp
  have hjs : (σ.set j (some xs[k]))[j]? = some (some xs[k]) := List.getElem?_set_self (by rw [← m.len]; exact hl)
  obtain ⟨m4, f4⟩ := m3.give (w0 := w0) f hjs (fun fp hfp => by
    have := bok_rowB hb tt hidt.nd
    have e1 : (fun a => a ∈ at_) = fp := by funext a; exact propext (hfp a).symm
    rw [e1] at this
    exact this) hidt (fun a ha => r.src a (sub1.subset ha))
  refine ⟨_, at_, ar, rfl, m4, f4, rfl, rfl, ⟨r.at_, by rw [r.len, List.length_cons]; omega, tr, ⟨hidr.nd, hidr.g, hidr.h, fun a ha l z => ?_⟩, fun a ha => r.src a (sub2.subset ha)⟩, fun l a z => ?_⟩
  · have z' : (if l = j then a ∈ at_ else w.fp l a) := z
    by_cases hl : l = j
    · rw [if_pos hl] at z'
      exact dsj a z' ha
    · rw [if_neg hl] at z'
      exact hidr.n a ha l z'
  · have z' : (if l = j then a ∈ at_ else w.fp l a) := z
    by_cases hl : l = j
    · rw [if_pos hl] at z'
      exact .inr z'
    · rw [if_neg hl] at z'
      exact .inl z'
end VL
set_option maxRecDepth 100000
namespace VL
open PySem L2
def lcTurn (t : FT) (f : FE) (vs : List Nat) (K : List Tr → Env → Option (Out O)) (acc : List Tr) (e1 : Env) : Option (Out O) := match t e1 with
  | some (.ok true e2) => match f e2 with
    | some (.ok o e3) => (ownT e3 o).bind fun p => if acc.length < big then K (acc ++ [p.1]) (forget vs p.2) else none
    | _ => none
  | some (.ok false e2) => K acc (forget vs e2)
  | _ => none
def fLcTL (g : FG) (t : FT) (f : FE) (vs : List Nat) : List PyData → List Tr → Env → Option (Out O)
  | [], acc, e => some (.ok (.b (.tr (.nd .lst acc))) e)
  | d :: ds, acc, e => match g d e with
    | some e1 => lcTurn t f vs (fun acc e => fLcTL g t f vs ds acc e) acc e1
    | none => none
def fLcT (fi : FI) (g : FG) (t : FT) (f : FE) (vs : List Nat) : FE := fun e => bnd (fi e) fun ds e1 => fLcTL g t f vs ds [] (forget vs e1)
/-- what a comprehension holds, hidden; and what else is hidden -/
structure Acc (C : Cc) (w0 w : WS) (D : Addr) (xs : List V) (acc : List Tr) (as ex : List Addr) : Prop where
  at_ : w.H D = some (.lst xs)
  al : TAll C w.G w.H acc xs as
  hid : Hid w (D :: (as ++ ex))
  src : ∀ a ∈ D :: as, w0.H a = none ∨ ∃ j, w0.fp j a
theorem Acc.step {C : Cc} {w0 w w1 : WS} {D : Addr} {xs : List V} {acc : List Tr} {as ex : List Addr} (r : Acc C w0 w D xs acc as ex) (f : Frm w w1) : Acc C w0 w1 D xs acc as ex := by
  obtain ⟨h1, h2⟩ := r.hid.step f
  exact ⟨(h2 D List.mem_cons_self).1.trans r.at_, r.al.mono f.g fun a ha => h2 a (List.mem_cons_of_mem _ (List.mem_append_left _ ha)), h1, r.src⟩
theorem Acc.out {C : Cc} {σ : St} {w0 w : WS} {D : Addr} {xs : List V} {acc : List Tr} {as ex : List Addr} (r : Acc C w0 w D xs acc as ex) : OOk C σ w0 w (.b (.tr (.nd .lst acc))) (.ref D) := by
  have sub : (D :: as).Sublist (D :: (as ++ ex)) := List.Sublist.cons_cons D (List.sublist_append_left as ex)
  have h := r.hid.sub sub
  exact ⟨fun a => a ∈ D :: as, ⟨D :: as, .lst (h.g D List.mem_cons_self) r.at_ r.al, h.nd, fun _ => Iff.rfl⟩, fun a ha => ⟨r.src a ha, h.n a ha⟩⟩
theorem lc_turn {C : Cc} {W : WX} {tt : TT} {te : TE} {ta : FT} {fa : FE} {vs : List Nat} (st : ST C W0 tt ta) (sf : SE C W0 te fa) {σ σ3 : St} {w w3 : WS} {e3 : Env} {D : Addr} {xs : List V} {acc : List Tr} {as ex : List Addr} {π : List (Nat × V)} {Kf : List Tr → Env → Option (Out O)} {Q : VK}
    (hw : L2.wipe σ3 vs = L2.wipe σ vs) (hl : σ3.length = σ.length) (m3 : Mt C [] e3 σ3 w3) (fr : Frm w w3) (hD : w.H D = none) (A : Acc C w w3 D xs acc as ex) (N : Hp → Prop)
    (hN : ∀ e' w' acc' xs' as', Mt C [] e' (L2.wipe σ vs) w' → (∀ j b, at? e' j = some b → j ∉ vs) → Frm w w' → Same w3.G w'.G → Acc C w w' D xs' acc' as' ex → (∀ a ∈ ex, w'.H a = w3.H a ∧ w'.G a = w3.G a) → Post C W π σ w (Kf acc' e') (OOk C σ w) Q → N w'.H)
    (h : Post C W π σ w (lcTurn ta fa vs Kf acc e3) (OOk C σ w) Q) :
    tt σ3 w3.H fun b H3 => if b = true then te σ3 H3 fun y H4 => ∃ acc, H4 D = some (.lst acc) ∧ acc.length < sizeLine ∧ N (upd H4 D (.lst (acc ++ [y]))) else N H3 := by
  have ww := wipe_wipe (σ := σ) (vs := vs)
  refine st [] e3 σ3 w3 _ m3 ?_
  unfold lcTurn at h
  cases qt : ta e3 with
  | none => rw [qt] at h; exact h.elim
  | some ot =>
    rw [qt] at h
    cases ot with
    | ex c e => exact h.elim
    | ok bt e4 =>
      intro b w4 m4 f4 eb
      subst eb
      have A4 := A.step f4
      have x4 : ∀ a ∈ ex, w4.H a = w3.H a ∧ w4.G a = w3.G a := fun a ha => (A.hid.step f4).2 a (List.mem_cons_of_mem _ (List.mem_append_right _ ha))
      cases bt with
      | false =>
        rw [if_neg Bool.false_ne_true]
        obtain ⟨w5, m5, f5, eH5, eG5, _⟩ := m4.forget (vs := vs)
        rw [← eH5]
        exact hN _ w5 acc xs as (m5.unwipe (π := []) (vs := vs) (by rw [ww]; exact hw) (by rw [wipe_length]; exact hl) (fun j b q => (at_forget q).2) (fun p h => by cases h)) (fun j b q => (at_forget q).2) ((fr.trans f4).trans f5) (f4.trans f5).g (A4.step f5)
          (fun a ha => ⟨by rw [eH5]; exact (x4 a ha).1, by rw [eG5]; exact (x4 a ha).2⟩) h
      | true =>
        rw [if_pos rfl]
        dsimp only at h
        refine sf [] e4 σ3 w4 _ m4 ?_
        cases qf : fa e4 with
        | none => rw [qf] at h; exact h.elim
        | some of_ =>
          rw [qf] at h
          cases of_ with
          | ex c e => exact h.elim
          | ok o e5 =>
            intro yv w5 m5 f5 k5
            dsimp only at h
            cases qz : ownT e5 o with
            | none => rw [qz] at h; exact h.elim
            | some pz =>
              rw [qz, Option.bind_some] at h
              obtain ⟨w6, m6, f6, eH6, eG6, fp, ⟨bs, b1, b3, b4⟩, b2⟩ := ownT_sound (e' := pz.2) m5 f5 k5 qz
              split at h
              case isFalse => exact h.elim
              case isTrue hbig =>
                obtain ⟨w7, m7, f7, eH7, eG7, hl7⟩ := m6.forget (vs := vs)
                have A7 := (A4.step f6).step f7
                have hlen := A7.al.length
                refine ⟨xs, by rw [← eH6, ← eH7]; exact A7.at_, by rw [hlen]; exact Nat.lt_of_lt_of_le hbig big_le, ?_⟩
                have dj : ∀ a ∈ bs, a ∉ D :: (as ++ ex) := fun a ha z => by
                  obtain ⟨o, ho⟩ := A4.hid.h a z
                  rcases (b2 a ((b4 a).mpr ha)).1 with r | ⟨i, r⟩
                  · rw [ho] at r; cases r
                  · exact A4.hid.n a z i r
                have hDb : ∀ a ∈ as ++ bs ++ ex, a ≠ D := fun a ha z => by
                  subst z
                  obtain ⟨d1, _⟩ := List.nodup_cons.mp A7.hid.nd
                  rcases List.mem_append.mp ha with ha | ha
                  · rcases List.mem_append.mp ha with ha | ha
                    · exact d1 (List.mem_append_left _ ha)
                    · exact dj _ ha List.mem_cons_self
                  · exact d1 (List.mem_append_right _ ha)
                have hnD : ∀ j, ¬ w7.fp j D := A7.hid.n D List.mem_cons_self
                have hGD : w7.G D = none := A7.hid.g D List.mem_cons_self
                have m7' := m7.unwipe (σ := L2.wipe σ vs) (π := []) (vs := vs) (by rw [ww]; exact hw) (by rw [wipe_length]; exact hl) (fun j b q => (at_forget q).2) (fun p h => by cases h)
                have m8 : Mt C [] (forget vs pz.2) (L2.wipe σ vs) { w7 with H := upd w7.H D (.lst (xs ++ [yv])) } := by
                  refine ⟨m7'.len, fun a u qa => ?_, fun j b qb => ?_, m7'.non, m7'.dis, m7'.pin⟩
                  · show upd w7.H D (.lst (xs ++ [yv])) a = some u
                    rw [upd_ne (ne_of_none qa hGD)]
                    exact m7'.sub a u qa
                  · obtain ⟨v, b1, b2⟩ := m7'.bok j b qb
                    refine ⟨v, b1, b2.mono (Same.refl _) fun a ha => ⟨upd_ne fun z => hnD j (by rw [← z]; exact ha), rfl⟩⟩
                have f37 : Frm w3 w7 := (f4.trans f6).trans f7
                have fw7 := fr.trans f37
                have tok7 : TOk C w7.G w7.H pz.1 yv bs := by rw [eH7, eG7]; exact b1
                have nd8 : (D :: (as ++ bs ++ ex)).Nodup := by
                  obtain ⟨d1, d2⟩ := List.nodup_cons.mp A7.hid.nd
                  obtain ⟨d3, d4, d5⟩ := List.nodup_append.mp d2
                  refine List.nodup_cons.mpr ⟨fun z => hDb _ z rfl, List.nodup_append.mpr ⟨List.nodup_append.mpr ⟨d3, b3, fun a ha b hb z => ?_⟩, d4, fun a ha b hb z => ?_⟩⟩
                  · subst z
                    exact dj _ hb (List.mem_cons_of_mem _ (List.mem_append_left _ ha))
                  · rcases List.mem_append.mp ha with ha | ha
                    · exact d5 a ha b hb z
                    · subst z
                      exact dj _ ha (List.mem_cons_of_mem _ (List.mem_append_right _ hb))
                have A8 : Acc C w { w7 with H := upd w7.H D (.lst (xs ++ [yv])) } D (xs ++ [yv]) (acc ++ [pz.1]) (as ++ bs) ex := by
                  refine ⟨upd_same, (A7.al.append (TAll.one tok7)).mono (Same.refl _) fun a ha => ⟨upd_ne (hDb a (List.mem_append_left _ ha)), rfl⟩, ⟨nd8, fun a ha => ?_, fun a ha => ?_, fun a ha j z => ?_⟩, fun a ha => ?_⟩
                  · rcases List.mem_cons.mp ha with rfl | ha
                    · exact hGD
                    · rcases List.mem_append.mp ha with ha | ha
                      · rcases List.mem_append.mp ha with ha | ha
                        · exact A7.hid.g a (List.mem_cons_of_mem _ (List.mem_append_left _ ha))
                        · exact (tok7.own a ha).1
                      · exact A7.hid.g a (List.mem_cons_of_mem _ (List.mem_append_right _ ha))
                  · by_cases z : a = D
                    · exact ⟨_, by rw [z]; exact upd_same⟩
                    · have key : ∃ o, w7.H a = some o := by
                        rcases List.mem_cons.mp ha with rfl | ha
                        · exact absurd rfl z
                        · rcases List.mem_append.mp ha with ha | ha
                          · rcases List.mem_append.mp ha with ha | ha
                            · exact A7.hid.h a (List.mem_cons_of_mem _ (List.mem_append_left _ ha))
                            · exact (tok7.own a ha).2
                          · exact A7.hid.h a (List.mem_cons_of_mem _ (List.mem_append_right _ ha))
                      obtain ⟨o, ho⟩ := key
                      exact ⟨o, (upd_ne z).trans ho⟩
                  · have z' : w7.fp j a := z
                    rcases List.mem_cons.mp ha with rfl | ha
                    · exact hnD j z'
                    · rcases List.mem_append.mp ha with ha | ha
                      · rcases List.mem_append.mp ha with ha | ha
                        · exact A7.hid.n a (List.mem_cons_of_mem _ (List.mem_append_left _ ha)) j z'
                        · exact (b2 a ((b4 a).mpr ha)).2 j (hl7 j a z')
                      · exact A7.hid.n a (List.mem_cons_of_mem _ (List.mem_append_right _ ha)) j z'
                  · rcases List.mem_cons.mp ha with rfl | ha
                    · exact A7.src _ List.mem_cons_self
                    · rcases List.mem_append.mp ha with ha | ha
                      · exact A7.src a (List.mem_cons_of_mem _ ha)
                      · exact (fr.trans f4).back (b2 a ((b4 a).mpr ha)).1
                have := hN (forget vs pz.2) { w7 with H := upd w7.H D (.lst (xs ++ [yv])) } (acc ++ [pz.1]) (xs ++ [yv]) (as ++ bs) m8 (fun j b q => (at_forget q).2) ⟨fw7.g, fun a o ha hna => by
                    obtain ⟨b1, b2, b3⟩ := fw7.k a o ha hna
                    refine ⟨?_, b2, b3⟩
                    show upd w7.H D _ a = some o
                    rw [upd_ne (ne_of_none ha hD)]
                    exact b1, fun a ha => by
                    by_cases z : a = D
                    · rw [z]; exact hD
                    · have ha' : upd w7.H D (.lst (xs ++ [yv])) a = none := ha
                      rw [upd_ne z] at ha'
                      exact fw7.t a ha'⟩ f37.g A8 (fun a ha => by
                    have k := (A.hid.step f37).2 a (List.mem_cons_of_mem _ (List.mem_append_right _ ha))
                    exact ⟨(upd_ne (hDb a (List.mem_append_right _ ha))).trans k.1, k.2⟩) h
                rw [← eH6, ← eH7]
                exact this
section
variable {W : WX} {ta : FT} {fa fx : FE} {fi : FI} {ft : FG}
theorem se_lcT {C : Cc} {wi : TI} {t : TG} {tt : TT} {te : TE} {vs : List Nat} (si : SI C W wi fi) (sg : SG C [] t ft) (wg : WipeG t vs) (st : ST C W0 tt ta) (sf : SE C W0 te fa) : SE C W (tLc wi t tt te vs) (fLcT fi ft ta fa vs) := fun π e σ w Q m h => by
  refine si π e σ w _ m (h.bnd fun ds e1 J w1 m1 f1 k1 h1 => ?_)
  intro D hD
  obtain ⟨wf, mf, ff, eHf, eGf, hlf⟩ := m1.forget (vs := vs)
  have hDf : wf.H D = none := by rw [eHf]; exact hD
  have hDw : w.H D = none := f1.t D hD
  have hG1 : wf.G D = none := mf.sub.free hDf
  have m2 := mf.new (o := .lst []) hDf
  have f2 := Frm.new (o := .lst []) hDf
  have hno : ∀ i, ¬ (wf.new D (.lst [])).fp i D := fun i => mf.notOwned hDf i
  have mw : Mt C [] (forget vs e1) (L2.wipe σ vs) (wf.new D (.lst [])) := m2.wipe fun i b q => (at_forget q).2
  have A0 : Acc C w (wf.new D (.lst [])) D [] [] [] [] := ⟨upd_same, .nil, ⟨by simp, fun a ha => by
    have : a = D := by simpa using ha
    subst this
    exact hG1, fun a ha => by
    have : a = D := by simpa using ha
    subst this
    exact ⟨_, upd_same⟩, fun a ha => by
    have : a = D := by simpa using ha
    subst this
    exact hno⟩, fun a ha => by
    have : a = D := by simpa using ha
    subst this
    exact .inl hDw⟩
  refine ⟨fun i n H' => n = ds.length - i ∧ i ≤ ds.length ∧ ∃ e' w' acc xs as, w'.H = H' ∧ Mt C [] e' (L2.wipe σ vs) w' ∧ (∀ j b, at? e' j = some b → j ∉ vs) ∧ Frm w w' ∧ Same w1.G w'.G ∧ Acc C w w' D xs acc as [] ∧ Post C W π σ w (fLcTL ft ta fa vs (ds.drop i) acc e') (OOk C σ w) Q,
    ⟨ds.length, by simp, Nat.zero_le _, forget vs e1, wf.new D (.lst []), [], [], [], by rw [show (wf.new D (.lst [])).H = upd wf.H D (.lst []) from rfl, eHf], mw, fun j b q => (at_forget q).2, (f1.trans ff).trans f2, (ff.trans f2).g, A0, by rw [List.drop_zero]; exact h1⟩, ?_⟩
  rintro i n H' ⟨rfl, hi, e', w', acc, xs, as, rfl, m', hv', frw, sG, A, h3⟩
  obtain ⟨go, stop, yld⟩ := k1 i [] e' _ w' m' sG
  by_cases hlt : i < ds.length
  · refine .inr ⟨go hlt, fun H2 => i + 1 ≤ ds.length ∧ ∃ e' w' acc xs as, w'.H = H2 ∧ Mt C [] e' (L2.wipe σ vs) w' ∧ (∀ j b, at? e' j = some b → j ∉ vs) ∧ Frm w w' ∧ Same w1.G w'.G ∧ Acc C w w' D xs acc as [] ∧ Post C W π σ w (fLcTL ft ta fa vs (ds.drop (i + 1)) acc e') (OOk C σ w) Q,
      fun H2 q => ⟨ds.length - (i + 1), by omega, rfl, q⟩, fun x H2 y => ?_⟩
    obtain ⟨w2, m2, f2, eH2, r2⟩ := yld x H2 y ds[i] (List.getElem?_eq_getElem hlt)
    subst eH2
    rw [List.drop_eq_getElem_cons hlt] at h3
    unfold fLcTL at h3
    cases q : ft ds[i] e' with
    | none => rw [q] at h3; exact h3.elim
    | some e3 =>
      rw [q] at h3
      dsimp only at h3
      have ww := wipe_wipe (σ := σ) (vs := vs)
      exact wg x _ _ _ _ ww (sg [] e' _ w2 ds[i] x e3 _ (fun p h => by cases h) m2 r2 q fun σ3 w3 m3 f3 _ hw hl =>
        lc_turn st sf hw (hl.trans (wipe_length σ vs)) m3 ((frw.trans f2).trans f3) hDw ((A.step f2).step f3) _ (fun e5 w5 acc5 xs5 as5 g1 g2 g3 g4 g5 _ g7 => ⟨hlt, e5, w5, acc5, xs5, as5, rfl, g1, g2, g3, (sG.trans (f2.trans f3).g).trans g4, g5, g7⟩) h3)
  · have e2 : i = ds.length := by omega
    subst e2
    rw [List.drop_length] at h3
    refine .inl ⟨stop (Nat.le_refl _), ?_⟩
    have mu : Mt C π e' σ w' := m'.unwipe (σ := σ) (vs := vs) wipe_wipe (wipe_length σ vs) hv' m.pin
    exact h3 (.ref D) w' mu frw A.out
end
section
variable {X : Cx} {ρ : Nat → Res} {W : WX} {pn : List Nat} {tg iter elt : Expr} {ifs : List Expr} {pos : Pos} {fa fx : FE} {ta : FT} {fi : FI} {ft : FG}
theorem ve_lcT {scope : Scope} (V0 : Vx X W) (own : List (Str × Nat)) {t : TG} (hi : VI X ρ W tg iter fi) (ok : blkC X.N X.env.scope scope own = true)
    (hg : ∀ (s : Shared) (H : Hp) (C : Addr) (cl : List (Str × Addr)) (fp : List Addr), PG (X.blk s H scope (compEnvC scope cl C X.env) fp) tg t) (sg : SG (cc X ρ) [] t ft) (wg : WipeG t (own.map (·.2)))
    (ht : ∀ (s : Shared) (H : Hp) (C : Addr) (cl : List (Str × Addr)) (fp : List Addr), Vx (X.blk s H scope (compEnvC scope cl C X.env) fp) W0 → VC (X.blk s H scope (compEnvC scope cl C X.env) fp) ρ ifs ta)
    (he : ∀ (s : Shared) (H : Hp) (C : Addr) (cl : List (Str × Addr)) (fp : List Addr), Vx (X.blk s H scope (compEnvC scope cl C X.env) fp) W0 → VE (X.blk s H scope (compEnvC scope cl C X.env) fp) ρ W0 elt fa) (hs : ∀ x, foldedSetIterable iter X.env x = pure x := by intro _; rfl) :
    VE X ρ W (.ListComp elt [⟨tg, iter, ifs, 0⟩] scope pos) (fLcT fi ft ta fa (own.map (·.2))) := by
  obtain ⟨wi, pi, si⟩ := hi
  obtain ⟨tt, te, p1, p2, s1, s2⟩ := lc_parts V0 ht he
  exact ⟨_, pe_lc V0.calm V0.nd pi (blkOk_by ok) hg p1 p2 hs, se_lcT si sg wg s1 s2⟩
end
end VL
set_option maxRecDepth 100000
namespace VL
open PySem L2
end VL
set_option maxRecDepth 100000
namespace VL
open PySem L2
end VL
set_option maxRecDepth 100000
namespace VL
open PySem L2
section
variable {C : Cc} {W : WX} {π : List (Nat × V)} {e e' : Env} {σ σ' : St} {w w0 w1 : WS}
/-- what slots hold, pinned -/
def pins (σ : St) (e : Env) (ks : List Nat) : List (Nat × V) := ks.filterMap fun k => match at? e k, σ[k]? with
  | some _, some (some v) => some (k, v)
  | _, _ => none
end
end VL
set_option maxRecDepth 100000
namespace VL
open PySem L2 PySem.Spec PyProof.Rows
end VL
set_option maxRecDepth 100000
namespace VL
open PySem L2
end VL
set_option maxRecDepth 100000
set_option maxHeartbeats 2000000
namespace VL
open PySem L2 PySem.Spec PyProof.Rows
/-- what holds within an except suite -/
structure Vh (X : Cx) (W : WX) : Prop where
  room : L2H.RoomH 1 X.A
  gd : X.A.guards = some []
  sm : SmB X.base
  nd : X.N.Nodup
  tk : Takes X W
theorem Vh.u66 {X : Cx} {W : WX} (V0 : Vh X W) : X.A.units + 66 < cLine := by have := V0.room.un; omega
end VL
set_option maxRecDepth 100000
set_option maxHeartbeats 2000000
namespace VL
open PySem L2 PySem.Spec PyProof.Rows
/-- what a def promises there -/
structure FnU (P : Program) (w : World) (K : PySem.W.Frag) (mg : Str → Option Value) (base : Heap) (k : Nat) (f : Addr) (fd : FuncData) (ps : List Str) (sp : Sp) : Prop where
  cnt : ∀ vs H Q E, sp vs H Q E → vs.length = ps.length
  go : ∀ (A : Around) (out : List PySem.Env) (s : Shared) (H : Hp) (ar : Args) (us : List Value) (vs : List V) (Q : VK) (E : XK), L2H.RoomH k A → A.guards = some [] → SmB base → Env0 P w K mg base A out s H → BindsTo s fd ar (ps.zip us) → Vals vs us → sp vs H Q E →
    codeAny (model P w) A (.call (.ref f) ar) (CR (L2.CX P w) out P w H s Q E) s
section
variable {X : Cx} {k : Nat} {f : Addr} {fd : FuncData} {ps : List Str} {sp : Sp} {E : L2.St → XK} {x : Str} {p pos : Pos} {e : Expr} {es : List Expr} {t : TA}
theorem FnU.runs {pins : List (Addr × Obj)} {σ : L2.St} {H : Hp} {s : Shared} {Q : VK} {us : List Value} {vs : List V} (Fu : FnU X.prog X.w X.K X.mg X.base k f fd ps sp) (rh : L2H.RoomH k X.A) (gd : X.A.guards = some []) (sm : SmB X.base) (bn : Binds X.K fd ps [])
    (ps1 : PassesAt (L2.CX X.prog X.w) X σ (E σ)) (J : Inv X pins σ H s) (rv : Vals vs us) (hs : sp vs H Q (E σ)) : wpAny (model X.prog X.w) X.A (call (.ref f) us) (EP X pins σ Q) X.xe s := by
  have ln : us.length = ps.length := rv.length.symm.trans (Fu.cnt _ _ _ _ hs)
  have bb := bn s us J.kIn (by rw [List.append_nil, ln]); rw [List.append_nil] at bb
  refine wpAny_call (codeAny_mono (Fu.go X.A X.stack s H ⟨us, []⟩ us vs Q (E σ) rh gd sm J.env0 bb rv hs) fun res s2 ce => ?_)
  rcases res with er | fl
  · exact ps1 pins H s er s2 J ce
  · rcases fl with _ | _ | _ | u
    all_goals first | exact J.after ce | exact ce.elim
end
end VL
set_option maxRecDepth 100000
namespace VL
open PySem L2 PySem.Spec PyProof.Rows
end VL
set_option maxRecDepth 100000
namespace VL
open PySem L2
def Tr.sub : Tr → List Nat → Option Tr
  | t, [] => some t
  | .nd .lst ts, k :: ks => ts[k]?.bind fun t => t.sub ks
  | .nd .tup ts, k :: ks => ts[k]?.bind fun t => t.sub ks
  | _, _ :: _ => none
def Tr.put : Tr → List Nat → Tr → Option Tr
  | _, [], s => some s
  | .nd .lst ts, k :: ks, s => ts[k]?.bind fun t => (t.put ks s).map fun t' => .nd .lst (ts.set k t')
  | .nd .tup ts, k :: ks, s => ts[k]?.bind fun t => (t.put ks s).map fun t' => .nd .tup (ts.set k t')
  | _, _ :: _, _ => none
/-- from v by items to u -/
def Walk (H : Hp) : V → List Nat → V → Prop
  | v, [], u => v = u
  | v, k :: ks, u => ∃ p xs x, v = .ref p ∧ (H p = some (.lst xs) ∨ H p = some (.tup xs)) ∧ xs[k]? = some x ∧ Walk H x ks u
theorem Walk.fn {H : Hp} : ∀ {ks : List Nat} {v u u' : V}, Walk H v ks u → Walk H v ks u' → u = u'
  | [], _, _, _, h, h' => h.symm.trans h'
  | k :: ks, _, _, _, ⟨p, xs, x, e, h1, h2, h3⟩, ⟨p', xs', x', e', h1', h2', h3'⟩ => by
    rw [e] at e'
    cases e'
    have : xs = xs' := by
      rcases h1 with h1 | h1 <;> rcases h1' with h1' | h1' <;> rw [h1] at h1' <;> cases h1' <;> rfl
    subst this
    rw [h2] at h2'
    cases h2'
    exact Walk.fn h3 h3'
section
variable {C : Cc} {G H : Hp}
theorem TAll.sub1 : ∀ {ts : List Tr} {xs : List V} {as : List Addr} {k : Nat} {t : Tr}, TAll C G H ts xs as → ts[k]? = some t → ∃ x a1 bs a2, xs[k]? = some x ∧ as = a1 ++ bs ++ a2 ∧ TOk C G H t x bs ∧
    ∀ t' bs' H', TOk C G H' t' x bs' → (∀ a ∈ a1 ++ a2, H' a = H a) → TAll C G H' (ts.set k t') xs (a1 ++ bs' ++ a2)
  | _, _, _, k, t, .nil, h => by simp at h
  | _, _, _, 0, t, .cons (as := as) (bs := bs) h1 h2, h => by
    rw [List.getElem?_cons_zero] at h
    cases h
    refine ⟨_, [], as, bs, rfl, by simp, h1, fun t' bs' H' h3 hk => ?_⟩
    rw [List.set_cons_zero, List.nil_append]
    exact .cons h3 (h2.mono (Same.refl _) fun a ha => ⟨hk a (by simpa using ha), rfl⟩)
  | _, _, _, k + 1, t, .cons (as := as) (bs := bs) h1 h2, h => by
    rw [List.getElem?_cons_succ] at h
    obtain ⟨x, a1, cs, a2, g1, g2, g3, g4⟩ := TAll.sub1 h2 h
    refine ⟨x, as ++ a1, cs, a2, by rw [List.getElem?_cons_succ]; exact g1, by rw [g2]; simp, g3, fun t' bs' H' h3 hk => ?_⟩
    have h5 := g4 t' bs' H' h3 fun a ha => hk a (by
      rcases List.mem_append.mp ha with ha | ha
      · exact List.mem_append_left _ (List.mem_append_right _ ha)
      · exact List.mem_append_right _ ha)
    have h6 := TAll.cons (h1.mono (H' := H') (Same.refl _) fun a ha => ⟨hk a (List.mem_append_left _ (List.mem_append_left _ ha)), rfl⟩) h5
    rw [List.set_cons_succ]
    simpa using h6
end
abbrev PM := Tr → Env → Option (Out (List Nat))
section
variable {C : Cc} {W : WX} {π : List (Nat × V)} {σ : St} {w w1 : WS} {α β α' β' : Type} {r : Option (Out α)} {rel : WS → α → β → Prop} {Q : β → Hp → Prop} {rel' : WS → α' → β' → Prop} {Q' : β' → Hp → Prop} {k : α → Env → Option (Out α')} {q : Nat × V}
theorem Post.bndP {w0 : WS} {Q' : β' → Hp → Prop} {rel' : WS → α' → β' → Prop} (h : Post C W π σ w0 (VL.bnd r k) rel' Q') (f0 : Frm w0 w) (hk : ∀ a e b w1, Mt C (q :: π) e σ w1 → Frm w w1 → rel w1 a b → Post C W π σ w0 (k a e) rel' Q' → Q b w1.H) : Post C W (q :: π) σ w r rel Q := by
  cases r with
  | none => exact h
  | some x =>
    cases x with
    | ok a e => exact fun b w' m f z => hk a e b w' m f z h
    | ex c e => exact fun w' A hA m f => h w' A hA m.unpin (f0.trans f)
theorem PostS.bndP {w0 : WS} {r : Option (Out α)} {k : α → Env → Option SO} {D : Ends} (h : PostS C W π w0 (VL.bndS r k) D) (f0 : Frm w0 w) (hk : ∀ a e b w1, Mt C (q :: π) e σ w1 → Frm w w1 → rel w1 a b → PostS C W π w0 (k a e) D → Q b w1.H) : Post C W (q :: π) σ w r rel Q := by
  cases r with
  | none => exact h.elim
  | some x =>
    cases x with
    | ok a e => exact fun b w' m f z => hk a e b w' m f z h
    | ex c e => exact fun w' A hA m f => h σ w' A hA m.unpin (f0.trans f)
end
end VL
set_option maxRecDepth 100000
namespace VL
open PySem L2
end VL
set_option maxRecDepth 100000
namespace VL
open PySem L2
end VL
set_option maxRecDepth 100000
namespace VL
open PySem L2 PySem.Spec PyProof.Rows
end VL
set_option maxRecDepth 100000
namespace VL
open PySem L2
end VL
set_option maxRecDepth 100000
namespace VL
open PySem L2
end VL
set_option maxRecDepth 100000
namespace VL
open PySem L2 PySem.Spec PyProof.Rows
end VL
set_option maxRecDepth 100000
namespace VL
open PySem L2
end VL
set_option maxRecDepth 100000
namespace VL
open PySem L2
section
variable {C : Cc} {W : WX} {pn : List Nat} {tt : TT} {te : TE} {ft : FT} {fe : FE} {i j h : Nat}
theorem Mt.swap {C : Cc} {π : List (Nat × V)} {a b : Nat × V} {e : Env} {σ : St} {w : WS} (m : Mt C (a :: b :: π) e σ w) : Mt C (b :: a :: π) e σ w := ⟨m.len, m.sub, m.bok, m.non, m.dis, fun q hq => m.pin q (by
  rcases List.mem_cons.mp hq with rfl | hq
  · exact List.mem_cons_of_mem _ List.mem_cons_self
  · rcases List.mem_cons.mp hq with rfl | hq
    · exact List.mem_cons_self
    · exact List.mem_cons_of_mem _ (List.mem_cons_of_mem _ hq))⟩
theorem Rws.tok {C : Cc} {w0 w : WS} {p : Addr} {xs : List V} {us ts : List Tr} {k : Nat} {as1 as2 : List Addr} (r : Rws C w0 w p xs us ts k as1 as2) : TOk C w.G w.H (.nd .lst (us ++ ts)) (.ref p) (p :: (as1 ++ as2)) := by
  refine .lst (r.hid.g p List.mem_cons_self) r.at_ ?_
  have := r.a1.append r.a2
  rwa [List.take_append_drop] at this
end
end VL
set_option maxRecDepth 100000
namespace VL
open PySem L2
def keqL : List PyData → List PyData → Bool
  | [], [] => true
  | a :: as, b :: bs => keq a b && keqL as bs
  | _, _ => false
def keqT : PyData → PyData → Bool
  | .tuple as, .tuple bs => keqL as bs
  | _, _ => false
def kPT (k : List Key) : PyData := .tuple (k.map kP)
theorem keqL_kP : ∀ a b : List Key, keqL (a.map kP) (b.map kP) = decide (a = b)
  | [], [] => rfl
  | [], _ :: _ => rfl
  | _ :: _, [] => rfl
  | a :: as, b :: bs => by
    show (keq (kP a) (kP b) && keqL (as.map kP) (bs.map kP)) = _
    rw [keq_kP, keqL_kP, ← Bool.decide_and]
    exact decide_eq_decide.mpr (by simp)
theorem keqT_kP (a b : List Key) : keqT (kPT a) (kPT b) = decide (a = b) := keqL_kP a b
def putDT (ds : DKv) (k v : PyData) : DKv := if (ds.any fun p => keqT p.1 k) = true then ds.map (fun p => if keqT p.1 k = true then (p.1, v) else p) else ds ++ [(k, v)]
inductive RpDT (K : PySem.W.Frag) (G : Hp) : List (List Key × V) → DKv → Prop
  | nil : RpDT K G [] []
  | cons {k : List Key} {v : V} {d : PyData} {ks : List (List Key × V)} {ds : DKv} : Rp K G v d → RpDT K G ks ds → RpDT K G ((k, v) :: ks) ((kPT k, d) :: ds)
section
variable {K : PySem.W.Frag} {G : Hp}
theorem RpDT.length : ∀ {ks : List (List Key × V)} {ds : DKv}, RpDT K G ks ds → ks.length = ds.length
  | _, _, .nil => rfl
  | _, _, .cons _ t => by rw [List.length_cons, List.length_cons, t.length]
theorem RpDT.mono {G' : Hp} (e : Same G G') : ∀ {ks : List (List Key × V)} {ds : DKv}, RpDT K G ks ds → RpDT K G' ks ds
  | _, _, .nil => .nil
  | _, _, .cons r t => .cons (r.mono e) (t.mono e)
theorem RpDT.append : ∀ {ks ls : List (List Key × V)} {ds es : DKv}, RpDT K G ks ds → RpDT K G ls es → RpDT K G (ks ++ ls) (ds ++ es)
  | _, _, _, _, .nil, t => t
  | _, _, _, _, .cons r t, u => .cons r (t.append u)
theorem RpDT.any : ∀ {ks : List (List Key × V)} {ds : DKv}, RpDT K G ks ds → ∀ k : List Key, (ks.any fun p => decide (p.1 = k)) = ds.any fun p => keqT p.1 (kPT k)
  | _, _, .nil, k => rfl
  | _, _, .cons (k := a) r t, k => by rw [List.any_cons, List.any_cons, keqT_kP, t.any k]
theorem RpDT.over {v : V} {d : PyData} (k : List Key) (r : Rp K G v d) : ∀ {ks : List (List Key × V)} {ds : DKv}, RpDT K G ks ds → RpDT K G (ks.map (fun kv => if kv.1 = k then (kv.1, v) else kv)) (ds.map fun p => if keqT p.1 (kPT k) = true then (p.1, d) else p)
  | _, _, .nil => .nil
  | _, _, .cons (k := a) r1 t => by
    rw [List.map_cons, List.map_cons, keqT_kP]
    by_cases q : a = k
    · rw [if_pos q, if_pos (decide_eq_true q)]
      exact .cons r (RpDT.over k r t)
    · rw [if_neg q, if_neg (by rw [decide_eq_false q]; decide)]
      exact .cons r1 (RpDT.over k r t)
theorem RpDT.put {ks : List (List Key × V)} {ds : DKv} {v : V} {d : PyData} (h : RpDT K G ks ds) (k : List Key) (r : Rp K G v d) : RpDT K G (putK ks k v) (putDT ds (kPT k) d) := by
  unfold putK putDT
  rw [h.any k]
  split
  · exact h.over k r
  · exact h.append (.cons r .nil)
end
/-- a dict with tuples as keys, at an address of its own -/
def DTR : Res where
  rep := fun K G H v d fp => ∃ p ks ds, v = .ref p ∧ G p = none ∧ H p = some (.dT ks) ∧ d = .dict ds ∧ RpDT K G ks ds ∧ ∀ a, fp a ↔ a = p
  frame := by
    rintro K G H G' H' v d fp ⟨p, ks, ds, e0, h1, h2, h3, h4, h5⟩ s k
    have q := k p ((h5 p).mpr rfl)
    exact ⟨p, ks, ds, e0, q.2.trans h1, q.1.trans h2, h3, h4.mono s, h5⟩
  own := by
    rintro K G H v d fp ⟨p, ks, ds, e0, h1, h2, _, _, h5⟩ a ha
    obtain rfl := (h5 a).mp ha
    exact ⟨h1, _, h2⟩
end VL
set_option maxRecDepth 100000
namespace VL
open PySem L2 PySem.Spec PyProof.Rows
end VL
set_option maxRecDepth 100000
namespace VL
open PySem L2 PySem.Spec PyProof.Rows PySem.Calls
/-- a dict with tuples as keys that is written no more -/
def FZT : Res where
  rep := fun K G H v d fp => ∃ p od ks ds, v = .ref p ∧ G p = some (.frz od (.dT ks)) ∧ d = .dict ds ∧ RpDT K G ks ds ∧ ∀ a, ¬ fp a
  frame := by
    rintro K G H G' H' v d fp ⟨p, od, ks, ds, e0, h1, h2, h3, h4⟩ s k
    exact ⟨p, od, ks, ds, e0, s _ _ h1, h2, h3.mono s, h4⟩
  own := by
    rintro K G H v d fp ⟨p, od, ks, ds, e0, h1, h2, h3, h4⟩ a ha
    exact (h4 a ha).elim
end VL
set_option maxRecDepth 100000
namespace VL
open PySem L2
theorem PostS.pin {C : Cc} {W : WX} {π : List (Nat × V)} {q : Nat × V} {w : WS} {r : Option SO} {D : Ends} (h : PostS C W π w r D) : PostS C W (q :: π) w r D := by
  cases r with
  | none => exact h
  | some x =>
    cases x with
    | nx e => exact fun σ' w' m f => h σ' w' m.unpin f
    | rt b e => exact fun v σ' w' m f k => h v σ' w' m.unpin f k
    | bk e => exact fun σ' w' m f => h σ' w' m.unpin f
    | ct e => exact fun σ' w' m f => h σ' w' m.unpin f
    | ex c e => exact fun σ' w' A hA m f => h σ' w' A hA m.unpin f
end VL
set_option maxRecDepth 100000
namespace VL
open PySem L2 PySem.Spec PyProof.Rows
end VL
set_option maxRecDepth 100000
namespace VL
open PySem PySem.Spec PyProof.Rows PySem.Calls PySem.SeqAt
end VL
set_option maxRecDepth 100000
namespace VL
open PySem L2 PySem.Spec PyProof.Rows
open PySem.W (alike dataLt)
open PySem.SeqAt (shaped)
end VL
set_option maxRecDepth 100000
namespace VP
open PySem L2 VL
def h__law_draw : Fn := drawF
/-- 0: thing -/
def b_is_whole : FS :=
  (sRetO (fAndV (fIsi .int (fVar 0)) (fNotV (fIsi .bool (fVar 0)))))
def h_is_whole : Fn := runF b_is_whole 1
/-- 0: thing, 1: one -/
def b_is_order : FS :=
  (sSeq (sIf (tOr (tNot (fTest (fIsi .list (fVar 0)))) (tNot (fTest (fChain oLe oLe (fC (.int 1)) (fCB gLen (aCons (fVar 0) aNil)) (fC (.int 12)))))) (sRetO (fC (.bool false))) sNil)
  (sSeq (sIf (fTest (fBin oNe (fLc (iSeq (fVar 0)) (gN 1) (tNot (fTest (fCallP h_is_whole 1 (aP (fVar 1) aNil)))) (fVar 1) [1]) (fLst dNil))) (sRetO (fC (.bool false))) sNil)
  (sRetO (fBin oEq (fCB gSorted (aCons (fVar 0) aNil)) (fListRg1 (fCB gLen (aCons (fVar 0) aNil)))))))
def h_is_order : Fn := runF b_is_order 2
/-- 0: thing -/
def b_need_order : FS :=
  (sIf (tNot (fTest (fCallP h_is_order 1 (aP (fVar 0) aNil)))) (sRaise "NoOrder") sNil)
def h_need_order : Fn := runF b_need_order 1
/-- 0: script, 1: pools, 2: k, 3: cell -/
def b__law_deck : FS :=
  (sSeq (sNewP 1)
  (sSeq (sFor (iRange1 (fCB gMax (aCons (fC (.int 1)) (aCons (fCB gMin (aCons (fC (.int 63)) (aCons (fScLen (fVar 0)) aNil))) aNil)))) (gN 2) (sSeq (sAsg 3 (fC (.int 0)))
  (sSeq (sIf (fTest (fBin oLt (fVar 2) (fScLen (fVar 0)))) (sAsg 3 (fScIx (fVar 0) (fVar 2))) sNil)
  (sAppP 1 (dCons (fVar 3) (dCons (fCB gInt (aCons (fBin oGe (fVar 3) (fBin oPow (fC (.int 10)) (fC (.int 18)))) aNil)) (dCons (fBin oMul (fC (.int 31)) (fVar 2)) dNil)))))) [2, 3])
  (sRetO (fDeck 1))))
def h__law_deck : Fn := runF b__law_deck 4
/-- 0: deck, 1: n, 2: left, 3: way, 4: k, 5: p -/
def b__law_order : FS :=
  (sSeq (sOwn 2 (fListRg1 (fVar 1)))
  (sSeq (sAsg 3 (fCall h__law_draw 2 [(0, 0)] (aM 0 (aF (fC (.int 4)) aNil))))
  (sSeq (sIf (fTest (fBin oEq (fVar 3) (fC (.int 0)))) (sRetO (fLc (iRange1 (fVar 1)) (gN 4) tTrue (fMth 2 mPop (dCons (fCall h__law_draw 2 [(0, 0)] (aM 0 (aF (fCB gLen (aCons (fVar 2) aNil)) aNil))) dNil)) [4])) sNil)
  (sSeq (sIf (fTest (fBin oEq (fVar 3) (fC (.int 1)))) (sOwn 2 (fUn oRev (fVar 2))) sNil)
  (sSeq (sFor (iRange1 (fBin oMul (fCall h__law_draw 2 [(0, 0)] (aM 0 (aF (fC (.int 7)) aNil))) (fCB gInt (aCons (fBin oGt (fVar 1) (fC (.int 1))) aNil)))) (gN 4) (sSeq (sAsg 5 (fCall h__law_draw 2 [(0, 0)] (aM 0 (aF (fBin oSub (fVar 1) (fC (.int 1))) aNil))))
  (sPut2 2 (fVar 5) 2 (fBin oAdd (fVar 5) (fC (.int 1))) (dCons (fBin oIx (fVar 2) (fBin oAdd (fVar 5) (fC (.int 1)))) (dCons (fBin oIx (fVar 2) (fVar 5)) dNil)))) [4, 5])
  (sRetO (fVar 2)))))))
def h__law_order : Fn := runF b__law_order 6
end VP
set_option maxRecDepth 100000
namespace VP
open PySem L2 VL
/-- 0: deck, 1: order, 2: found, 3: n, 4: way, 5: thing, 6: k, 7: p, 8: q -/
def b__law_near : FS :=
  (sSeq (sOwn 2 (fCB gList (aCons (fVar 1) aNil)))
  (sSeq (sAsg 3 (fCB gLen (aCons (fVar 1) aNil)))
  (sSeq (sAsg 4 (fCall h__law_draw 2 [(0, 0)] (aM 0 (aF (fC (.int 5)) aNil))))
  (sSeq (sIf (fTest (fBin oEq (fVar 4) (fC (.int 0)))) (sRetO (fCall h__law_order 2 [(0, 0)] (aM 0 (aF (fVar 3) aNil)))) sNil)
  (sSeq (sIf (fTest (fBin oEq (fVar 4) (fC (.int 1)))) (sRetO (fUn oRev (fVar 2))) sNil)
  (sSeq (sIf (fTest (fBin oEq (fVar 4) (fC (.int 2)))) (sSeq (sAsg 5 (fMth 2 mPop (dCons (fCall h__law_draw 2 [(0, 0)] (aM 0 (aF (fVar 3) aNil))) dNil)))
  (sSeq (sExpr (fMth 2 mInsert (dCons (fCall h__law_draw 2 [(0, 0)] (aM 0 (aF (fVar 3) aNil))) (dCons (fVar 5) dNil))))
  (sRetO (fVar 2)))) sNil)
  (sSeq (sFor (iRange1 (fCall h__law_draw 2 [(0, 0)] (aM 0 (aF (fC (.int 5)) aNil)))) (gN 6) (sSeq (sAsg 7 (fCall h__law_draw 2 [(0, 0)] (aM 0 (aF (fVar 3) aNil))))
  (sSeq (sAsg 8 (fBin oIx (fLst (dCons (fCall h__law_draw 2 [(0, 0)] (aM 0 (aF (fVar 3) aNil))) (dCons (fCB gMin (aCons (fBin oSub (fVar 3) (fC (.int 1))) (aCons (fBin oAdd (fVar 7) (fC (.int 1))) aNil))) dNil))) (fBin oSub (fVar 4) (fC (.int 3)))))
  (sPut2 2 (fVar 7) 2 (fVar 8) (dCons (fBin oIx (fVar 2) (fVar 8)) (dCons (fBin oIx (fVar 2) (fVar 7)) dNil))))) [6, 7, 8])
  (sRetO (fVar 2)))))))))
def h__law_near : Fn := runF b__law_near 9
end VP
set_option maxRecDepth 100000
namespace VP
open PySem L2 VL
/-- 0: order, 1: found, 2: place, 3: thing -/
def b_turned_back : FS :=
  (sSeq (sOwn 1 (fBin oMul (fLst (dCons (fC (.int 0)) dNil)) (fCB gLen (aCons (fVar 0) aNil))))
  (sSeq (sFor (iEnumr (fVar 0)) (gT2 2 3) (sPut 1 (fVar 3) (fVar 2)) [2, 3])
  (sRetO (fVar 1))))
def h_turned_back : Fn := runF b_turned_back 4
end VP
set_option maxRecDepth 100000
namespace VP
open PySem L2 VL
/-- 0: way -/
def b_need_way : FS :=
  (sIf (tOr (tNot (fTest (fIsi .str (fVar 0)))) (fTest (fInT true ["swap", "spot", "shift"] (fVar 0)))) (sRaise "NoWay") sNil)
def h_need_way : Fn := runF b_need_way 1
/-- 0: way, 1: one, 2: other, 3: here, 4: there, 5: many, 6: thing, 7: less, 8: p, 9: q -/
def b_far_by : FS :=
  (sSeq (sIf (fTest (fBin oEq (fVar 0) (fC (.str "spot")))) (sRetO (fCB gLen (aCons (fLc (iRange1 (fCB gLen (aCons (fVar 1) aNil))) (gN 8) (fTest (fBin oNe (fBin oIx (fVar 1) (fVar 8)) (fBin oIx (fVar 2) (fVar 8)))) (fVar 8) [8]) aNil))) sNil)
  (sSeq (sAsg 3 (fCall h_turned_back 1 [] (aF (fVar 1) aNil)))
  (sSeq (sAsg 4 (fCall h_turned_back 1 [] (aF (fVar 2) aNil)))
  (sSeq (sIf (fTest (fBin oEq (fVar 0) (fC (.str "shift")))) (sRetO (fCB gMax (aCons (fLc (iZipp (fVar 3) (fVar 4)) (gT2 8 9) tTrue (fCB gAbs (aCons (fBin oSub (fVar 8) (fVar 9)) aNil)) [8, 9]) aNil))) sNil)
  (sSeq (sOwn 5 (fC (.int 0)))
  (sSeq (sFor (iRange1 (fCB gLen (aCons (fVar 1) aNil))) (gN 6) (sFor (iRange1 (fVar 6)) (gN 7) (sIf (fTest (fBin oNe (fBin oLt (fBin oIx (fVar 3) (fVar 7)) (fBin oIx (fVar 3) (fVar 6))) (fBin oLt (fBin oIx (fVar 4) (fVar 7)) (fBin oIx (fVar 4) (fVar 6))))) (sAug 5 (opI0 fun i j => i + j) (fC (.int 1))) sNil) [7]) [6, 7])
  (sRetO (fVar 5))))))))
def h_far_by : Fn := runF b_far_by 10
end VP
set_option maxRecDepth 100000
namespace VP
open PySem L2 VL
end VP
set_option maxRecDepth 100000
namespace VP
open PySem L2 VL
end VP
set_option maxRecDepth 100000
namespace VL
open PySem L2
/-- keeps simp from computing in the kernel -/
theorem tr {α : Sort u} {a b : α} (h : a = b) : a = b := h
section
variable {α β : Type} {a : α} {e e1 : VL.Env} {x : Option B} {i : Nat} {b : B} {d : PyData} {c : Str}
@[simp] theorem x_bnd_ok {k : α → VL.Env → Option (Out β)} : bnd (some (.ok a e)) k = k a e := rfl
@[simp] theorem x_bnd_ex {k : α → VL.Env → Option (Out β)} : bnd (some (.ex c e)) k = some (.ex c e) := rfl
@[simp] theorem x_bndS_ok {k : α → VL.Env → Option SO} : bndS (some (.ok a e)) k = k a e := rfl
@[simp] theorem x_bndS_ex {k : α → VL.Env → Option SO} : bndS (some (.ex c e)) k = some (.ex c e) := rfl
@[simp] theorem x_at0 : at? (x :: e) 0 = x := rfl
@[simp] theorem x_at1 : at? (x :: e) (i + 1) = at? e i := rfl
@[simp] theorem x_dat1 : (B.fr d).dat = some d := rfl
@[simp] theorem x_dat2 {ds : List PyData} : (B.ow ds).dat = some (.list ds) := rfl
@[simp] theorem x_dat3 {ds : List (PyData × PyData)} : (B.od ds).dat = some (.dict ds) := rfl
@[simp] theorem x_dat4 : (B.ex c).dat = none := rfl
@[simp] theorem x_dat5 {ns : List Int} : (B.sc ns).dat = none := rfl
@[simp] theorem x_dat6 {k : Nat} : (B.rs k d).dat = none := rfl
@[simp] theorem x_res_s : res e (.s i) = (at? e i).bind B.dat := rfl
@[simp] theorem x_res_b : res e (.b b) = b.dat := rfl
@[simp] theorem x_fz_fr : fz e (.b (.fr d)) = some (d, e) := rfl
@[simp] theorem x_fz_ow {ds : List PyData} : fz e (.b (.ow ds)) = some (.list ds, e) := rfl
@[simp] theorem x_fz_od {ds : List (PyData × PyData)} : fz e (.b (.od ds)) = some (.dict ds, e) := rfl
@[simp] theorem x_fz_s : fz e (.s i) = match at? e i with
    | some (.fr d) => some (d, e)
    | some (.ow ds) => some (.list ds, e.set i (some (.fr (.list ds))))
    | some (.od kvs) => some (.dict kvs, e.set i (some (.fr (.dict kvs))))
    | some (.tr t) => t.dat.map fun d => (d, e.set i (some (.fr d)))
    | _ => none := rfl
@[simp] theorem x_fzB_fr : fzB e (.b (.fr d)) = some (.fr d, e) := rfl
@[simp] theorem x_fzB_ow {ds : List PyData} : fzB e (.b (.ow ds)) = some (.fr (.list ds), e) := rfl
@[simp] theorem x_fzB_od {ds : List (PyData × PyData)} : fzB e (.b (.od ds)) = some (.fr (.dict ds), e) := rfl
@[simp] theorem x_fzB_ex : fzB e (.b (.ex c)) = some (.ex c, e) := rfl
@[simp] theorem x_fzB_sc {ns : List Int} : fzB e (.b (.sc ns)) = some (.sc ns, e) := rfl
@[simp] theorem x_fzB_s : fzB e (.s i) = match at? e i with
    | some (.ex c) => some (.ex c, e)
    | some (.sc ns) => some (.sc ns, e)
    | _ => (fz e (.s i)).map fun p => (.fr p.1, p.2) := rfl
@[simp] theorem x_okD : okD d e = some (.ok (.b (.fr d)) e) := tr rfl
@[simp] theorem x_fVar : fVar i e = match at? e i with
  | some _ => some (.ok (.s i) e)
  | none => none := tr rfl
@[simp] theorem x_fC : fC d e = some (.ok (.b (.fr d)) e) := tr rfl
@[simp] theorem x_fBin {op : PyData → PyData → Option B} {fa fb : FE} : fBin op fa fb e = bnd (fa e) fun o1 e1 => bnd (fb e1) fun o2 e2 => (res e2 o1).bind fun x => (res e2 o2).bind fun y => (op x y).bind fun z => some (.ok (.b z) e2) := tr rfl
@[simp] theorem x_fUn {op : PyData → Option B} {fa : FE} : fUn op fa e = bnd (fa e) fun o1 e1 => (res e1 o1).bind fun x => (op x).bind fun z => some (.ok (.b z) e1) := tr rfl
@[simp] theorem x_dNil : dNil e = some (.ok [] e) := tr rfl
@[simp] theorem x_dCons {f : FE} {r : FD} : dCons f r e = bnd (f e) fun o e1 => (fz e1 o).bind fun p => bnd (r p.2) fun ds e2 => some (.ok (p.1 :: ds) e2) := tr rfl
@[simp] theorem x_fLst {r : FD} : fLst r e = bnd (r e) fun ds e1 => if ds.length ≤ 1000 then some (.ok (.b (.ow ds)) e1) else none := tr rfl
@[simp] theorem x_fTup {r : FD} : fTup r e = bnd (r e) fun ds e1 => if ds.length ≤ 1000 then some (.ok (.b (.fr (.tuple ds))) e1) else none := tr rfl
@[simp] theorem x_fTest {f : FE} : fTest f e = bnd (f e) fun o e1 => match res e1 o with
  | some (.bool b) => some (.ok b e1)
  | _ => none := tr rfl
@[simp] theorem x_fIf {t : FT} {fa fb : FE} : fIf t fa fb e = bnd (t e) fun b e1 => match b with
  | true => fa e1
  | false => fb e1 := tr rfl
@[simp] theorem x_tAnd {t u : FT} : tAnd t u e = bnd (t e) fun b e1 => match b with
  | true => u e1
  | false => some (.ok false e1) := tr rfl
@[simp] theorem x_tOr {t u : FT} : tOr t u e = bnd (t e) fun b e1 => match b with
  | true => some (.ok true e1)
  | false => u e1 := tr rfl
@[simp] theorem x_tNot {t : FT} : tNot t e = bnd (t e) fun b e1 => some (.ok (!b) e1) := tr rfl
@[simp] theorem x_sSeq {f g : FS} : sSeq f g e = match f e with
  | some (.nx e1) => g e1
  | r => r := tr rfl
@[simp] theorem x_sExpr {f : FE} : sExpr f e = bndS (f e) fun _ e1 => some (.nx e1) := tr rfl
@[simp] theorem x_sAsg {f : FE} : sAsg i f e = bndS (f e) fun o e1 => (fzB e1 o).bind fun p => some (.nx (p.2.set i (some p.1))) := tr rfl
@[simp] theorem x_sOwn {f : FE} : sOwn i f e = bndS (f e) fun o e1 => match o with
  | .b b => some (.nx (e1.set i (some b)))
  | .s _ => none := tr rfl
@[simp] theorem x_sRetO {f : FE} : sRetO f e = bndS (f e) fun o e1 => match o with
  | .b b => some (.rt b e1)
  | .s i => (at? e1 i).bind fun b => some (.rt b (e1.set i none)) := tr rfl
@[simp] theorem x_sRetN : sRetN e = some (.rt (.fr .none) e) := tr rfl
@[simp] theorem x_sNil : sNil e = some (.nx e) := tr rfl
@[simp] theorem x_sRaise : sRaise c e = some (.ex c e) := tr rfl
@[simp] theorem x_sBrk : sBrk e = some (.bk e) := tr rfl
@[simp] theorem x_sIf {t : FT} {f g : FS} : sIf t f g e = bndS (t e) fun b e1 => match b with
  | true => f e1
  | false => g e1 := tr rfl
@[simp] theorem x_aNil : aNil e = some (.ok [] e) := tr rfl
@[simp] theorem x_aCons {f : FE} {r : FA} : aCons f r e = bnd (f e) fun o e1 => bnd (r e1) fun os e2 => some (.ok (o :: os) e2) := tr rfl
@[simp] theorem x_resAll0 : resAll e [] = some [] := rfl
@[simp] theorem x_resAll1 {o : O} {os : List O} : resAll e (o :: os) = (res e o).bind fun d => (resAll e os).bind fun ds => some (d :: ds) := rfl
@[simp] theorem x_fCB {g : List PyData → Option B} {fa : FA} : fCB g fa e = bnd (fa e) fun os e1 => (resAll e1 os).bind fun ds => (g ds).bind fun z => some (.ok (.b z) e1) := tr rfl
@[simp] theorem x_fIsi {T : Ty} {fa : FE} : fIsi T fa e = bnd (fa e) fun o e1 => (res e1 o).bind fun d => okD (.bool (isD T d)) e1 := tr rfl
@[simp] theorem x_iSeq {f : FE} : iSeq f e = bnd (f e) fun o e1 => (fz e1 o).bind fun p => match p.1 with
  | .list ds => some (.ok ds p.2)
  | _ => none := tr rfl
@[simp] theorem x_sFor {fi : FI} {g : FG} {body : FS} {dead : List Nat} : sFor fi g body dead e = bndS (fi e) fun ds e1 => sForL g body dead ds e1 := tr rfl
@[simp] theorem x_forget0 : forget [] e = e := rfl
@[simp] theorem x_forget1 {vs : List Nat} : forget (i :: vs) e = forget vs (e.set i none) := rfl
@[simp] theorem x_fNotV {fa : FE} : fNotV fa e = bnd (fa e) fun o e1 => match res e1 o with
  | some (.bool b) => okD (.bool (!b)) e1
  | _ => none := tr rfl
@[simp] theorem x_fAndV {fa fb : FE} : fAndV fa fb e = bnd (fa e) fun o e1 => match res e1 o with
  | some (.bool true) => fb e1
  | some (.bool false) => okD (.bool false) e1
  | _ => none := tr rfl
@[simp] theorem x_fOrV {fa fb : FE} : fOrV fa fb e = bnd (fa e) fun o e1 => match res e1 o with
  | some (.bool true) => okD (.bool true) e1
  | some (.bool false) => fb e1
  | _ => none := tr rfl
@[simp] theorem x_fChain {g h : PyData → PyData → Option B} {fa fb fc : FE} : fChain g h fa fb fc e = bnd (fa e) fun o1 e1 => bnd (fb e1) fun o2 e2 =>
  (res e2 o1).bind fun x => (res e2 o2).bind fun y => match g x y with
    | some (.fr (.bool true)) => bnd (fc e2) fun o3 e3 => (res e3 o2).bind fun y' => (res e3 o3).bind fun z => (h y' z).bind fun r => some (.ok (.b r) e3)
    | some (.fr (.bool false)) => some (.ok (.b (.fr (.bool false))) e2)
    | _ => none := tr rfl
@[simp] theorem x_aF {f : FE} {r : FA} : aF f r e = bnd (f e) fun o e1 => (fzB e1 o).bind fun p => bnd (r p.2) fun os e2 => some (.ok (.b p.1 :: os) e2) := tr rfl
@[simp] theorem x_aM {r : FA} : aM i r e = match at? e i with
  | some _ => bnd (r e) fun os e2 => some (.ok (.s i :: os) e2)
  | none => none := tr rfl
@[simp] theorem x_aP {f : FE} {r : FA} : aP f r e = bnd (f e) fun o e1 => match o with
  | .s i => bnd (r e1) fun os e2 => some (.ok (.s i :: os) e2)
  | .b _ => (fzB e1 o).bind fun p => bnd (r p.2) fun os e2 => some (.ok (.b p.1 :: os) e2) := tr rfl
@[simp] theorem x_bindO0 : bindO e [] = some [] := rfl
@[simp] theorem x_bindOb {os : List O} : bindO e (.b b :: os) = (bindO e os).bind fun bs => some (b :: bs) := rfl
@[simp] theorem x_bindOs {os : List O} : bindO e (.s i :: os) = (at? e i).bind fun x => (bindO e os).bind fun bs => some (x :: bs) := rfl
@[simp] theorem x_putBack0 {e2 : VL.Env} : putBack e2 [] e = e := rfl
@[simp] theorem x_putBack1 {e2 : VL.Env} {j : Nat} {r : List (Nat × Nat)} : putBack e2 ((j, i) :: r) e = putBack e2 r (e.set i (at? e2 j)) := rfl
@[simp] theorem x_lendO0 : lendO e [] = some [] := rfl
@[simp] theorem x_lendOb {os : List O} : lendO e (.b b :: os) = (lendO e os).bind fun bs => some (b :: bs) := rfl
@[simp] theorem x_lendOs {os : List O} : lendO e (.s i :: os) = ((at? e i).bind lent).bind fun x => (lendO e os).bind fun bs => some (x :: bs) := rfl
@[simp] theorem x_lent1 : lent (.fr d) = some (.fr d) := rfl
@[simp] theorem x_lent2 {ds : List PyData} : lent (.ow ds) = some (.fr (.list ds)) := rfl
@[simp] theorem x_lent3 {ds : List (PyData × PyData)} : lent (.od ds) = some (.fr (.dict ds)) := rfl
@[simp] theorem x_lent4 : lent (.ex c) = some (.ex c) := rfl
@[simp] theorem x_lent5 {ns : List Int} : lent (.sc ns) = some (.sc ns) := rfl
@[simp] theorem x_flatO0 : flatO [] = true := rfl
@[simp] theorem x_flatOs {os : List O} : flatO (.s i :: os) = flatO os := rfl
@[simp] theorem x_flatO1 {os : List O} : flatO (.b (.fr d) :: os) = flatO os := rfl
@[simp] theorem x_flatO2 {os : List O} : flatO (.b (.ex c) :: os) = flatO os := rfl
@[simp] theorem x_flatO3 {os : List O} {ns : List Int} : flatO (.b (.sc ns) :: os) = flatO os := rfl
@[simp] theorem x_fCallP {F : Fn} {n : Nat} {fa : FA} : fCallP F n fa e = bnd (fa e) fun os e1 => if flatO os = true then (lendO e1 os).bind fun bs => if bs.length = n then match F bs with
  | some (.ret (.fr d) _) => if isFlat d = true then okD d e1 else none
  | some (.ex c _) => some (.ex c e1)
  | _ => none else none else none := tr rfl
@[simp] theorem x_fCall {F : Fn} {n : Nat} {mi : List (Nat × Nat)} {fa : FA} : fCall F n mi fa e = bnd (fa e) fun os e1 => if (slotsOk mi 0 os && miOk mi os && os.length == n) = true then (bindO e1 os).bind fun bs => match F bs with
  | none => none
  | some (.ret b e2) => some (.ok (.b b) (putBack e2 mi e1))
  | some (.ex c e2) => some (.ex c (putBack e2 mi e1)) else none := tr rfl
@[simp] theorem x_slotsOk0 {mi : List (Nat × Nat)} {j : Nat} : slotsOk mi j [] = true := rfl
@[simp] theorem x_slotsOks {mi : List (Nat × Nat)} {j : Nat} {os : List O} : slotsOk mi j (.s i :: os) = (decide ((j, i) ∈ mi) && slotsOk mi (j + 1) os) := rfl
@[simp] theorem x_slotsOk1 {mi : List (Nat × Nat)} {j : Nat} {os : List O} : slotsOk mi j (.b (.fr d) :: os) = slotsOk mi (j + 1) os := rfl
@[simp] theorem x_slotsOk2 {mi : List (Nat × Nat)} {j : Nat} {os : List O} : slotsOk mi j (.b (.ex c) :: os) = slotsOk mi (j + 1) os := rfl
@[simp] theorem x_slotsOk3 {mi : List (Nat × Nat)} {j : Nat} {os : List O} {ns : List Int} : slotsOk mi j (.b (.sc ns) :: os) = slotsOk mi (j + 1) os := rfl
@[simp] theorem x_miOk0 {os : List O} : miOk [] os = true := rfl
@[simp] theorem x_miOk1 {os : List O} {j : Nat} {mi : List (Nat × Nat)} : miOk ((j, i) :: mi) os = ((match os[j]? with
  | some (.s k) => k == i
  | _ => false) && miOk mi os) := rfl
@[simp] theorem x_isFlat1 : isFlat .none = true := rfl
@[simp] theorem x_isFlat2 {b : Bool} : isFlat (.bool b) = true := rfl
@[simp] theorem x_isFlat3 {i : Int} : isFlat (.int i) = true := rfl
@[simp] theorem x_isFlat4 {x : Str} : isFlat (.str x) = true := rfl
@[simp] theorem x_fMth {g : List PyData → List PyData → Option (B × List PyData)} {fd : FD} : fMth i g fd e = match at? e i with
  | some (.ow _) => bnd (fd e) fun as e1 => match at? e1 i with
    | some (.ow ds) => (g ds as).bind fun p => some (.ok (.b p.1) (e1.set i (some (.ow p.2))))
    | _ => none
  | _ => none := tr rfl
@[simp] theorem x_fScLen {fa : FE} : fScLen fa e = bnd (fa e) fun o e1 => match bOf e1 o with
  | some (.sc ns) => okD (.int ns.length) e1
  | _ => none := tr rfl
@[simp] theorem x_fScIx {fa fb : FE} : fScIx fa fb e = bnd (fa e) fun o e1 => bnd (fb e1) fun o2 e2 => match bOf e2 o, res e2 o2 with
  | some (.sc ns), some (.int i) => (atI ns i).bind fun n => okD (.int n) e2
  | _, _ => none := tr rfl
@[simp] theorem x_bOfs : bOf e (.s i) = at? e i := rfl
@[simp] theorem x_bOfb : bOf e (.b b) = some b := rfl
@[simp] theorem x_iRange1 {f : FE} : iRange1 f e = bnd (f e) fun o e1 => match res e1 o with
  | some (.int j) => if lim j = true then some (.ok (rngN 0 j.toNat) e1) else none
  | _ => none := tr rfl
@[simp] theorem x_iRange2 {f g : FE} : iRange2 f g e = bnd (f e) fun o e1 => bnd (g e1) fun o2 e2 => match res e2 o, res e2 o2 with
  | some (.int i), some (.int j) => if lim i = true ∧ lim j = true then some (.ok (rngN i (j - i).toNat) e2) else none
  | _, _ => none := tr rfl
@[simp] theorem x_gN : gN i d e = some (e.set i (some (.fr d))) := tr rfl
@[simp] theorem x_fListRg1 {fa : FE} : fListRg1 fa e = bnd (fa e) fun o e1 => match res e1 o with
  | some (.int j) => if rgOk 0 j = true then some (.ok (.b (.ow (rngN 0 j.toNat))) e1) else none
  | _ => none := tr rfl
@[simp] theorem x_fLc {fi : FI} {g : FG} {t : FT} {f : FE} {vs : List Nat} : fLc fi g t f vs e = bnd (fi e) fun ds e1 => fLcL g t f vs ds [] (forget vs e1) := tr rfl
@[simp] theorem x_tTrue : tTrue e = some (.ok true e) := tr rfl
@[simp] theorem x_sPut2 {fx fy : FE} {j : Nat} {fd : FD} : sPut2 i fx j fy fd e = bndS (fd e) fun ds e1 => match ds with
  | [a, b] => bndS (putAt i fx a e1) fun _ e2 => bndS (putAt j fy b e2) fun _ e3 => some (.nx e3)
  | _ => none := tr rfl
@[simp] theorem x_sPut {fx fv : FE} : sPut i fx fv e = bndS (fv e) fun o e1 => (fz e1 o).bind fun p => bndS (putAt i fx p.1 p.2) fun _ e2 => some (.nx e2) := tr rfl
@[simp] theorem x_putAt {f : FE} : putAt i f d e = match at? e i with
  | none => none
  | some _ => bnd (f e) fun o e1 => match res e1 o, at? e1 i with
    | some (.int k), some (.ow ds) => (ixN ds.length k).bind fun j => some (.ok () (e1.set i (some (.ow (ds.set j d)))))
    | _, _ => none := tr rfl
@[simp] theorem x_sNewP : sNewP i e = some (.nx (e.set i (some (.rs 1 (.list []))))) := tr rfl
@[simp] theorem x_sAppP {fd : FD} : sAppP i fd e = match at? e i with
  | some (.rs 1 _) => bndS (fd e) fun ds e1 => match ds, at? e1 i with
    | [.int a, .int b, .int c], some (.rs 1 (.list l)) => if l.length < big then some (.nx (e1.set i (some (.rs 1 (.list (l ++ [encP (a, b, c)])))))) else none
    | _, _ => none
  | _ => none := tr rfl
@[simp] theorem x_fDeck : fDeck i e = match at? e i with
  | some (.rs 1 (.list l)) => some (.ok (.b (.rs 0 (.list [.list l, .int 0]))) (e.set i none))
  | _ => none := tr rfl
@[simp] theorem x_oAddI {i j : Int} : oAdd (.int i) (.int j) = some (.fr (.int (i + j))) := tr rfl
@[simp] theorem x_opI0 {g : Int → Int → Int} {i j : Int} : opI0 g (.int i) (.int j) = some (.fr (.int (g i j))) := tr rfl
@[simp] theorem x_opB0 {g : Int → Int → Bool} {i j : Int} : opB0 g (.int i) (.int j) = some (.fr (.bool (g i j))) := tr rfl
@[simp] theorem x_opI {C : Int → Int → Bool} {g : Int → Int → Int} {i j : Int} : opI C g (.int i) (.int j) = if C i j = true then some (.fr (.int (g i j))) else none := tr rfl
@[simp] theorem x_oMulI {i j : Int} : oMul (.int i) (.int j) = if cMul i j = true then some (.fr (.int (i * j))) else none := tr rfl
@[simp] theorem x_gInt1 {i : Int} : gInt [.int i] = some (.fr (.int i)) := tr rfl
@[simp] theorem x_gInt2 {b : Bool} : gInt [.bool b] = some (.fr (.int (if b then 1 else 0))) := tr rfl
@[simp] theorem x_gMax2 {i j : Int} : gMax [.int i, .int j] = some (.fr (.int (if j > i then j else i))) := tr rfl
@[simp] theorem x_gMin2 {i j : Int} : gMin [.int i, .int j] = some (.fr (.int (if j < i then j else i))) := tr rfl
@[simp] theorem x_gLenL {ds : List PyData} : gLen [.list ds] = some (.fr (.int ds.length)) := tr rfl
@[simp] theorem x_gListL {ds : List PyData} : gList [.list ds] = some (.ow ds) := tr rfl
@[simp] theorem x_oRevL {ds : List PyData} : oRev (.list ds) = some (.ow ds.reverse) := tr rfl
@[simp] theorem x_oIxL {ds : List PyData} {i : Int} : oIx (.list ds) (.int i) = (atI ds i).map .fr := tr rfl
@[simp] theorem x_oEqI {i j : Int} : oEq (.int i) (.int j) = some (.fr (.bool (decide (i = j)))) := by
  have h : ∀ k : Int, SeqAt.shaped (.int k) = true := fun k => by
    unfold SeqAt.shaped
    rw [PyData.canLay0, PyData.depth]
    rfl
  unfold oEq
  rw [if_pos ⟨h i, h j⟩, PyData.eqv]
  rfl
end
theorem seq_nx {f g : FS} {e e1 : VL.Env} (h : f e = some (.nx e1)) : sSeq f g e = g e1 := by
  unfold sSeq
  rw [h]
theorem forL_nil {g : FG} {body : FS} {dead : List Nat} {e : VL.Env} : sForL g body dead [] e = some (.nx (forget dead e)) := tr rfl
theorem forL_nx {g : FG} {body : FS} {dead : List Nat} {d : PyData} {ds : List PyData} {e e1 e2 : VL.Env} (hg : g d e = some e1) (hb : body e1 = some (.nx e2)) : sForL g body dead (d :: ds) e = sForL g body dead ds (forget dead e2) := by
  rw [sForL, hg]
  show (match body e1 with
      | some (.nx e2) => sForL g body dead ds (forget dead e2)
      | some (.ct e2) => sForL g body dead ds (forget dead e2)
      | some (.bk e2) => some (.nx (forget dead e2))
      | some (.rt b e2) => some (.rt b e2)
      | some (.ex c e2) => some (.ex c e2)
      | none => none) = _
  rw [hb]
theorem runF_rt {g : FS} {n : Nat} {bs : List B} {e e' : VL.Env} {b : B} (he : bs.map some ++ List.replicate (n - bs.length) none = e) (h : g e = some (.rt b e')) : runF g n bs = some (.ret b e') := by
  unfold runF
  rw [he, h]
theorem asInts_map : ∀ ns : List Int, asInts (ns.map .int) = some ns
  | [] => rfl
  | n :: ns => by
    show (asInts (ns.map .int)).map (n :: ·) = some (n :: ns)
    rw [asInts_map ns]
    rfl
end VL
set_option maxRecDepth 100000
namespace VL
open PySem L2 PySem.W PySem.SeqAt
section
variable {e e1 e2 e3 : VL.Env} {F : Fn} {n : Nat} {fa : FA} {os : List O} {bs : List B} {b : B} {d : PyData} {mi : List (Nat × Nat)} {c : Str}
/-- a loop over typed items that keeps a state -/
theorem for_fold {α S : Type} {g : FG} {body : FS} {dead : List Nat} (D : α → PyData) (E : S → VL.Env) (F : S → α → S) (hd : ∀ s, forget dead (E s) = E s) : ∀ (xs : List α) (s : S),
    (∀ (pre : List α) (x : α) (suf : List α), xs = pre ++ x :: suf → ∃ e1 e2, g (D x) (E (pre.foldl F s)) = some e1 ∧ body e1 = some (.nx e2) ∧ forget dead e2 = E (F (pre.foldl F s) x)) →
    sForL g body dead (xs.map D) (E s) = some (.nx (E (xs.foldl F s)))
  | [], s, _ => by
    show sForL g body dead [] (E s) = _
    rw [forL_nil, hd]
    rfl
  | x :: xs, s, k => by
    obtain ⟨e1, e2, h1, h2, h3⟩ := k [] x xs rfl
    have h1' : g (D x) (E s) = some e1 := h1
    show sForL g body dead (D x :: xs.map D) (E s) = _
    rw [forL_nx h1' h2, h3]
    exact for_fold D E F hd xs (F s x) fun pre y suf e => k (x :: pre) y suf (by rw [e]; rfl)
end
class Lay (α : Type) [DecidableEq α] [Datum α] : Prop where
  lay : ∀ a : α, (Datum.toD a).canLay0 = true
  small : Datum.depth α ≤ 64
instance : Lay Int := ⟨fun _ => by show (PyData.int _).canLay0 = true; rw [PyData.canLay0], by decide⟩
instance : Lay Bool := ⟨fun _ => by show (PyData.bool _).canLay0 = true; rw [PyData.canLay0], by decide⟩
theorem layAll {α : Type} [DecidableEq α] [Datum α] [Lay α] : ∀ xs : List α, PyData.canLayAll0 (xs.map Datum.toD) = true
  | [] => rfl
  | x :: xs => by
    rw [List.map_cons, PyData.canLayAll0, Lay.lay x, layAll xs]
    rfl
theorem lay_lst {α : Type} [DecidableEq α] [Datum α] [Lay α] (xs : List α) : (Datum.toD xs).canLay0 = true := by
  show (PyData.list (xs.map Datum.toD)).canLay0 = true
  rw [PyData.canLay0]
  exact layAll xs
instance : Lay (List Int) := ⟨lay_lst, by decide⟩
instance : Lay (List (List Int)) := ⟨lay_lst, by decide⟩
instance : Lay (List (List (List Int))) := ⟨lay_lst, by decide⟩
instance : Lay (List Bool) := ⟨lay_lst, by decide⟩
section
variable {α : Type} [DecidableEq α] [Datum α] [Lay α]
theorem shaped_toD (a : α) : shaped (Datum.toD a) = true := by
  unfold shaped
  rw [Lay.lay a, decide_eq_true (Nat.le_trans (Datum.depth_le a) Lay.small)]
  rfl
theorem o_eq (a b : α) : oEq (Datum.toD a) (Datum.toD b) = some (.fr (.bool (decide (a = b)))) := by
  unfold oEq
  rw [if_pos ⟨shaped_toD a, shaped_toD b⟩, Datum.eqv]
theorem o_ne (a b : α) : oNe (Datum.toD a) (Datum.toD b) = some (.fr (.bool (!decide (a = b)))) := by
  unfold oNe
  rw [if_pos ⟨shaped_toD a, shaped_toD b⟩, Datum.eqv]
theorem atI_get? {β : Type} {xs : List β} {j : Nat} {x : β} (h : xs[j]? = some x) : atI xs (j : Int) = some x := by
  unfold atI ixN
  have hj := (List.getElem?_eq_some_iff.mp h).1
  rw [if_pos (by omega), if_pos (by omega)]
  simpa using h
end
end VL
set_option maxRecDepth 100000
namespace VP
open PySem L2 VL PySem.W PySem.SeqAt
theorem lim_small {n : Nat} (h : n ≤ 1000) : lim (n : Int) = true := by
  unfold lim
  rw [decide_eq_true_eq]
  omega
/-- the numbers from 0 on -/
def iota (n : Nat) : List Int := (List.range n).map fun (i : Nat) => (i : Int)
/-- just the numbers from 0 on -/
def IsOrd (n : Nat) (xs : List Int) : Prop := xs.Perm (iota n)
theorem IsOrd.length {n : Nat} {xs : List Int} (h : IsOrd n xs) : xs.length = n := by
  rw [List.Perm.length_eq h, iota, List.length_map, List.length_range]
theorem sort_ord {n : Nat} {xs : List Int} (h : IsOrd n xs) : xs.mergeSort leI = iota n := by
  have trans : ∀ a b c : Int, leI a b = true → leI b c = true → leI a c = true := fun a b c h1 h2 => decide_eq_true (Int.le_trans (of_decide_eq_true h1) (of_decide_eq_true h2))
  have total : ∀ a b : Int, (leI a b || leI b a) = true := fun a b => by
    unfold leI
    rw [Bool.or_eq_true, decide_eq_true_eq, decide_eq_true_eq]
    exact Int.le_total a b
  have s1 := List.pairwise_mergeSort trans total xs
  have p1 : (xs.mergeSort leI).Perm (iota n) := (List.mergeSort_perm xs leI).trans h
  have s2 : (iota n).Pairwise fun a b => leI a b = true := by
    unfold iota
    rw [List.pairwise_map]
    exact (List.pairwise_lt_range).imp fun {a b} hab => decide_eq_true (by omega)
  exact p1.eq_of_pairwise (fun a b _ _ h1 h2 => Int.le_antisymm (of_decide_eq_true h1) (of_decide_eq_true h2)) s1 s2
end VP
set_option maxRecDepth 100000
namespace VP
open PySem L2 VL PySem.W PySem.SeqAt
theorem rngNat (n : Nat) : rngN 0 n = (List.range n).map fun (i : Nat) => PyData.int (i : Int) := by
  unfold rngN
  refine List.map_congr_left fun i _ => ?_
  rw [Int.zero_add]
def cellOf (ns : List Int) (i : Nat) : Int := ns.getD i 0
def plOf (ns : List Int) (i : Nat) : Pl := (cellOf ns i, (if decide (10 ^ 18 ≤ cellOf ns i) = true then 1 else 0), 31 * (i : Int))
def eDeck (ns : List Int) (ps : List Pl) : VL.Env := [some (.sc ns), some (.rs 1 (.list (ps.map encP))), none, none]
def bodyDeck : FS := (sSeq (sAsg 3 (fC (.int 0)))
  (sSeq (sIf (fTest (fBin oLt (fVar 2) (fScLen (fVar 0)))) (sAsg 3 (fScIx (fVar 0) (fVar 2))) sNil)
  (sAppP 1 (dCons (fVar 3) (dCons (fCB gInt (aCons (fBin oGe (fVar 3) (fBin oPow (fC (.int 10)) (fC (.int 18)))) aNil)) (dCons (fBin oMul (fC (.int 31)) (fVar 2)) dNil))))))
theorem foldl_len (ns : List Int) : ∀ (l : List Nat) (ps : List Pl), (l.foldl (fun s i => s ++ [plOf ns i]) ps).length = ps.length + l.length
  | [], ps => rfl
  | x :: l, ps => by
    rw [List.foldl_cons, foldl_len ns l, List.length_append, List.length_cons]
    simp
    omega
theorem deck_step (ns : List Int) (ps : List Pl) (i : Nat) (h : ps.length < 100) : bodyDeck ((eDeck ns ps).set 2 (some (.fr (.int (i : Int))))) = some (.nx [some (.sc ns), some (.rs 1 (.list ((ps ++ [plOf ns i]).map encP))), some (.fr (.int (i : Int))), some (.fr (.int (cellOf ns i)))]) := by
  have s1 : (sAsg 3 (fC (.int 0))) ((eDeck ns ps).set 2 (some (.fr (.int (i : Int))))) = some (.nx [some (.sc ns), some (.rs 1 (.list (ps.map encP))), some (.fr (.int (i : Int))), some (.fr (.int 0))]) := rfl
  have s2 : (sIf (fTest (fBin oLt (fVar 2) (fScLen (fVar 0)))) (sAsg 3 (fScIx (fVar 0) (fVar 2))) sNil) [some (.sc ns), some (.rs 1 (.list (ps.map encP))), some (.fr (.int (i : Int))), some (.fr (.int 0))] = some (.nx [some (.sc ns), some (.rs 1 (.list (ps.map encP))), some (.fr (.int (i : Int))), some (.fr (.int (cellOf ns i)))]) := by
    by_cases hi : i < ns.length
    · have q1 : decide ((i : Int) < (ns.length : Int)) = true := decide_eq_true (by omega)
      have q2 : atI ns (i : Int) = some (cellOf ns i) := by
        refine atI_get? ?_
        unfold cellOf
        rw [List.getD_eq_getElem?_getD, List.getElem?_eq_getElem hi]
        rfl
      simp [hi, q2]
    · have q1 : decide ((i : Int) < (ns.length : Int)) = false := decide_eq_false (by omega)
      have q2 : cellOf ns i = 0 := by
        unfold cellOf
        rw [List.getD_eq_getElem?_getD, List.getElem?_eq_none (by omega)]
        rfl
      simp [hi, q2]
  have s3 : (sAppP 1 (dCons (fVar 3) (dCons (fCB gInt (aCons (fBin oGe (fVar 3) (fBin oPow (fC (.int 10)) (fC (.int 18)))) aNil)) (dCons (fBin oMul (fC (.int 31)) (fVar 2)) dNil)))) [some (.sc ns), some (.rs 1 (.list (ps.map encP))), some (.fr (.int (i : Int))), some (.fr (.int (cellOf ns i)))] = some (.nx [some (.sc ns), some (.rs 1 (.list ((ps ++ [plOf ns i]).map encP))), some (.fr (.int (i : Int))), some (.fr (.int (cellOf ns i)))]) := by
    have q1 : cMul 31 (i : Int) = true := by
      unfold cMul
      rw [Bool.or_eq_true]
      exact .inl (by decide)
    have q2 : cPow 10 18 = true := by decide
    have q3 : (ps.map encP).length < big := by rw [List.length_map]; unfold big; omega
    rw [List.length_map] at q3
    simp [q1, q2, q3, plOf]
  unfold bodyDeck
  rw [seq_nx s1, seq_nx s2, s3]
theorem t__law_deckX (ns : List Int) : ∃ e, h__law_deck [.sc ns] = some (.ret (.rs 0 (encD ((List.range (max 1 (min 63 ns.length))).foldl (fun s i => s ++ [plOf ns i]) []) 0)) e) := by
  let n : Nat := max 1 (min 63 ns.length)
  have hn : 1 ≤ n ∧ n ≤ 63 := by show 1 ≤ max 1 (min 63 ns.length) ∧ max 1 (min 63 ns.length) ≤ 63; omega
  let ps : List Pl := (List.range n).foldl (fun s i => s ++ [plOf ns i]) []
  have hl : ps.length = n := by
    have := foldl_len ns (List.range n) []
    rw [List.length_range, List.length_nil, Nat.zero_add] at this
    exact this
  have a2 : (sFor (iRange1 (fCB gMax (aCons (fC (.int 1)) (aCons (fCB gMin (aCons (fC (.int 63)) (aCons (fScLen (fVar 0)) aNil))) aNil)))) (gN 2) bodyDeck [2, 3]) (eDeck ns []) = some (.nx (eDeck ns ps)) := by
    have it : (iRange1 (fCB gMax (aCons (fC (.int 1)) (aCons (fCB gMin (aCons (fC (.int 63)) (aCons (fScLen (fVar 0)) aNil))) aNil)))) (eDeck ns []) = some (.ok ((List.range n).map fun (i : Nat) => PyData.int (i : Int)) (eDeck ns [])) := by
      have q0 : (if (if (ns.length : Int) < 63 then (ns.length : Int) else 63) > 1 then (if (ns.length : Int) < 63 then (ns.length : Int) else 63) else 1) = (n : Int) := by
        show _ = ((max 1 (min 63 ns.length) : Nat) : Int)
        split <;> split at * <;> omega
      have q1 : lim (n : Int) = true := lim_small (by omega)
      simp [eDeck, q0, q1, rngNat]
    rw [x_sFor, it, x_bndS_ok]
    refine for_fold (fun (i : Nat) => PyData.int (i : Int)) (eDeck ns) (fun s i => s ++ [plOf ns i]) (fun s => rfl) (List.range n) [] fun pre x suf e => ⟨_, _, rfl, deck_step ns _ x ?_, rfl⟩
    rw [foldl_len]
    have h1 := congrArg List.length e
    rw [List.length_range, List.length_append, List.length_cons] at h1
    simp
    omega
  have a3 : (sRetO (fDeck 1)) (eDeck ns ps) = some (.rt (.rs 0 (encD ps 0)) [some (.sc ns), none, none, none]) := rfl
  refine ⟨[some (.sc ns), none, none, none], ?_⟩
  unfold h__law_deck
  refine runF_rt (e := [some (.sc ns), none, none, none]) rfl ?_
  show (sSeq (sNewP 1) (sSeq (sFor (iRange1 (fCB gMax (aCons (fC (.int 1)) (aCons (fCB gMin (aCons (fC (.int 63)) (aCons (fScLen (fVar 0)) aNil))) aNil)))) (gN 2) bodyDeck [2, 3]) (sRetO (fDeck 1)))) _ = _
  rw [seq_nx (e1 := eDeck ns []) rfl, seq_nx a2, a3]
end VP
set_option maxRecDepth 100000
namespace VP
open PySem L2 VL PySem.W PySem.SeqAt
theorem ixN_of {n : Nat} {i : Int} (h0 : 0 ≤ i) (h1 : i < n) : ixN n i = some i.toNat := by
  unfold ixN
  rw [if_pos h0, if_pos h1]
theorem swap_perm {xs : List Int} {p q : Nat} (hp : p < xs.length) (hq : q < xs.length) : ((xs.set p xs[q]).set q xs[p]).Perm xs := List.set_set_perm hp hq
end VP
set_option maxRecDepth 100000
namespace VP
open PySem L2 VL PySem.W PySem.SeqAt
theorem erase_perm : ∀ {xs : List Int} {j : Nat} (hj : j < xs.length), (xs[j] :: xs.eraseIdx j).Perm xs
  | [], j, hj => by simp at hj
  | x :: xs, 0, _ => List.Perm.refl _
  | x :: xs, j + 1, hj => by
    have ih := erase_perm (xs := xs) (j := j) (by simpa using hj)
    exact (List.Perm.swap x (xs[j]'(by simpa using hj)) (xs.eraseIdx j)).trans (ih.cons x)
end VP
set_option maxRecDepth 100000
namespace TM
open PySem L2 VL PySem.W PySem.SeqAt
inductive R (α : Type) where
  | no
  | ok (a : α)
  | ex (c : Str)
def R.bind {α β : Type} (m : R α) (k : α → R β) : R β := match m with
  | .no => .no
  | .ok a => k a
  | .ex c => .ex c
def ob {α β : Type} (m : Option α) (k : α → R β) : R β := match m with
  | none => .no
  | some a => k a
@[simp] theorem bind_ok {α β : Type} {a : α} {k : α → R β} : (R.ok a).bind k = k a := rfl
@[simp] theorem bind_no {α β : Type} {k : α → R β} : (R.no : R α).bind k = .no := rfl
@[simp] theorem bind_ex {α β : Type} {c : Str} {k : α → R β} : (R.ex c : R α).bind k = .ex c := rfl
@[simp] theorem ob_some {α β : Type} {a : α} {k : α → R β} : ob (some a) k = k a := rfl
@[simp] theorem ob_none {α β : Type} {k : α → R β} : ob (none : Option α) k = .no := rfl
theorem bind_assoc {α β γ : Type} (m : R α) (k : α → R β) (l : β → R γ) : (m.bind k).bind l = m.bind fun a => (k a).bind l := by cases m <;> rfl
/-- a list or dict of its own, by its data -/
def bow : PyData → B
  | .list ds => .ow ds
  | .dict ks => .od ks
  | x => .fr x
theorem bow_dat (x : PyData) : (bow x).dat = some x := by cases x <;> rfl
/-- what a slot is known to hold -/
inductive Sl where
  | d (x : PyData)
  | o (x : PyData)
  | rs (k : Nat) (x : PyData)
  | ex (c : Str)
  | sc (ns : List Int)
  | xo (o : Option Str)
  | t (x : Tr)
/-- None, or an error that is held -/
def xB : Option Str → B
  | none => .fr .none
  | some c => .ex c
def Sl.ok : Sl → Option B → Prop
  | .d x, b => b.bind B.dat = some x
  | .o x, b => b = some (bow x)
  | .rs k x, b => b = some (.rs k x)
  | .ex c, b => b = some (.ex c)
  | .sc ns, b => b = some (.sc ns)
  | .xo q, b => b = some (xB q)
  | .t x, b => b = some (.tr x)
abbrev Ctx := List (Option Sl)
structure Cov (Γ : Ctx) (e : VL.Env) : Prop where
  len : e.length = Γ.length
  hold : ∀ (i : Nat) (s : Sl), Γ[i]? = some (some s) → s.ok (at? e i)
/-- how a block may end -/
inductive PO where
  | nx (Γ : Ctx)
  | rt (s : Sl) (Γ : Ctx)
  | fn (Γ : Ctx)
  | bk (Γ : Ctx)
def PO.ok : PO → SO → Prop
  | .nx Γ, w => ∃ e, w = .nx e ∧ Cov Γ e
  | .rt s Γ, w => ∃ b e, w = .rt b e ∧ s.ok (some b) ∧ Cov Γ e
  | .fn Γ, w => ∃ e, (w = .nx e ∨ w = .rt (.fr .none) e) ∧ Cov Γ e
  | .bk Γ, w => ∃ e, w = .bk e ∧ Cov Γ e
abbrev KC := VL.Env → Option SO
def J (Γ : Ctx) (C : KC) {α : Type} (m : R α) (po : α → PO) : Prop := ∀ e, Cov Γ e → match m with
  | .no => True
  | .ok a => ∃ w, C e = some w ∧ (po a).ok w
  | .ex c => ∃ e', C e = some (.ex c e')
theorem J.to {Γ Γ' : Ctx} {C C' : KC} {α : Type} {m : R α} {po : α → PO} (h : J Γ' C' m po) (k : ∀ e, Cov Γ e → ∃ e', Cov Γ' e' ∧ C e = C' e') : J Γ C m po := fun e he => by
  obtain ⟨e', h1, h2⟩ := k e he
  rw [h2]
  exact h e' h1
theorem J.eq {Γ : Ctx} {C C' : KC} {α : Type} {m : R α} {po : α → PO} (h : J Γ C' m po) (k : C = C') : J Γ C m po := k ▸ h
theorem J.no {Γ : Ctx} {C : KC} {α : Type} {po : α → PO} : J Γ C (.no : R α) po := fun _ _ => True.intro
theorem j_ob {Γ : Ctx} {C : KC} {α β : Type} {m : Option α} {mk : α → R β} {po : β → PO} (h : ∀ a, m = some a → J Γ C (mk a) po) : J Γ C (ob m mk) po := by
  cases m with
  | none => exact .no
  | some a => exact h a rfl
theorem Cov.lt {Γ : Ctx} {e : VL.Env} (h : Cov Γ e) {i : Nat} {s : Option Sl} (hi : Γ[i]? = some s) : i < e.length := by
  rw [h.len]
  exact (List.getElem?_eq_some_iff.mp hi).1
theorem Cov.set {Γ : Ctx} {e : VL.Env} (h : Cov Γ e) {i : Nat} {s : Sl} {b : Option B} (hb : s.ok b) : Cov (Γ.set i (some s)) (e.set i b) := by
  refine ⟨by rw [List.length_set, List.length_set, h.len], fun j t hj => ?_⟩
  by_cases e1 : i = j
  · subst e1
    have hl : i < Γ.length := by
      have := (List.getElem?_eq_some_iff.mp hj).1
      rwa [List.length_set] at this
    rw [List.getElem?_set_self hl] at hj
    cases hj
    rw [at_set_lt (by rw [h.len]; exact hl)]
    exact hb
  · rw [List.getElem?_set_ne e1] at hj
    rw [at_set_ne e1]
    exact h.hold j t hj
theorem Cov.drop {Γ : Ctx} {e : VL.Env} (h : Cov Γ e) (i : Nat) (b : Option B) : Cov (Γ.set i none) (e.set i b) := by
  refine ⟨by rw [List.length_set, List.length_set, h.len], fun j t hj => ?_⟩
  by_cases e1 : i = j
  · subst e1
    have hl : i < Γ.length := by
      have := (List.getElem?_eq_some_iff.mp hj).1
      rwa [List.length_set] at this
    rw [List.getElem?_set_self hl] at hj
    cases hj
  · rw [List.getElem?_set_ne e1] at hj
    rw [at_set_ne e1]
    exact h.hold j t hj
/-- slots kept (1), forgotten (0), read only from here on (2) -/
def restr : List Nat → Ctx → Ctx
  | _, [] => []
  | [], _ :: Γ => none :: restr [] Γ
  | 0 :: k, _ :: Γ => none :: restr k Γ
  | 2 :: k, some (.o x) :: Γ => some (.d x) :: restr k Γ
  | _ :: k, s :: Γ => s :: restr k Γ
theorem restr_len (k : List Nat) (Γ : Ctx) : (restr k Γ).length = Γ.length := by
  induction Γ generalizing k with
  | nil => unfold restr; rfl
  | cons s Γ ih =>
    unfold restr
    split <;> simp_all
theorem Sl.weak {x : PyData} {b : Option B} (h : (Sl.o x).ok b) : (Sl.d x).ok b := by
  show b.bind B.dat = some x
  rw [show b = some (bow x) from h]
  exact bow_dat x
theorem restr_get : ∀ (k : List Nat) (Γ : Ctx) (i : Nat) (s : Sl), (restr k Γ)[i]? = some (some s) → Γ[i]? = some (some s) ∨ ∃ x, s = .d x ∧ Γ[i]? = some (some (.o x))
  | _, [], i, s, h => by unfold restr at h; simp at h
  | [], t :: Γ, i, s, h => by
    unfold restr at h
    cases i with
    | zero => simp at h
    | succ i => simpa using restr_get [] Γ i s (by simpa using h)
  | n :: k, t :: Γ, i, s, h => by
    unfold restr at h
    cases i with
    | zero =>
      split at h <;> simp_all
    | succ i =>
      have : (restr k Γ)[i]? = some (some s) := by split at h <;> simp_all
      simpa using restr_get k Γ i s this
theorem Cov.restr {Γ : Ctx} {e : VL.Env} (h : Cov Γ e) (k : List Nat) : Cov (restr k Γ) e := by
  refine ⟨by rw [restr_len, h.len], fun i s hi => ?_⟩
  rcases restr_get k Γ i s hi with h1 | ⟨x, rfl, h1⟩
  · exact h.hold i s h1
  · exact Sl.weak (h.hold i _ h1)
theorem Cov.of {Γ Γ' : Ctx} {e : VL.Env} (h : Cov Γ e) {k : List Nat} (hk : TM.restr k Γ = Γ') : Cov Γ' e := hk ▸ h.restr k
theorem Cov.own {Γ : Ctx} {e : VL.Env} (h : Cov Γ e) {i : Nat} {x : PyData} (hi : Γ[i]? = some (some (.o x))) : at? e i = some (bow x) := h.hold i _ hi
theorem Cov.dat {Γ : Ctx} {e : VL.Env} (h : Cov Γ e) {i : Nat} {x : PyData} (hi : Γ[i]? = some (some (.d x))) : res e (.s i) = some x := h.hold i _ hi
theorem Cov.datO {Γ : Ctx} {e : VL.Env} (h : Cov Γ e) {i : Nat} {x : PyData} (hi : Γ[i]? = some (some (.o x))) : res e (.s i) = some x   := Sl.weak (h.hold i _ hi)
/-- an operand is read as x -/
def Rd (Γ : Ctx) (o : O) (x : PyData) : Prop := ∀ e, Cov Γ e → res e o = some x
theorem rd_d {Γ : Ctx} {i : Nat} {x : PyData} (h : Γ[i]? = some (some (.d x))) : Rd Γ (.s i) x := fun _ he => he.dat h
theorem rd_o {Γ : Ctx} {i : Nat} {x : PyData} (h : Γ[i]? = some (some (.o x))) : Rd Γ (.s i) x := fun _ he => he.datO h
theorem rd_b {Γ : Ctx} {x : PyData} : Rd Γ (.b (.fr x)) x := fun _ _ => rfl
theorem rd_w {Γ : Ctx} {x : PyData} : Rd Γ (.b (bow x)) x := fun _ _ => bow_dat x
/-- an operand is frozen to x, with the context behind it -/
def Fz (Γ : Ctx) (o : O) (x : PyData) (Γ' : Ctx) : Prop := ∀ e, Cov Γ e → ∃ e', fz e o = some (x, e') ∧ Cov Γ' e'
theorem fz_b {Γ : Ctx} {x : PyData} : Fz Γ (.b (.fr x)) x Γ := fun e he => ⟨e, rfl, he⟩
theorem fz_w {Γ : Ctx} {x : PyData} : Fz Γ (.b (bow x)) x Γ := fun e he => ⟨e, by cases x <;> rfl, he⟩
theorem set_same {e : VL.Env} {i : Nat} {b : Option B} (h : at? e i = b) : e.set i b = e := by
  apply List.ext_getElem?
  intro j
  by_cases hj : i = j
  · subst hj
    by_cases hl : i < e.length
    · rw [List.getElem?_set_self hl, List.getElem?_eq_getElem hl]
      unfold at? at h
      rw [List.getElem?_eq_getElem hl] at h
      rw [← h]
    · rw [List.getElem?_eq_none (by rw [List.length_set]; omega), List.getElem?_eq_none (by omega)]
  · rw [List.getElem?_set_ne hj]
theorem Cov.setd {Γ : Ctx} {e : VL.Env} (h : Cov Γ e) {i : Nat} {x : PyData} (hi : Γ[i]? = some (some (.d x))) {b : B} (hb : b.dat = some x) : Cov Γ (e.set i (some b)) := by
  refine ⟨by rw [List.length_set, h.len], fun j t hj => ?_⟩
  by_cases e1 : i = j
  · subst e1
    rw [hi] at hj
    cases hj
    rw [at_set_lt (h.lt hi)]
    exact hb
  · rw [at_set_ne e1]
    exact h.hold j t hj
theorem fz_d {Γ : Ctx} {i : Nat} {x : PyData} (h : Γ[i]? = some (some (.d x))) : Fz Γ (.s i) x Γ := fun e he => by
  have h1 := he.hold i _ h
  show ∃ e', (match at? e i with
    | some (.fr d) => some (d, e)
    | some (.ow ds) => some (.list ds, e.set i (some (.fr (.list ds))))
    | some (.od kvs) => some (.dict kvs, e.set i (some (.fr (.dict kvs))))
    | some (.tr t) => t.dat.map fun d => (d, e.set i (some (.fr d)))
    | _ => none) = some (x, e') ∧ Cov Γ e'
  have h2 : (at? e i).bind B.dat = some x := h1
  cases q : at? e i with
  | none => rw [q] at h2; cases h2
  | some b =>
    rw [q] at h2
    cases b with
    | fr d => cases h2; exact ⟨e, rfl, he⟩
    | ow ds => cases h2; exact ⟨_, rfl, he.setd h rfl⟩
    | od ds => cases h2; exact ⟨_, rfl, he.setd h rfl⟩
    | ex c => cases h2
    | rs k d => cases h2
    | tr t => cases h2
    | sc ns => cases h2
theorem Cov.weak {Γ : Ctx} {e : VL.Env} (h : Cov Γ e) {i : Nat} {x : PyData} (hi : Γ[i]? = some (some (.o x))) : Cov (Γ.set i (some (.d x))) e := by
  have := h.set (i := i) (s := .d x) (b := at? e i) (Sl.weak (h.hold i _ hi))
  rwa [set_same rfl] at this
theorem fz_o {Γ : Ctx} {i : Nat} {x : PyData} (h : Γ[i]? = some (some (.o x))) : Fz Γ (.s i) x (Γ.set i (some (.d x))) := fun e he =>
  fz_d (by rw [List.getElem?_set_self (by rw [← he.len]; exact he.lt h)]) e (he.weak h)
/-- frozen for a name, an answer, an argument -/
def FzB (Γ : Ctx) (o : O) (b : B) (Γ' : Ctx) : Prop := ∀ e, Cov Γ e → ∃ e', fzB e o = some (b, e') ∧ Cov Γ' e'
theorem fzb_of {Γ Γ' : Ctx} {o : O} {x : PyData} (h : Fz Γ o x Γ') : FzB Γ o (.fr x) Γ' := fun e he => by
  obtain ⟨e', h1, h2⟩ := h e he
  refine ⟨e', ?_, h2⟩
  cases o with
  | s i =>
    unfold fzB
    unfold fz at h1
    dsimp only at h1 ⊢
    unfold fz
    cases q : at? e i with
    | none => rw [q] at h1; cases h1
    | some b =>
      rw [q] at h1
      cases b with
      | fr d => cases h1; dsimp only; rw [q]; rfl
      | ow ds => cases h1; dsimp only; rw [q]; rfl
      | od ds => cases h1; dsimp only; rw [q]; rfl
      | ex c => cases h1
      | rs k d => cases h1
      | sc ns => cases h1
      | tr t =>
        dsimp only at h1 ⊢
        rw [q]
        cases qd : t.dat with
        | none => rw [qd] at h1; cases h1
        | some d => rw [qd] at h1; cases h1; dsimp only; rw [qd]; rfl
  | b b =>
    cases b with
    | fr d => cases h1; rfl
    | ow ds => cases h1; rfl
    | od ds => cases h1; rfl
    | ex c => cases h1
    | rs k d => cases h1
    | sc ns => cases h1
    | tr t =>
      have h1' : (t.dat.map fun d => (d, e)) = some (x, e') := h1
      show ((t.dat.map fun d => (d, e)).map fun p => (B.fr p.1, p.2)) = _
      rw [h1']
      rfl
theorem fzb_sc {Γ : Ctx} {i : Nat} {ns : List Int} (h : Γ[i]? = some (some (.sc ns))) : FzB Γ (.s i) (.sc ns) Γ := fun e he => ⟨e, by
  have h1 : at? e i = some (.sc ns) := he.hold i _ h
  unfold fzB
  dsimp only
  rw [h1], he⟩
def cX {α : Type} (f : VL.Env → Option (Out α)) (K : α → KC) : KC := fun e => bndS (f e) K
theorem bndS_bnd {α β : Type} (r : Option (Out α)) (k : α → VL.Env → Option (Out β)) (K : β → KC) : bndS (bnd r k) K = bndS r fun a e => bndS (k a e) K := by
  cases r with
  | none => rfl
  | some o => cases o <;> rfl
theorem bndS_ob {α β : Type} (r : Option α) (k : α → Option (Out β)) (K : β → KC) : bndS (r.bind k) K = r.bind fun a => bndS (k a) K := by cases r <;> rfl
variable {Γ Γ' Γ1 : Ctx} {α β σ τ : Type} {m : R α} {po : α → PO} {K : O → KC} {C : KC} {o o1 o2 : O} {x y : PyData} {b z : B} {i j : Nat} {f fa fb fc : FE} {rest : FS} {op : PyData → PyData → Option B}
/-- a name that is there -/
theorem j_var {s : Sl} (h : Γ[i]? = some (some s)) (k : J Γ (K (.s i)) m po) : J Γ (cX (fVar i) K) m po := k.to fun e he => ⟨e, he, by
  have : ∃ b, at? e i = some b := by
    have h1 := he.hold i _ h
    cases q : at? e i with
    | some b => exact ⟨b, rfl⟩
    | none => rw [q] at h1; cases s <;> cases h1
  obtain ⟨b, hb⟩ := this
  show bndS (match at? e i with
  | some _ => some (Out.ok (O.s i) e)
  | none => none) K = _
  rw [hb]
  rfl⟩
theorem j_c {d : PyData} (k : J Γ (K (.b (.fr d))) m po) : J Γ (cX (fC d) K) m po := k
def cFz (o : O) (K : PyData → KC) : KC := fun e => (fz e o).bind fun p => K p.1 p.2
theorem j_fz {K : PyData → KC} (h : Fz Γ o x Γ') (k : J Γ' (K x) m po) : J Γ (cFz o K) m po := k.to fun e he => by
  obtain ⟨e', h1, h2⟩ := h e he
  exact ⟨e', h2, by show (fz e o).bind _ = _; rw [h1]; rfl⟩
def cFzB (o : O) (K : B → KC) : KC := fun e => (fzB e o).bind fun p => K p.1 p.2
theorem j_fzb {K : B → KC} (h : FzB Γ o b Γ') (k : J Γ' (K b) m po) : J Γ (cFzB o K) m po := k.to fun e he => by
  obtain ⟨e', h1, h2⟩ := h e he
  exact ⟨e', h2, by show (fzB e o).bind _ = _; rw [h1]; rfl⟩
def cOp (op : PyData → PyData → Option B) (o1 o2 : O) (K : O → KC) : KC := fun e => (res e o1).bind fun x => (res e o2).bind fun y => (op x y).bind fun z => K (.b z) e
theorem j_bin (k : J Γ (cX fa fun o1 => cX fb fun o2 => cOp op o1 o2 K) m po) : J Γ (cX (fBin op fa fb) K) m po := k.eq (funext fun e => by
  show bndS (bnd (fa e) fun o1 e1 => bnd (fb e1) fun o2 e2 => (res e2 o1).bind fun x => (res e2 o2).bind fun y => (op x y).bind fun z => some (Out.ok (O.b z) e2)) K = _
  rw [bndS_bnd]
  refine congrArg _ (funext fun a => funext fun e1 => ?_)
  rw [bndS_bnd]
  refine congrArg _ (funext fun a => funext fun e2 => ?_)
  rw [bndS_ob]
  refine congrArg _ (funext fun _ => ?_)
  rw [bndS_ob]
  refine congrArg _ (funext fun _ => ?_)
  rw [bndS_ob]
  rfl)
theorem j_op (h1 : Rd Γ o1 x) (h2 : Rd Γ o2 y) (h3 : op x y = some z) (k : J Γ (K (.b z)) m po) : J Γ (cOp op o1 o2 K) m po := k.to fun e he => ⟨e, he, by
  show (res e o1).bind _ = _
  rw [h1 e he, Option.bind_some, h2 e he, Option.bind_some, h3]
  rfl⟩
/-- an operator that may say no -/
def OpR (op : PyData → PyData → Option B) (x y : PyData) (r : Option β) (z : β → B) : Prop := ∀ a, r = some a → op x y = some (z a)
theorem j_opR {r : Option β} {z : β → B} {mk : β → R α} (h1 : Rd Γ o1 x) (h2 : Rd Γ o2 y) (h3 : OpR op x y r z) (k : ∀ a, J Γ (K (.b (z a))) (mk a) po) : J Γ (cOp op o1 o2 K) (ob r mk) po := j_ob fun a ha => j_op h1 h2 (h3 a ha) (k a)
def cUn (op : PyData → Option B) (o : O) (K : O → KC) : KC := fun e => (res e o).bind fun x => (op x).bind fun z => K (.b z) e
theorem j_un {op : PyData → Option B} (k : J Γ (cX fa fun o => cUn op o K) m po) : J Γ (cX (fUn op fa) K) m po := k.eq (funext fun e => by
  show bndS (bnd (fa e) fun o1 e1 => (res e1 o1).bind fun x => (op x).bind fun z => some (Out.ok (O.b z) e1)) K = _
  rw [bndS_bnd]
  refine congrArg _ (funext fun a => funext fun e1 => ?_)
  rw [bndS_ob]
  refine congrArg _ (funext fun _ => ?_)
  rw [bndS_ob]
  rfl)
theorem j_unop {op : PyData → Option B} (h1 : Rd Γ o x) (h3 : op x = some z) (k : J Γ (K (.b z)) m po) : J Γ (cUn op o K) m po := k.to fun e he => ⟨e, he, by
  show (res e o).bind _ = _
  rw [h1 e he, Option.bind_some, h3]
  rfl⟩
theorem j_unopR {op : PyData → Option B} {r : Option β} {z : β → B} {mk : β → R α} (h1 : Rd Γ o x) (h3 : ∀ a, r = some a → op x = some (z a)) (k : ∀ a, J Γ (K (.b (z a))) (mk a) po) : J Γ (cUn op o K) (ob r mk) po := j_ob fun a ha => j_unop h1 (h3 a ha) (k a)
section
variable {K : List PyData → KC} {fd : FD}
theorem j_dnil (k : J Γ (K []) m po) : J Γ (cX dNil K) m po := k
theorem j_dcons (k : J Γ (cX f fun o => cFz o fun d => cX fd fun ds => K (d :: ds)) m po) : J Γ (cX (dCons f fd) K) m po := k.eq (funext fun e => by
  show bndS (bnd (f e) fun o e1 => (fz e1 o).bind fun p => bnd (fd p.2) fun ds e2 => some (Out.ok (p.1 :: ds) e2)) K = _
  rw [bndS_bnd]
  refine congrArg _ (funext fun a => funext fun e1 => ?_)
  rw [bndS_ob]
  refine congrArg _ (funext fun p => ?_)
  rw [bndS_bnd]
  rfl)
end
def cLst (ds : List PyData) (K : O → KC) : KC := fun e => if ds.length ≤ 1000 then K (.b (.ow ds)) e else none
theorem j_lst {fd : FD} (k : J Γ (cX fd fun ds => cLst ds K) m po) : J Γ (cX (fLst fd) K) m po := k.eq (funext fun e => by
  show bndS (bnd (fd e) fun ds e1 => if ds.length ≤ 1000 then some (Out.ok (O.b (.ow ds)) e1) else none) K = _
  rw [bndS_bnd]
  refine congrArg _ (funext fun a => funext fun e1 => ?_)
  unfold cLst
  split <;> rfl)
theorem j_lst2 {ds : List PyData} (x : PyData) (hx : PyData.list ds = x) (h : decide (ds.length ≤ 1000) = true) (k : J Γ (K (.b (bow x))) m po) : J Γ (cLst ds K) m po := k.to fun e he => ⟨e, he, by
  show (if ds.length ≤ 1000 then K (.b (.ow ds)) e else none) = _
  rw [if_pos (of_decide_eq_true h), ← hx]
  rfl⟩
def cTup (ds : List PyData) (K : O → KC) : KC := fun e => if ds.length ≤ 1000 then K (.b (.fr (.tuple ds))) e else none
theorem j_tup {fd : FD} (k : J Γ (cX fd fun ds => cTup ds K) m po) : J Γ (cX (fTup fd) K) m po := k.eq (funext fun e => by
  show bndS (bnd (fd e) fun ds e1 => if ds.length ≤ 1000 then some (Out.ok (O.b (.fr (.tuple ds))) e1) else none) K = _
  rw [bndS_bnd]
  refine congrArg _ (funext fun a => funext fun e1 => ?_)
  unfold cTup
  split <;> rfl)
theorem j_tup2 {ds : List PyData} (x : PyData) (hx : PyData.tuple ds = x) (h : decide (ds.length ≤ 1000) = true) (k : J Γ (K (.b (.fr x))) m po) : J Γ (cTup ds K) m po := k.to fun e he => ⟨e, he, by
  show (if ds.length ≤ 1000 then K (.b (.fr (.tuple ds))) e else none) = _
  rw [if_pos (of_decide_eq_true h), hx]⟩
section
variable {K : Bool → KC} {t u : FT}
def cBool (o : O) (K : Bool → KC) : KC := fun e => match res e o with
  | some (.bool b) => K b e
  | _ => none
theorem j_test (k : J Γ (cX f fun o => cBool o K) m po) : J Γ (cX (fTest f) K) m po := k.eq (funext fun e => by
  show bndS (bnd (f e) fun o e1 => match res e1 o with
    | some (.bool b) => some (Out.ok b e1)
    | _ => none) K = _
  rw [bndS_bnd]
  refine congrArg _ (funext fun a => funext fun e1 => ?_)
  unfold cBool
  split <;> rfl)
theorem j_bool {b : Bool} (h : Rd Γ o (.bool b)) (k : J Γ (K b) m po) : J Γ (cBool o K) m po := k.to fun e he => ⟨e, he, by
  unfold cBool
  rw [h e he]⟩
theorem j_not (k : J Γ (cX t fun b => K (!b)) m po) : J Γ (cX (tNot t) K) m po := k.eq (funext fun e => by
  show bndS (bnd (t e) fun b e1 => some (Out.ok (!b) e1)) K = _
  rw [bndS_bnd]
  rfl)
/-- a test told alone -/
def kB : Bool → KC := fun b e => some (.rt (.fr (.bool b)) e)
theorem j_kb {b : Bool} (h : restr l Γ = Γ') {a : α} (hp : po a = .rt (.d (.bool b)) Γ') : J Γ (kB b) (.ok a) po := fun e he => ⟨_, rfl, by
  rw [hp]
  exact ⟨_, _, rfl, rfl, he.of h⟩⟩
/-- a test, whole: what it tells, then on -/
theorem j_sub {m1 : R β} {mk : β → R α} {bv : β → Bool} {Γ1 : β → Ctx} (h : J Γ (cX t kB) m1 fun a => .rt (.d (.bool (bv a))) (Γ1 a)) (k : ∀ a, J (Γ1 a) (K (bv a)) (mk a) po) : J Γ (cX t K) (m1.bind mk) po := fun e he => by
  have h1 := h e he
  cases m1 with
  | no => trivial
  | ex c =>
    obtain ⟨e', h2⟩ := h1
    have h2' : bndS (t e) kB = some (.ex c e') := h2
    have q : t e = some (.ex c e') := by
      cases q : t e with
      | none => rw [q] at h2'; cases h2'
      | some r =>
        rw [q] at h2'
        cases r with
        | ok b e1 => cases h2'
        | ex c2 e1 => cases h2'; rfl
    show ∃ e', bndS (t e) K = _
    rw [q]
    exact ⟨_, rfl⟩
  | ok a =>
    obtain ⟨w, h2, b, e', rfl, h3, h4⟩ := h1
    have h2' : bndS (t e) kB = some (.rt b e') := h2
    have q : t e = some (.ok (bv a) e') := by
      cases q : t e with
      | none => rw [q] at h2'; cases h2'
      | some r =>
        rw [q] at h2'
        cases r with
        | ex c2 e1 => cases h2'
        | ok b1 e1 =>
          cases h2'
          cases h3
          rfl
    have h5 := k a e' h4
    show match mk a with
      | .no => True
      | .ok a => ∃ w, bndS (t e) K = some w ∧ (po a).ok w
      | .ex c => ∃ e', bndS (t e) K = some (.ex c e')
    rw [q]
    exact h5
theorem j_subB {b : Bool} (h : J Γ (cX t kB) (.ok b) fun a => .rt (.d (.bool a)) Γ) (k : J Γ (K b) m po) : J Γ (cX t K) m po := by
  have h' : J Γ (cX t kB) (.ok ()) fun _ => .rt (.d (.bool b)) Γ := fun e he => h e he
  exact j_sub (mk := fun _ => m) (bv := fun _ => b) (Γ1 := fun _ => Γ) h' fun _ => k
/-- tests that say no to nothing -/
theorem j_and {a b : Bool} (h1 : J Γ (cX t kB) (.ok a) fun a => .rt (.d (.bool a)) Γ) (h2 : J Γ (cX u kB) (.ok b) fun a => .rt (.d (.bool a)) Γ) (k : J Γ (K (a && b)) m po) : J Γ (cX (tAnd t u) K) m po := by
  have h : J Γ (cX (tAnd t u) kB) (.ok (a && b)) fun a => .rt (.d (.bool a)) Γ := by
    refine J.eq (C' := cX t fun b => match b with
      | true => cX u kB
      | false => kB false) ?_ (funext fun e => ?_)
    · have := j_sub (K := fun b => match b with
        | true => cX u kB
        | false => kB false) h1 (mk := fun a => .ok (a && b)) (po := fun a => .rt (.d (.bool a)) Γ) (bv := fun a => a) (Γ1 := fun _ => Γ) fun a => by
          cases a with
          | true => exact h2
          | false => exact fun e he => ⟨_, rfl, _, _, rfl, rfl, he⟩
      exact this
    · show bndS (bnd (t e) fun b e1 => match b with
        | true => u e1
        | false => some (.ok false e1)) kB = _
      rw [bndS_bnd]
      refine congrArg _ (funext fun a => funext fun e1 => ?_)
      cases a <;> rfl
  exact j_subB h k
theorem j_or {a b : Bool} (h1 : J Γ (cX t kB) (.ok a) fun a => .rt (.d (.bool a)) Γ) (h2 : J Γ (cX u kB) (.ok b) fun a => .rt (.d (.bool a)) Γ) (k : J Γ (K (a || b)) m po) : J Γ (cX (tOr t u) K) m po := by
  have h : J Γ (cX (tOr t u) kB) (.ok (a || b)) fun a => .rt (.d (.bool a)) Γ := by
    refine J.eq (C' := cX t fun b => match b with
      | true => kB true
      | false => cX u kB) ?_ (funext fun e => ?_)
    · have := j_sub (K := fun b => match b with
        | true => kB true
        | false => cX u kB) h1 (mk := fun a => .ok (a || b)) (po := fun a => .rt (.d (.bool a)) Γ) (bv := fun a => a) (Γ1 := fun _ => Γ) fun a => by
          cases a with
          | false => exact h2
          | true => exact fun e he => ⟨_, rfl, _, _, rfl, rfl, he⟩
      exact this
    · show bndS (bnd (t e) fun b e1 => match b with
        | true => some (.ok true e1)
        | false => u e1) kB = _
      rw [bndS_bnd]
      refine congrArg _ (funext fun a => funext fun e1 => ?_)
      cases a <;> rfl
  exact j_subB h k
/-- in steps: the first test's effects stay -/
theorem j_andC (k : J Γ (cX t fun b => match b with
      | true => cX u K
      | false => K false) m po) : J Γ (cX (tAnd t u) K) m po := k.eq (funext fun e => by
  show bndS (bnd (t e) fun b e1 => match b with
      | true => u e1
      | false => some (.ok false e1)) K = _
  rw [bndS_bnd]
  refine congrArg _ (funext fun a => funext fun e1 => ?_)
  cases a <;> rfl)
theorem j_orC (k : J Γ (cX t fun b => match b with
      | true => K true
      | false => cX u K) m po) : J Γ (cX (tOr t u) K) m po := k.eq (funext fun e => by
  show bndS (bnd (t e) fun b e1 => match b with
      | true => some (.ok true e1)
      | false => u e1) K = _
  rw [bndS_bnd]
  refine congrArg _ (funext fun a => funext fun e1 => ?_)
  cases a <;> rfl)
/-- two ways -/
theorem j_ite {a : Bool} {A B : KC} {m1 m2 : R α} (h1 : J Γ A m1 po) (h2 : J Γ B m2 po) : J Γ (match a with
      | true => A
      | false => B) (if a = true then m1 else m2) po := by
  cases a with
  | true => exact h1
  | false => exact h2
end
/-- and, or, not as values -/
theorem j_notV (k : J Γ (cX fa fun o => cBool o fun b => K (.b (.fr (.bool (!b))))) m po) : J Γ (cX (fNotV fa) K) m po := k.eq (funext fun e => by
  show bndS (bnd (fa e) fun o e1 => match res e1 o with
    | some (.bool b) => okD (.bool (!b)) e1
    | _ => none) K = _
  rw [bndS_bnd]
  refine congrArg _ (funext fun a => funext fun e1 => ?_)
  unfold cBool
  split <;> rfl)
end TM
set_option maxRecDepth 100000
namespace TM
open PySem L2 VL PySem.W PySem.SeqAt
variable {Γ Γ' Γ1 Γ2 : Ctx} {α β σ τ : Type} {m : R α} {po : α → PO} {K : O → KC} {C : KC} {o o1 o2 o3 : O} {x y xv : PyData} {b z : B} {i j n : Nat} {f fa fb fc fx fv : FE} {rest : FS} {op : PyData → PyData → Option B} {fd : FD} {fo fl fh : FO} {r : FA} {F : Fn} {mi : List (Nat × Nat)}
section
variable {K : List O → KC}
theorem j_anil (k : J Γ (K []) m po) : J Γ (cX aNil K) m po := k
theorem j_acons (k : J Γ (cX f fun o => cX r fun os => K (o :: os)) m po) : J Γ (cX (aCons f r) K) m po := k.eq (funext fun e => by
  show bndS (bnd (f e) fun o e1 => bnd (r e1) fun os e2 => some (Out.ok (o :: os) e2)) K = _
  rw [bndS_bnd]
  refine congrArg _ (funext fun a => funext fun e1 => ?_)
  rw [bndS_bnd]
  rfl)
theorem j_aF (k : J Γ (cX f fun o => cFzB o fun b => cX r fun os => K (.b b :: os)) m po) : J Γ (cX (aF f r) K) m po := k.eq (funext fun e => by
  show bndS (bnd (f e) fun o e1 => (fzB e1 o).bind fun p => bnd (r p.2) fun os e2 => some (Out.ok (.b p.1 :: os) e2)) K = _
  rw [bndS_bnd]
  refine congrArg _ (funext fun a => funext fun e1 => ?_)
  rw [bndS_ob]
  refine congrArg _ (funext fun p => ?_)
  rw [bndS_bnd]
  rfl)
theorem j_aM {s : Sl} (h : Γ[i]? = some (some s)) (k : J Γ (cX r fun os => K (.s i :: os)) m po) : J Γ (cX (aM i r) K) m po := k.to fun e he => ⟨e, he, by
  have : ∃ b, at? e i = some b := by
    have h1 := he.hold i _ h
    cases q : at? e i with
    | some b => exact ⟨b, rfl⟩
    | none => rw [q] at h1; cases s <;> cases h1
  obtain ⟨b, hb⟩ := this
  show bndS (match at? e i with
    | some _ => bnd (r e) fun os e2 => some (Out.ok (.s i :: os) e2)
    | none => none) K = _
  rw [hb]
  dsimp only
  rw [bndS_bnd]
  rfl⟩
def cAP (o : O) (r : FA) (K : List O → KC) : KC := fun e => match o with
  | .s i => bndS (r e) fun os => K (.s i :: os)
  | .b _ => (fzB e o).bind fun p => bndS (r p.2) fun os => K (.b p.1 :: os)
theorem j_aP (k : J Γ (cX f fun o => cAP o r K) m po) : J Γ (cX (aP f r) K) m po := k.eq (funext fun e => by
  show bndS (bnd (f e) fun o e1 => match o with
    | .s i => bnd (r e1) fun os e2 => some (Out.ok (.s i :: os) e2)
    | .b _ => (fzB e1 o).bind fun p => bnd (r p.2) fun os e2 => some (Out.ok (.b p.1 :: os) e2)) K = _
  rw [bndS_bnd]
  refine congrArg _ (funext fun a => funext fun e1 => ?_)
  cases a with
  | s i =>
    show bndS (bnd (r e1) _) K = _
    rw [bndS_bnd]
    rfl
  | b b =>
    show bndS ((fzB e1 (.b b)).bind _) K = ((fzB e1 (.b b)).bind _)
    rw [bndS_ob]
    refine congrArg _ (funext fun p => ?_)
    rw [bndS_bnd]
    rfl)
theorem j_aPs (k : J Γ (cX r fun os => K (.s i :: os)) m po) : J Γ (cAP (.s i) r K) m po := k
theorem j_aPb (k : J Γ (cX r fun os => K (.b (.fr x) :: os)) m po) : J Γ (cAP (.b (.fr x)) r K) m po := k
end
/-- operands are read as xs -/
def RdA (Γ : Ctx) (os : List O) (xs : List PyData) : Prop := ∀ e, Cov Γ e → resAll e os = some xs
theorem ra_nil : RdA Γ [] [] := fun _ _ => rfl
theorem ra_cons {os : List O} {xs : List PyData} (h : Rd Γ o x) (t : RdA Γ os xs) : RdA Γ (o :: os) (x :: xs) := fun e he => by
  show (res e o).bind _ = _
  rw [h e he, Option.bind_some, t e he]
  rfl
def cCB (g : List PyData → Option B) (os : List O) (K : O → KC) : KC := fun e => (resAll e os).bind fun ds => (g ds).bind fun z => K (.b z) e
theorem j_cb {g : List PyData → Option B} (k : J Γ (cX r fun os => cCB g os K) m po) : J Γ (cX (fCB g r) K) m po := k.eq (funext fun e => by
  show bndS (bnd (r e) fun os e1 => (resAll e1 os).bind fun ds => (g ds).bind fun z => some (Out.ok (O.b z) e1)) K = _
  rw [bndS_bnd]
  refine congrArg _ (funext fun a => funext fun e1 => ?_)
  rw [bndS_ob]
  refine congrArg _ (funext fun _ => ?_)
  rw [bndS_ob]
  rfl)
theorem j_cbop {g : List PyData → Option B} {os : List O} {xs : List PyData} (h1 : RdA Γ os xs) (h3 : g xs = some z) (k : J Γ (K (.b z)) m po) : J Γ (cCB g os K) m po := k.to fun e he => ⟨e, he, by
  show (resAll e os).bind _ = _
  rw [h1 e he, Option.bind_some, h3]
  rfl⟩
theorem j_cbopR {g : List PyData → Option B} {os : List O} {xs : List PyData} {r : Option β} {z : β → B} {mk : β → R α} (h1 : RdA Γ os xs) (h3 : ∀ a, r = some a → g xs = some (z a)) (k : ∀ a, J Γ (K (.b (z a))) (mk a) po) : J Γ (cCB g os K) (ob r mk) po := j_ob fun a ha => j_cbop h1 (h3 a ha) (k a)
def cIsi (T : Ty) (o : O) (K : O → KC) : KC := fun e => (res e o).bind fun d => K (.b (.fr (.bool (isD T d)))) e
theorem j_isi {T : Ty} (k : J Γ (cX fa fun o => cIsi T o K) m po) : J Γ (cX (fIsi T fa) K) m po := k.eq (funext fun e => by
  show bndS (bnd (fa e) fun o e1 => (res e1 o).bind fun d => okD (.bool (isD T d)) e1) K = _
  rw [bndS_bnd]
  refine congrArg _ (funext fun a => funext fun e1 => ?_)
  rw [bndS_ob]
  rfl)
theorem j_isi2 {T : Ty} {b : Bool} (h1 : Rd Γ o x) (h2 : isD T x = b) (k : J Γ (K (.b (.fr (.bool b)))) m po) : J Γ (cIsi T o K) m po := k.to fun e he => ⟨e, he, by
  show (res e o).bind _ = _
  rw [h1 e he, ← h2]
  rfl⟩
def kO : O → KC := fun o e => match res e o with
  | some d => some (.rt (.fr d) e)
  | none => none
theorem j_ko {l : List Nat} (h1 : Rd Γ o x) {a : α} (hp : po a = .rt (.d x) Γ') (h : restr l Γ = Γ') : J Γ (kO o) (.ok a) po := fun e he => ⟨.rt (.fr x) e, by
  unfold kO
  rw [h1 e he], by
  rw [hp]
  exact ⟨_, _, rfl, rfl, he.of h⟩⟩
def cCh (g h : PyData → PyData → Option B) (o1 o2 : O) (fc : FE) (K : O → KC) : KC := fun e2 => (res e2 o1).bind fun x => (res e2 o2).bind fun y => match g x y with
    | some (.fr (.bool true)) => bndS (fc e2) fun o3 e3 => (res e3 o2).bind fun y' => (res e3 o3).bind fun z => (h y' z).bind fun r => K (.b r) e3
    | some (.fr (.bool false)) => K (.b (.fr (.bool false))) e2
    | _ => none
theorem j_chain {g h : PyData → PyData → Option B} (k : J Γ (cX fa fun o1 => cX fb fun o2 => cCh g h o1 o2 fc K) m po) : J Γ (cX (fChain g h fa fb fc) K) m po := k.eq (funext fun e => by
  show bndS (bnd (fa e) fun o1 e1 => bnd (fb e1) fun o2 e2 => (res e2 o1).bind fun x => (res e2 o2).bind fun y => match g x y with
    | some (.fr (.bool true)) => bnd (fc e2) fun o3 e3 => (res e3 o2).bind fun y' => (res e3 o3).bind fun z => (h y' z).bind fun r => some (Out.ok (O.b r) e3)
    | some (.fr (.bool false)) => some (Out.ok (O.b (.fr (.bool false))) e2)
    | _ => none) K = _
  rw [bndS_bnd]
  refine congrArg _ (funext fun o1 => funext fun e1 => ?_)
  rw [bndS_bnd]
  refine congrArg _ (funext fun o2 => funext fun e2 => ?_)
  rw [bndS_ob]
  unfold cCh
  refine congrArg _ (funext fun x => ?_)
  rw [bndS_ob]
  refine congrArg _ (funext fun y => ?_)
  cases q : g x y with
  | none => rfl
  | some b =>
    cases b with
    | fr d =>
      cases d with
      | bool b =>
        cases b with
        | true =>
          dsimp only
          rw [bndS_bnd]
          refine congrArg _ (funext fun o3 => funext fun e3 => ?_)
          rw [bndS_ob]
          refine congrArg _ (funext fun x => ?_)
          rw [bndS_ob]
          refine congrArg _ (funext fun x => ?_)
          rw [bndS_ob]
          rfl
        | false => rfl
      | _ => rfl
    | _ => rfl)
theorem j_chain2 {g h : PyData → PyData → Option B} {b1 b2 : Bool} (h1 : Rd Γ o1 x) (h2 : Rd Γ o2 y) (hg : g x y = some (.fr (.bool b1))) (hc : J Γ (cX fc kO) (.ok ()) fun _ => .rt (.d xv) Γ) (hh : h y xv = some (.fr (.bool b2))) (k : J Γ (K (.b (.fr (.bool (b1 && b2))))) m po) : J Γ (cCh g h o1 o2 fc K) m po := fun e he => by
  obtain ⟨w, q1, b, e', rfl, q2, q3⟩ := hc e he
  have q4 : ∃ o3, fc e = some (.ok o3 e') ∧ res e' o3 = some xv := by
    have q1' : bndS (fc e) kO = some (.rt b e') := q1
    cases q : fc e with
    | none => rw [q] at q1'; cases q1'
    | some r =>
      rw [q] at q1'
      cases r with
      | ex c e1 => cases q1'
      | ok o3 e1 =>
        have q5 : kO o3 e1 = some (.rt b e') := q1'
        unfold kO at q5
        split at q5
        · rename_i d qd
          cases q5
          cases q2
          exact ⟨o3, rfl, qd⟩
        · cases q5
  obtain ⟨o3, q5, q6⟩ := q4
  unfold cCh
  rw [h1 e he, Option.bind_some, h2 e he, Option.bind_some, hg]
  cases b1 with
  | false => exact k e he
  | true =>
    dsimp only
    rw [q5]
    have hC : (bndS (some (Out.ok o3 e')) fun o3 e3 => (res e3 o2).bind fun y' => (res e3 o3).bind fun z => (h y' z).bind fun r => K (.b r) e3) = K (.b (.fr (.bool (true && b2)))) e' := by
      show ((res e' o2).bind fun y' => (res e' o3).bind fun z => (h y' z).bind fun r => K (.b r) e') = _
      rw [h2 e' q3, Option.bind_some, q6, Option.bind_some, hh]
      rfl
    have q7 := k e' q3
    rw [← hC] at q7
    exact q7
section
variable {K : Option Int → KC}
theorem j_ono (k : J Γ (K none) m po) : J Γ (cX oNo K) m po := k
def cInt (o : O) (K : Int → KC) : KC := fun e => match res e o with
  | some (.int i) => K i e
  | _ => none
theorem j_osome (k : J Γ (cX f fun o => cInt o fun i => K (some i)) m po) : J Γ (cX (oSome f) K) m po := k.eq (funext fun e => by
  show bndS (bnd (f e) fun o e1 => match res e1 o with
    | some (.int i) => some (Out.ok (some i) e1)
    | _ => none) K = _
  rw [bndS_bnd]
  refine congrArg _ (funext fun a => funext fun e1 => ?_)
  unfold cInt
  split <;> rfl)
theorem j_int {i : Int} {K : Int → KC} (h : Rd Γ o (.int i)) (k : J Γ (K i) m po) : J Γ (cInt o K) m po := k.to fun e he => ⟨e, he, by
  unfold cInt
  rw [h e he]⟩
end
def cSl (o : O) (l h : Option Int) (K : O → KC) : KC := fun e => (res e o).bind fun x => (oSl x l h).bind fun z => K (.b z) e
theorem j_sl (k : J Γ (cX fa fun o => cX fl fun l => cX fh fun h => cSl o l h K) m po) : J Γ (cX (fSl fa fl fh) K) m po := k.eq (funext fun e => by
  show bndS (bnd (fa e) fun o e1 => bnd (fl e1) fun l e2 => bnd (fh e2) fun h e3 => (res e3 o).bind fun x => (oSl x l h).bind fun z => some (Out.ok (O.b z) e3)) K = _
  rw [bndS_bnd]
  refine congrArg _ (funext fun _ => funext fun _ => ?_)
  rw [bndS_bnd]
  refine congrArg _ (funext fun _ => funext fun _ => ?_)
  rw [bndS_bnd]
  refine congrArg _ (funext fun _ => funext fun _ => ?_)
  rw [bndS_ob]
  refine congrArg _ (funext fun _ => ?_)
  rw [bndS_ob]
  rfl)
theorem j_slop {l h : Option Int} (h1 : Rd Γ o x) (h3 : oSl x l h = some z) (k : J Γ (K (.b z)) m po) : J Γ (cSl o l h K) m po := k.to fun e he => ⟨e, he, by
  show (res e o).bind _ = _
  rw [h1 e he, Option.bind_some, h3]
  rfl⟩
def cLr1 (o : O) (K : O → KC) : KC := fun e => match res e o with
  | some (.int j) => if rgOk 0 j = true then K (.b (.ow (rngN 0 j.toNat))) e else none
  | _ => none
theorem j_lr1 (k : J Γ (cX fa fun o => cLr1 o K) m po) : J Γ (cX (fListRg1 fa) K) m po := k.eq (funext fun e => by
  show bndS (bnd (fa e) fun o e1 => match res e1 o with
    | some (.int j) => if rgOk 0 j = true then some (Out.ok (O.b (.ow (rngN 0 j.toNat))) e1) else none
    | _ => none) K = _
  rw [bndS_bnd]
  refine congrArg _ (funext fun a => funext fun e1 => ?_)
  unfold cLr1
  split
  · split <;> rfl
  · rfl)
/-- lo, lo + 1, .. -/
def rngL (lo : Int) (n : Nat) : List Int := (List.range n).map fun (i : Nat) => lo + (i : Int)
theorem rngN_L (lo : Int) (n : Nat) : rngN lo n = (rngL lo n).map Datum.toD := by
  unfold rngN rngL
  rw [List.map_map]
  rfl
def lrg1 (j : Int) : Option (List Int) := if rgOk 0 j = true then some (rngL 0 j.toNat) else none
theorem j_lr1op {i : Int} {mk : List Int → R α} (h1 : Rd Γ o (.int i)) (k : ∀ a, J Γ (K (.b (bow (Datum.toD a)))) (mk a) po) : J Γ (cLr1 o K) (ob (lrg1 i) mk) po := j_ob fun a ha => (k a).to fun e he => ⟨e, he, by
  unfold cLr1
  unfold lrg1 at ha
  rw [h1 e he]
  dsimp only
  split at ha
  · rename_i q
    cases ha
    rw [if_pos q, rngN_L]
    rfl
  · cases ha⟩
def cScLen (o : O) (K : O → KC) : KC := fun e => match bOf e o with
  | some (.sc ns) => K (.b (.fr (.int ns.length))) e
  | _ => none
theorem j_scLen (k : J Γ (cX fa fun o => cScLen o K) m po) : J Γ (cX (fScLen fa) K) m po := k.eq (funext fun e => by
  show bndS (bnd (fa e) fun o e1 => match bOf e1 o with
    | some (.sc ns) => okD (.int ns.length) e1
    | _ => none) K = _
  rw [bndS_bnd]
  refine congrArg _ (funext fun a => funext fun e1 => ?_)
  unfold cScLen
  split <;> rfl)
theorem j_scLen2 {ns : List Int} (h : Γ[i]? = some (some (.sc ns))) (k : J Γ (K (.b (.fr (.int (ns.length : Nat))))) m po) : J Γ (cScLen (.s i) K) m po := k.to fun e he => ⟨e, he, by
  have h1 : bOf e (.s i) = some (.sc ns) := he.hold i _ h
  unfold cScLen
  rw [h1]⟩
def cScIx (o o2 : O) (K : O → KC) : KC := fun e2 => match bOf e2 o, res e2 o2 with
  | some (.sc ns), some (.int i) => (atI ns i).bind fun n => K (.b (.fr (.int n))) e2
  | _, _ => none
theorem j_scIx (k : J Γ (cX fa fun o => cX fb fun o2 => cScIx o o2 K) m po) : J Γ (cX (fScIx fa fb) K) m po := k.eq (funext fun e => by
  show bndS (bnd (fa e) fun o e1 => bnd (fb e1) fun o2 e2 => match bOf e2 o, res e2 o2 with
    | some (.sc ns), some (.int i) => (atI ns i).bind fun n => okD (.int n) e2
    | _, _ => none) K = _
  rw [bndS_bnd]
  refine congrArg _ (funext fun a => funext fun e1 => ?_)
  rw [bndS_bnd]
  refine congrArg _ (funext fun a => funext fun e1 => ?_)
  unfold cScIx
  split
  · rw [bndS_ob]
    rfl
  · rfl)
theorem j_scIx2 {ns : List Int} {j : Int} {mk : Int → R α} (h : Γ[i]? = some (some (.sc ns))) (h2 : Rd Γ o2 (.int j)) (k : ∀ a, J Γ (K (.b (.fr (.int a)))) (mk a) po) : J Γ (cScIx (.s i) o2 K) (ob (atI ns j) mk) po := j_ob fun a ha => (k a).to fun e he => ⟨e, he, by
  have h1 : bOf e (.s i) = some (.sc ns) := he.hold i _ h
  unfold cScIx
  rw [h1, h2 e he]
  dsimp only
  rw [ha]
  rfl⟩
def cChk (i : Nat) (C : KC) : KC := fun e => match at? e i with
  | some (.ow _) => C e
  | _ => none
def isL : PyData → Bool
  | .list _ => true
  | _ => false
theorem bow_l {x : PyData} (h : isL x = true) : ∃ ds, x = .list ds ∧ bow x = .ow ds := by
  cases x with
  | list ds => exact ⟨ds, rfl, rfl⟩
  | _ => cases h
theorem j_chk (h : Γ[i]? = some (some (.o x))) (hl : isL x = true) (k : J Γ C m po) : J Γ (cChk i C) m po := k.to fun e he => ⟨e, he, by
  obtain ⟨ds, rfl, hb⟩ := bow_l hl
  unfold cChk
  rw [he.own h, hb]⟩
def cMth (i : Nat) (g : List PyData → List PyData → Option (B × List PyData)) (as : List PyData) (K : O → KC) : KC := fun e => match at? e i with
  | some (.ow ds) => (g ds as).bind fun p => K (.b p.1) (e.set i (some (.ow p.2)))
  | _ => none
theorem j_mth {g : List PyData → List PyData → Option (B × List PyData)} (k : J Γ (cChk i (cX fd fun as => cMth i g as K)) m po) : J Γ (cX (fMth i g fd) K) m po := k.eq (funext fun e => by
  show bndS (match at? e i with
    | some (.ow _) => bnd (fd e) fun as e1 => match at? e1 i with
      | some (.ow ds) => (g ds as).bind fun p => some (Out.ok (.b p.1) (e1.set i (some (.ow p.2))))
      | _ => none
    | _ => none) K = _
  unfold cChk
  split
  · rw [bndS_bnd]
    refine congrArg _ (funext fun a => funext fun e1 => ?_)
    unfold cMth
    split
    · rw [bndS_ob]
      rfl
    · rfl
  · rfl)
theorem j_mthop {g : List PyData → List PyData → Option (B × List PyData)} {as ds es : List PyData} {y : PyData} (h : Γ[i]? = some (some (.o (.list ds)))) (hg : g ds as = some (z, es)) (hy : PyData.list es = y) (k : J (Γ.set i (some (.o y))) (K (.b z)) m po) : J Γ (cMth i g as K) m po := k.to fun e he => ⟨e.set i (some (.ow es)), by
  have := he.set (i := i) (s := .o y) (b := some (.ow es)) (by rw [← hy]; rfl)
  exact this, by
  unfold cMth
  rw [he.own h]
  show ((g ds as).bind fun p => K (.b p.1) (e.set i (some (.ow p.2)))) = _
  rw [hg]
  rfl⟩
theorem j_mthopR {g : List PyData → List PyData → Option (B × List PyData)} {as ds : List PyData} {r : Option β} {z : β → B} {es : β → List PyData} {y : β → PyData} {mk : β → R α} (h : Γ[i]? = some (some (.o (.list ds)))) (hg : ∀ a, r = some a → g ds as = some (z a, es a)) (hy : ∀ a, PyData.list (es a) = y a) (k : ∀ a, J (Γ.set i (some (.o (y a)))) (K (.b (z a))) (mk a) po) : J Γ (cMth i g as K) (ob r mk) po := j_ob fun a ha => j_mthop h (hg a ha) (hy a) (k a)
/-- what a def tells, by its mirror -/
def FnS (F : Fn) (bs : List B) (m : R α) (rv : α → Sl) (ch : α → List (Nat × Sl)) : Prop := match m with
  | .no => True
  | .ok a => ∃ b e, F bs = some (.ret b e) ∧ (rv a).ok (some b) ∧ ∀ p ∈ ch a, p.2.ok (at? e p.1)
  | .ex c => ∃ e, F bs = some (.ex c e)
inductive All2 {A B : Type} (r : A → B → Prop) : List A → List B → Prop where
  | nil : All2 r [] []
  | cons {a : A} {b : B} {as : List A} {bs : List B} : r a b → All2 r as bs → All2 r (a :: as) (b :: bs)
theorem All2.length_eq {A B : Type} {r : A → B → Prop} {as : List A} {bs : List B} (h : All2 r as bs) : as.length = bs.length := by
  induction h with
  | nil => rfl
  | cons _ _ ih => rw [List.length_cons, List.length_cons, ih]
theorem cov_args {bs : List B} {ss : List Sl} (n : Nat) (h : All2 (fun (s : Sl) b => s.ok (some b)) ss bs) : Cov (ss.map some ++ List.replicate n none) (bs.map some ++ List.replicate n none) := by
  refine ⟨?_, fun i s hi => ?_⟩
  · have := h.length_eq
    rw [List.length_append, List.length_append, List.length_map, List.length_map, List.length_replicate, List.length_replicate, this]
  · induction h generalizing i with
    | nil =>
      rw [List.map_nil, List.nil_append, List.getElem?_replicate] at hi
      split at hi <;> cases hi
    | cons h1 h2 ih =>
      cases i with
      | zero => cases hi; exact h1
      | succ i => exact ih i hi
theorem fn_mk {bs : List B} {ss : List Sl} {g : FS} {N : Nat} {rv : α → Sl} {ch : α → List (Nat × Sl)} {Γe : α → Ctx} (hN : N - bs.length = n) (hs : All2 (fun (s : Sl) b => s.ok (some b)) ss bs) (hΓ : ss.map some ++ List.replicate n none = Γ) (h : J Γ g m fun a => .rt (rv a) (Γe a)) (hc : ∀ a, ∀ p ∈ ch a, (Γe a)[p.1]? = some (some p.2)) : FnS (runF g N) bs m rv ch := by
  have h1 := h _ (hΓ ▸ cov_args n hs)
  unfold FnS
  unfold runF
  rw [hN]
  cases m with
  | no => trivial
  | ex c =>
    obtain ⟨e, h2⟩ := h1
    rw [h2]
    exact ⟨e, rfl⟩
  | ok a =>
    obtain ⟨w, h2, b, e, rfl, h3, h4⟩ := h1
    rw [h2]
    exact ⟨b, e, rfl, h3, fun p hp => h4.hold _ _ (hc a p hp)⟩
/-- a def that tells None -/
theorem fn_mkN {bs : List B} {ss : List Sl} {g : FS} {N : Nat} {ch : α → List (Nat × Sl)} {Γe : α → Ctx} (hN : N - bs.length = n) (hs : All2 (fun (s : Sl) b => s.ok (some b)) ss bs) (hΓ : ss.map some ++ List.replicate n none = Γ) (h : J Γ g m fun a => .fn (Γe a)) (hc : ∀ a, ∀ p ∈ ch a, (Γe a)[p.1]? = some (some p.2)) : FnS (runF g N) bs m (fun _ => .d .none) ch := by
  have h1 := h _ (hΓ ▸ cov_args n hs)
  unfold FnS
  unfold runF
  rw [hN]
  cases m with
  | no => trivial
  | ex c =>
    obtain ⟨e, h2⟩ := h1
    rw [h2]
    exact ⟨e, rfl⟩
  | ok a =>
    obtain ⟨w, h2, e, h5, h4⟩ := h1
    rw [h2]
    rcases h5 with rfl | rfl
    · exact ⟨_, e, rfl, rfl, fun p hp => h4.hold _ _ (hc a p hp)⟩
    · exact ⟨_, e, rfl, rfl, fun p hp => h4.hold _ _ (hc a p hp)⟩
def cCall (F : Fn) (n : Nat) (mi : List (Nat × Nat)) (os : List O) (K : O → KC) : KC := fun e1 => if (slotsOk mi 0 os && miOk mi os && os.length == n) = true then (bindO e1 os).bind fun bs => match F bs with
  | none => none
  | some (.ret b e2) => K (.b b) (putBack e2 mi e1)
  | some (.ex c e2) => some (.ex c (putBack e2 mi e1)) else none
theorem j_call (k : J Γ (cX r fun os => cCall F n mi os K) m po) : J Γ (cX (fCall F n mi r) K) m po := k.eq (funext fun e => by
  show bndS (bnd (r e) fun os e1 => if (slotsOk mi 0 os && miOk mi os && os.length == n) = true then (bindO e1 os).bind fun bs => match F bs with
    | none => none
    | some (.ret b e2) => some (Out.ok (.b b) (putBack e2 mi e1))
    | some (.ex c e2) => some (Out.ex c (putBack e2 mi e1)) else none) K = _
  rw [bndS_bnd]
  refine congrArg _ (funext fun a => funext fun e1 => ?_)
  unfold cCall
  split
  · rw [bndS_ob]
    refine congrArg _ (funext fun bs => ?_)
    split <;> simp_all [bndS]
  · rfl)
/-- operands handed in -/
def BdA (Γ : Ctx) (os : List O) (bs : List B) : Prop := ∀ e, Cov Γ e → bindO e os = some bs
theorem ba_nil : BdA Γ [] [] := fun _ _ => rfl
theorem ba_b {os : List O} {bs : List B} (t : BdA Γ os bs) : BdA Γ (.b b :: os) (b :: bs) := fun e he => by
  show (bindO e os).bind _ = _
  rw [t e he]
  rfl
theorem ba_o {os : List O} {bs : List B} (h : Γ[i]? = some (some (.o x))) (t : BdA Γ os bs) : BdA Γ (.s i :: os) (bow x :: bs) := fun e he => by
  show (at? e i).bind _ = _
  rw [he.own h, Option.bind_some, t e he]
  rfl
theorem ba_rs {os : List O} {bs : List B} {k : Nat} (h : Γ[i]? = some (some (.rs k x))) (t : BdA Γ os bs) : BdA Γ (.s i :: os) (.rs k x :: bs) := fun e he => by
  have : at? e i = some (.rs k x) := he.hold i _ h
  show (at? e i).bind _ = _
  rw [this, Option.bind_some, t e he]
  rfl
/-- the context behind a call -/
def back (mi : List (Nat × Nat)) (ch : List (Nat × Sl)) (Γ : Ctx) : Ctx := mi.foldl (fun Γ p => Γ.set p.2 ((ch.find? fun q => q.1 == p.1).map (·.2))) Γ
theorem Cov.back {ch : List (Nat × Sl)} {e2 : VL.Env} (hc : ∀ p ∈ ch, p.2.ok (at? e2 p.1)) : ∀ (mi : List (Nat × Nat)) {Γ : Ctx} {e : VL.Env}, Cov Γ e → Cov (back mi ch Γ) (putBack e2 mi e)
  | [], _, _, h => h
  | (j, i) :: mi, Γ, e, h => by
    show Cov (TM.back mi ch (Γ.set i ((ch.find? fun q => q.1 == j).map (·.2)))) (putBack e2 mi (e.set i (at? e2 j)))
    refine Cov.back hc mi ?_
    cases q : ch.find? fun q => q.1 == j with
    | none => exact h.drop i _
    | some p =>
      have h1 := List.find?_some q
      have h2 := hc p (List.mem_of_find?_eq_some q)
      rw [beq_iff_eq] at h1
      rw [h1] at h2
      exact h.set h2
theorem j_callG {os : List O} {bs : List B} {m1 : R β} {rv : β → Sl} {ch : β → List (Nat × Sl)} {mk : β → R α} (h0 : (slotsOk mi 0 os && miOk mi os && os.length == n) = true) (h1 : BdA Γ os bs) (hF : FnS F bs m1 rv ch) (k : ∀ a b, (rv a).ok (some b) → J (TM.back mi (ch a) Γ) (K (.b b)) (mk a) po) : J Γ (cCall F n mi os K) (m1.bind mk) po := fun e he => by
  have hC : cCall F n mi os K e = match F bs with
    | none => none
    | some (.ret b e2) => K (.b b) (putBack e2 mi e)
    | some (.ex c e2) => some (.ex c (putBack e2 mi e)) := by
    unfold cCall
    rw [if_pos h0, h1 e he]
    rfl
  rw [hC]
  unfold FnS at hF
  cases m1 with
  | no => trivial
  | ex c =>
    obtain ⟨e2, q⟩ := hF
    rw [q]
    exact ⟨_, rfl⟩
  | ok a =>
    obtain ⟨b, e2, q, q2, q3⟩ := hF
    rw [q]
    exact k a b q2 _ (he.back q3 mi)
/-- not a list, not a dict -/
def solid : PyData → Bool
  | .list _ => false
  | .dict _ => false
  | _ => true
theorem solid_fr {b : B} (h : b.dat = some x) (hs : solid x = true) : b = .fr x := by
  cases b with
  | fr d => cases h; rfl
  | ow ds => cases h; cases hs
  | od ds => cases h; cases hs
  | ex c => cases h
  | rs k d => cases h
  | tr t => cases h
  | sc ns => cases h
/-- an answer that is no list; one that is new; any -/
theorem j_callF {os : List O} {bs : List B} {m1 : R β} {xr : β → PyData} {ch : β → List (Nat × Sl)} {mk : β → R α} {Γb : β → Ctx} (h0 : (slotsOk mi 0 os && miOk mi os && os.length == n) = true) (h1 : BdA Γ os bs) (hF : FnS F bs m1 (fun a => .d (xr a)) ch) (hs : ∀ a, solid (xr a) = true) (hb : ∀ a, TM.back mi (ch a) Γ = Γb a) (k : ∀ a, J (Γb a) (K (.b (.fr (xr a)))) (mk a) po) : J Γ (cCall F n mi os K) (m1.bind mk) po :=
  j_callG h0 h1 hF fun a b h => by
    have := solid_fr (b := b) h (hs a)
    subst this
    rw [hb]
    exact k a
theorem j_callO {os : List O} {bs : List B} {m1 : R β} {xr : β → PyData} {ch : β → List (Nat × Sl)} {mk : β → R α} {Γb : β → Ctx} (h0 : (slotsOk mi 0 os && miOk mi os && os.length == n) = true) (h1 : BdA Γ os bs) (hF : FnS F bs m1 (fun a => .o (xr a)) ch) (hb : ∀ a, TM.back mi (ch a) Γ = Γb a) (k : ∀ a, J (Γb a) (K (.b (bow (xr a)))) (mk a) po) : J Γ (cCall F n mi os K) (m1.bind mk) po :=
  j_callG h0 h1 hF fun a b h => by
    have h' : some b = some (bow (xr a)) := h
    cases h'
    rw [hb]
    exact k a
def cCallP (F : Fn) (n : Nat) (os : List O) (K : O → KC) : KC := fun e1 => if flatO os = true then (lendO e1 os).bind fun bs => if bs.length = n then match F bs with
  | some (.ret (.fr d) _) => if isFlat d = true then K (.b (.fr d)) e1 else none
  | some (.ex c _) => some (.ex c e1)
  | _ => none else none else none
theorem j_callP (k : J Γ (cX r fun os => cCallP F n os K) m po) : J Γ (cX (fCallP F n r) K) m po := k.eq (funext fun e => by
  show bndS (bnd (r e) fun os e1 => if flatO os = true then (lendO e1 os).bind fun bs => if bs.length = n then match F bs with
    | some (.ret (.fr d) _) => if isFlat d = true then okD d e1 else none
    | some (.ex c _) => some (Out.ex c e1)
    | _ => none else none else none) K = _
  rw [bndS_bnd]
  refine congrArg _ (funext fun a => funext fun e1 => ?_)
  unfold cCallP
  split
  · rw [bndS_ob]
    refine congrArg _ (funext fun bs => ?_)
    split
    · cases F bs with
      | none => rfl
      | some q =>
        cases q with
        | ex c e => rfl
        | ret b e =>
          cases b with
          | fr d =>
            dsimp only
            split <;> rfl
          | _ => rfl
    · rfl
  · rfl)
/-- operands lent -/
def LdA (Γ : Ctx) (os : List O) (bs : List B) : Prop := ∀ e, Cov Γ e → lendO e os = some bs
theorem la_nil : LdA Γ [] [] := fun _ _ => rfl
theorem la_b {os : List O} {bs : List B} (t : LdA Γ os bs) : LdA Γ (.b b :: os) (b :: bs) := fun e he => by
  show (lendO e os).bind _ = _
  rw [t e he]
  rfl
theorem lent_dat {b : B} (h : b.dat = some x) : lent b = some (.fr x) := by
  cases b with
  | fr d => cases h; rfl
  | ow ds => cases h; rfl
  | od ds => cases h; rfl
  | ex c => cases h
  | rs k d => cases h
  | tr t => cases h
  | sc ns => cases h
theorem la_d {os : List O} {bs : List B} (h : Γ[i]? = some (some (.d x))) (t : LdA Γ os bs) : LdA Γ (.s i :: os) (.fr x :: bs) := fun e he => by
  have h1 : (at? e i).bind B.dat = some x := he.hold i _ h
  show ((at? e i).bind lent).bind _ = _
  cases q : at? e i with
  | none => rw [q] at h1; cases h1
  | some b =>
    rw [q] at h1
    rw [Option.bind_some, lent_dat h1, Option.bind_some, t e he]
    rfl
theorem j_callPop {os : List O} {bs : List B} {m1 : R β} {xr : β → PyData} {ch : β → List (Nat × Sl)} {mk : β → R α} (h0 : flatO os = true) (h1 : LdA Γ os bs) (hn : bs.length = n) (hF : FnS F bs m1 (fun a => .d (xr a)) ch) (hs : ∀ a, isFlat (xr a) = true) (k : ∀ a, J Γ (K (.b (.fr (xr a)))) (mk a) po) : J Γ (cCallP F n os K) (m1.bind mk) po := fun e he => by
  have hC : cCallP F n os K e = match F bs with
    | some (.ret (.fr d) _) => if isFlat d = true then K (.b (.fr d)) e else none
    | some (.ex c _) => some (.ex c e)
    | _ => none := by
    unfold cCallP
    rw [if_pos h0, h1 e he, Option.bind_some, if_pos hn]
  rw [hC]
  unfold FnS at hF
  cases m1 with
  | no => trivial
  | ex c =>
    obtain ⟨e2, q⟩ := hF
    rw [q]
    exact ⟨_, rfl⟩
  | ok a =>
    obtain ⟨b, e2, q, q2, q3⟩ := hF
    have hsd : solid (xr a) = true := by
      have := hs a
      revert this
      cases xr a <;> simp [isFlat, solid]
    have := solid_fr (b := b) q2 hsd
    subst this
    rw [q]
    dsimp only
    rw [if_pos (hs a)]
    exact k a e he
end TM
set_option maxRecDepth 100000
namespace TM
open PySem L2 VL PySem.W PySem.SeqAt
variable {Γ Γ' Γ1 Γ2 : Ctx} {α β σ τ γ υ : Type} {m : R α} {po : α → PO} {K : O → KC} {C : KC} {o o1 o2 o3 : O} {x y : PyData} {b z : B} {i j n : Nat} {f fa fb fc fx fy fv : FE} {rest A : FS} {op : PyData → PyData → Option B} {fd : FD} {fi : FI} {t : FT} {l : List Nat} {a : α}
theorem seq_bndS {q : Option (Out β)} {k : β → VL.Env → Option SO} {rest : FS} : (match bndS q k with
  | some (.nx e1) => rest e1
  | r => r) = bndS q fun a e => match k a e with
    | some (.nx e1) => rest e1
    | r => r := by
  cases q with
  | none => rfl
  | some o => cases o <;> rfl
theorem seq_ob {q : Option β} {k : β → Option SO} {rest : FS} : (match q.bind k with
  | some (.nx e1) => rest e1
  | r => r) = q.bind fun a => match k a with
    | some (.nx e1) => rest e1
    | r => r := by cases q <;> rfl
def thn (q : Option SO) (rest : FS) : Option SO := match q with
  | some (.nx e1) => rest e1
  | r => r
theorem thn_bndS {q : Option (Out β)} {k : β → VL.Env → Option SO} : thn (bndS q k) rest = bndS q fun a e => thn (k a e) rest := by
  cases q with
  | none => rfl
  | some o => cases o <;> rfl
theorem thn_ob {q : Option β} {k : β → Option SO} : thn (q.bind k) rest = q.bind fun a => thn (k a) rest := by cases q <;> rfl
def cSet (i : Nat) (b : B) (rest : FS) : KC := fun e => rest (e.set i (some b))
theorem j_asg (k : J Γ (cX f fun o => cFzB o fun b => cSet i b rest) m po) : J Γ (sSeq (sAsg i f) rest) m po := k.eq (funext fun e => by
  show (match bndS (f e) fun o e1 => (fzB e1 o).bind fun p => some (SO.nx (p.2.set i (some p.1))) with
    | some (.nx e1) => rest e1
    | r => r) = _
  rw [seq_bndS]
  refine congrArg _ (funext fun a => funext fun e1 => ?_)
  rw [seq_ob]
  rfl)
theorem j_setD (k : J (Γ.set i (some (.d x))) rest m po) : J Γ (cSet i (.fr x) rest) m po := k.to fun e he => ⟨_, he.set (s := .d x) (b := some (.fr x)) rfl, rfl⟩
theorem j_setO (k : J (Γ.set i (some (.o x))) rest m po) : J Γ (cSet i (bow x) rest) m po := k.to fun e he => ⟨_, he.set (s := .o x) (b := some (bow x)) rfl, rfl⟩
def cOwn (i : Nat) (o : O) (rest : FS) : KC := fun e => match o with
  | .b b => rest (e.set i (some b))
  | .s _ => none
theorem j_own (k : J Γ (cX f fun o => cOwn i o rest) m po) : J Γ (sSeq (sOwn i f) rest) m po := k.eq (funext fun e => by
  show (match bndS (f e) fun o e1 => match o with
    | .b b => some (SO.nx (e1.set i (some b)))
    | .s _ => none with
    | some (.nx e1) => rest e1
    | r => r) = _
  rw [seq_bndS]
  refine congrArg _ (funext fun a => funext fun e1 => ?_)
  cases a <;> rfl)
theorem j_ownb (k : J Γ (cSet i b rest) m po) : J Γ (cOwn i (.b b) rest) m po := k
def cRet (o : O) : KC := fun e => match o with
  | .b b => some (.rt b e)
  | .s i => (at? e i).bind fun b => some (.rt b (e.set i none))
theorem j_ret (k : J Γ (cX f cRet) m po) : J Γ (sSeq (sRetO f) rest) m po := k.eq (funext fun e => by
  show (match bndS (f e) cRet with
    | some (.nx e1) => rest e1
    | r => r) = _
  rw [seq_bndS]
  refine congrArg _ (funext fun a => funext fun e1 => ?_)
  unfold cRet
  cases a with
  | b b => rfl
  | s i =>
    dsimp only
    rw [seq_ob])
theorem j_retb {s : Sl} (h : s.ok (some b)) (hr : restr l Γ = Γ') (hp : po a = .rt s Γ') : J Γ (cRet (.b b)) (.ok a) po := fun e he => ⟨_, rfl, by
  rw [hp]
  exact ⟨_, _, rfl, h, he.of hr⟩⟩
theorem sl_d : (Sl.d x).ok (some (.fr x)) := rfl
theorem sl_o : (Sl.o x).ok (some (bow x)) := rfl
theorem sl_id {s : Sl} {b : Option B} (h : s.ok b) : s.ok b := h
theorem j_rets {s s' : Sl} (h : Γ[i]? = some (some s')) (hs : ∀ b, s'.ok b → s.ok b) (hr : restr l (Γ.set i none) = Γ') (hp : po a = .rt s Γ') : J Γ (cRet (.s i)) (.ok a) po := fun e he => by
  have h1 := he.hold i _ h
  obtain ⟨b, hb⟩ : ∃ b, at? e i = some b := by
    cases q : at? e i with
    | some b => exact ⟨b, rfl⟩
    | none => rw [q] at h1; cases s' <;> cases h1
  refine ⟨.rt b (e.set i none), ?_, ?_⟩
  · show (at? e i).bind _ = _
    rw [hb]
    rfl
  · rw [hp]
    exact ⟨b, _, rfl, hs _ (hb ▸ h1), (he.drop i none).of hr⟩
theorem j_seqRaise {c : Str} : J Γ (sSeq (sRaise c) rest) (.ex c) po := fun e _ => ⟨e, rfl⟩
theorem j_nil (hr : restr l Γ = Γ') (hp : po a = .nx Γ') : J Γ sNil (.ok a) po := fun e he => ⟨_, rfl, by
  rw [hp]
  exact ⟨_, rfl, he.of hr⟩⟩
theorem j_nilF (hr : restr l Γ = Γ') (hp : po a = .fn Γ') : J Γ sNil (.ok a) po := fun e he => ⟨_, rfl, by
  rw [hp]
  exact ⟨_, .inl rfl, he.of hr⟩⟩
theorem seq_nil : sSeq A sNil = A := funext fun e => by
  show (match A e with
    | some (.nx e1) => some (SO.nx e1)
    | r => r) = _
  split
  · rename_i e1 q; rw [q]
  · rfl
theorem j_last (k : J Γ (sSeq A sNil) m po) : J Γ A m po := k.eq seq_nil.symm
theorem j_seqNil (k : J Γ rest m po) : J Γ (sSeq sNil rest) m po := k
theorem j_assoc {B' : FS} (k : J Γ (sSeq A (sSeq B' rest)) m po) : J Γ (sSeq (sSeq A B') rest) m po := k.eq (funext fun e => by
  show (match (match A e with
      | some (.nx e1) => B' e1
      | r => r) with
    | some (.nx e1) => rest e1
    | r => r) = match A e with
      | some (.nx e1) => (match B' e1 with
        | some (.nx e2) => rest e2
        | r => r)
      | r => r
  cases A e with
  | none => rfl
  | some w => cases w <;> rfl)
theorem j_expr (k : J Γ (cX f fun _ => rest) m po) : J Γ (sSeq (sExpr f) rest) m po := k.eq (funext fun e => by
  show (match bndS (f e) fun _ e1 => some (SO.nx e1) with
    | some (.nx e1) => rest e1
    | r => r) = _
  rw [seq_bndS]
  rfl)
inductive Fl (σ γ : Type) where
  | nx (s : σ)
  | bk (s : σ)
  | rt (a : γ)
theorem j_seq {m1 : R σ} {Γs : σ → Ctx} {mk : σ → R α} (h : J Γ A m1 fun s => .nx (Γs s)) (k : ∀ s, J (Γs s) rest (mk s) po) : J Γ (sSeq A rest) (m1.bind mk) po := fun e he => by
  have h1 := h e he
  cases m1 with
  | no => trivial
  | ex c =>
    obtain ⟨e', h2⟩ := h1
    refine ⟨e', ?_⟩
    show (match A e with
      | some (.nx e1) => rest e1
      | r => r) = _
    rw [h2]
  | ok s =>
    obtain ⟨w, h2, e', rfl, h3⟩ := h1
    have h4 := k s e' h3
    have hC : sSeq A rest e = rest e' := by
      show (match A e with
        | some (.nx e1) => rest e1
        | r => r) = _
      rw [h2]
    rw [hC]
    exact h4
/-- a part that may end all -/
def poF (Γs : σ → Ctx) (po : α → PO) : Fl σ α → PO
  | .nx s => .nx (Γs s)
  | .bk s => .bk (Γs s)
  | .rt a => po a
def Fl.out (mk : σ → R α) : Fl σ α → R α
  | .nx s => mk s
  | .bk _ => .no
  | .rt a => .ok a
@[simp] theorem out_nx {mk : σ → R α} {s : σ} : Fl.out mk (.nx s : Fl σ α) = mk s := rfl
@[simp] theorem out_rt {mk : σ → R α} {a : α} : Fl.out mk (.rt a : Fl σ α) = .ok a := rfl
/-- an end that is no next -/
def PO.fin : PO → Bool
  | .nx _ => false
  | .fn _ => false
  | _ => true
theorem j_seqF {m1 : R (Fl σ α)} {Γs : σ → Ctx} {mk : σ → R α} (hf : ∀ a, (po a).fin = true) (h : J Γ A m1 (poF Γs po)) (k : ∀ s, J (Γs s) rest (mk s) po) : J Γ (sSeq A rest) (m1.bind (Fl.out mk)) po := fun e he => by
  have h1 := h e he
  cases m1 with
  | no => trivial
  | ex c =>
    obtain ⟨e', h2⟩ := h1
    refine ⟨e', ?_⟩
    show (match A e with
      | some (.nx e1) => rest e1
      | r => r) = _
    rw [h2]
  | ok r =>
    cases r with
    | bk s => trivial
    | nx s =>
      obtain ⟨w, h2, e', rfl, h3⟩ := h1
      have h4 := k s e' h3
      have hC : sSeq A rest e = rest e' := by
        show (match A e with
          | some (.nx e1) => rest e1
          | r => r) = _
        rw [h2]
      rw [hC]
      exact h4
    | rt a =>
      obtain ⟨w, h2, h3⟩ := h1
      have h3' : (po a).ok w := h3
      refine ⟨w, ?_, h3'⟩
      show (match A e with
        | some (.nx e1) => rest e1
        | r => r) = _
      rw [h2]
      have hfa := hf a
      revert h3' hfa
      cases po a with
      | nx Γ => intro _ h; cases h
      | fn Γ => intro _ h; cases h
      | bk Γ => rintro ⟨e', rfl, _⟩ _; rfl
      | rt s Γ => rintro ⟨b, e', rfl, _⟩ _; rfl
/-- in a loop's block: a part that may end the def -/
def Fl.outF (mk : σ → R (Fl β γ)) : Fl σ γ → R (Fl β γ)
  | .nx s => mk s
  | .bk _ => .no
  | .rt a => .ok (.rt a)
@[simp] theorem outF_nx {mk : σ → R (Fl β γ)} {s : σ} : Fl.outF mk (.nx s : Fl σ γ) = mk s := rfl
@[simp] theorem outF_rt {mk : σ → R (Fl β γ)} {a : γ} : Fl.outF mk (.rt a : Fl σ γ) = .ok (.rt a) := rfl
theorem j_seqFF {m1 : R (Fl σ γ)} {Γs : σ → Ctx} {Γt : β → Ctx} {pg : γ → PO} {mk : σ → R (Fl β γ)} (hf : ∀ a, (pg a).fin = true) (h : J Γ A m1 (poF Γs pg)) (k : ∀ s, J (Γs s) rest (mk s) (poF Γt pg)) : J Γ (sSeq A rest) (m1.bind (Fl.outF mk)) (poF Γt pg) := fun e he => by
  have h1 := h e he
  cases m1 with
  | no => trivial
  | ex c =>
    obtain ⟨e', h2⟩ := h1
    refine ⟨e', ?_⟩
    show (match A e with
      | some (.nx e1) => rest e1
      | r => r) = _
    rw [h2]
  | ok r =>
    cases r with
    | bk s => trivial
    | nx s =>
      obtain ⟨w, h2, e', rfl, h3⟩ := h1
      have h4 := k s e' h3
      have hC : sSeq A rest e = rest e' := by
        show (match A e with
          | some (.nx e1) => rest e1
          | r => r) = _
        rw [h2]
      rw [hC]
      exact h4
    | rt a =>
      obtain ⟨w, h2, h3⟩ := h1
      have h3' : (pg a).ok w := h3
      refine ⟨w, ?_, h3'⟩
      show (match A e with
        | some (.nx e1) => rest e1
        | r => r) = _
      rw [h2]
      have hfa := hf a
      revert h3' hfa
      cases pg a with
      | nx Γ => intro _ h; cases h
      | fn Γ => intro _ h; cases h
      | bk Γ => rintro ⟨e', rfl, _⟩ _; rfl
      | rt s Γ => rintro ⟨b, e', rfl, _⟩ _; rfl
theorem j_if1 {B' : FS} (k : J Γ (cX t fun b => match b with
  | true => A
  | false => B') m po) : J Γ (sIf t A B') m po := k.eq (funext fun e => by
  show bndS (t e) (fun b e1 => match b with
    | true => A e1
    | false => B' e1) = _
  refine congrArg _ (funext fun a => funext fun e1 => ?_)
  cases a <;> rfl)
theorem j_if {B' : FS} (k : J Γ (cX t fun b => match b with
  | true => sSeq A rest
  | false => sSeq B' rest) m po) : J Γ (sSeq (sIf t A B') rest) m po := k.eq (funext fun e => by
  show (match bndS (t e) (fun b e1 => match b with
    | true => A e1
    | false => B' e1) with
    | some (.nx e1) => rest e1
    | r => r) = _
  rw [seq_bndS]
  refine congrArg _ (funext fun a => funext fun e1 => ?_)
  cases a <;> rfl)
def cTgt (g : FG) (d : PyData) (C : KC) : KC := fun e => match g d e with
  | none => none
  | some e1 => C e1
theorem j_gN (k : J (Γ.set i (some (.d x))) C m po) : J Γ (cTgt (gN i) x C) m po := k.to fun e he => ⟨_, he.set (s := .d x) (b := some (.fr x)) rfl, rfl⟩
theorem j_gT2 (k : J ((Γ.set i (some (.d x))).set j (some (.d y))) C m po) : J Γ (cTgt (gT2 i j) (.tuple [x, y]) C) m po := k.to fun e he => ⟨_, (he.set (s := .d x) (b := some (.fr x)) rfl).set (s := .d y) (b := some (.fr y)) rfl, rfl⟩
def deadOk : List Nat → Ctx → Bool
  | [], _ => true
  | i :: is, Γ => (match Γ[i]? with
    | some none => true
    | none => true
    | _ => false) && deadOk is Γ
theorem Cov.forget : ∀ (dead : List Nat) {e : VL.Env}, deadOk dead Γ = true → Cov Γ e → Cov Γ (VL.forget dead e)
  | [], _, _, h => h
  | i :: is, e, hd, h => by
    show Cov Γ (VL.forget is (e.set i none))
    have hd' : ((match Γ[i]? with
      | some none => true
      | none => true
      | _ => false) && deadOk is Γ) = true := hd
    rw [Bool.and_eq_true] at hd'
    refine Cov.forget is hd'.2 ?_
    refine ⟨by rw [List.length_set, h.len], fun j s hj => ?_⟩
    by_cases q : i = j
    · subst q
      rw [hj] at hd'
      cases hd'.1
    · rw [at_set_ne q]
      exact h.hold j s hj
def foldM {τ σ : Type} (mb : σ → τ → R σ) : List τ → σ → R σ
  | [], s => .ok s
  | x :: xs, s => (mb s x).bind (foldM mb xs)
theorem j_forL {g : FG} {body : FS} {dead : List Nat} {D : τ → PyData} {Γs : σ → Ctx} {mb : σ → τ → R σ} (hd : ∀ s, deadOk dead (Γs s) = true) (hb : ∀ s x, J (Γs s) (cTgt g (D x) body) (mb s x) fun s' => .nx (Γs s')) : ∀ (xs : List τ) (s : σ), J (Γs s) (sForL g body dead (xs.map D)) (foldM mb xs s) fun s => .nx (Γs s)
  | [], s => fun e he => ⟨_, rfl, _, rfl, he.forget dead (hd s)⟩
  | x :: xs, s => fun e he => by
    have h1 := hb s x e he
    have hC : sForL g body dead ((x :: xs).map D) e = match cTgt g (D x) body e with
      | some (.nx e2) => sForL g body dead (xs.map D) (forget dead e2)
      | some (.ct e2) => sForL g body dead (xs.map D) (forget dead e2)
      | some (.bk e2) => some (.nx (forget dead e2))
      | some (.rt b e2) => some (.rt b e2)
      | some (.ex c e2) => some (.ex c e2)
      | none => none := by
      show (match g (D x) e with
        | none => none
        | some e1 => _) = _
      unfold cTgt
      cases g (D x) e <;> rfl
    rw [hC]
    unfold foldM
    cases q : mb s x with
    | no => trivial
    | ex c =>
      rw [q] at h1
      obtain ⟨e', h2⟩ := h1
      rw [h2]
      exact ⟨e', rfl⟩
    | ok s' =>
      rw [q] at h1
      obtain ⟨w, h2, e', rfl, h3⟩ := h1
      rw [h2]
      exact j_forL hd hb xs s' _ (h3.forget dead (hd s'))
theorem j_for {g : FG} {body : FS} {dead : List Nat} {xs : List τ} {D : τ → PyData} {Γs : σ → Ctx} {mb : σ → τ → R σ} (s0 : σ) (h0 : restr l Γ = Γs s0) (hd : ∀ s, deadOk dead (Γs s) = true) (hb : ∀ s x, J (Γs s) (cTgt g (D x) body) (mb s x) fun s' => .nx (Γs s')) : J Γ (sForL g body dead (xs.map D)) (foldM mb xs s0) fun s => .nx (Γs s) := fun e he => j_forL hd hb xs s0 e (he.of h0)
theorem j_sFor {g : FG} {body : FS} {dead : List Nat} (k : J Γ (cX fi fun ds => sForL g body dead ds) m po) : J Γ (sFor fi g body dead) m po := k
/-- with ends within -/
def loopM {τ σ γ : Type} (mb : σ → τ → R (Fl σ γ)) : List τ → σ → R (Fl σ γ)
  | [], s => .ok (.nx s)
  | x :: xs, s => (mb s x).bind fun r => match r with
    | .nx s => loopM mb xs s
    | .bk s => .ok (.nx s)
    | .rt a => .ok (.rt a)
theorem j_loopL {g : FG} {body : FS} {dead : List Nat} {D : τ → PyData} {Γs : σ → Ctx} {mb : σ → τ → R (Fl σ α)} (hf : ∀ a, ∃ s Γ', po a = .rt s Γ') (hd : ∀ s, deadOk dead (Γs s) = true) (hb : ∀ s x, J (Γs s) (cTgt g (D x) body) (mb s x) (poF Γs po)) : ∀ (xs : List τ) (s : σ), J (Γs s) (sForL g body dead (xs.map D)) (loopM mb xs s) (poF Γs po)
  | [], s => fun e he => ⟨_, rfl, _, rfl, he.forget dead (hd s)⟩
  | x :: xs, s => fun e he => by
    have h1 := hb s x e he
    have hC : sForL g body dead ((x :: xs).map D) e = match cTgt g (D x) body e with
      | some (.nx e2) => sForL g body dead (xs.map D) (forget dead e2)
      | some (.ct e2) => sForL g body dead (xs.map D) (forget dead e2)
      | some (.bk e2) => some (.nx (forget dead e2))
      | some (.rt b e2) => some (.rt b e2)
      | some (.ex c e2) => some (.ex c e2)
      | none => none := by
      show (match g (D x) e with
        | none => none
        | some e1 => _) = _
      unfold cTgt
      cases g (D x) e <;> rfl
    rw [hC]
    unfold loopM
    cases q : mb s x with
    | no => trivial
    | ex c =>
      rw [q] at h1
      obtain ⟨e', h2⟩ := h1
      rw [h2]
      exact ⟨e', rfl⟩
    | ok r =>
      rw [q] at h1
      cases r with
      | nx s' =>
        obtain ⟨w, h2, e', rfl, h3⟩ := h1
        rw [h2]
        exact j_loopL hf hd hb xs s' _ (h3.forget dead (hd s'))
      | bk s' =>
        obtain ⟨w, h2, e', rfl, h3⟩ := h1
        rw [h2]
        exact ⟨_, rfl, _, rfl, h3.forget dead (hd s')⟩
      | rt a =>
        obtain ⟨w, h2, h3⟩ := h1
        rw [h2]
        have h3' : (po a).ok w := h3
        obtain ⟨s1, Γ1, hp⟩ := hf a
        have h4 := h3'
        rw [hp] at h4
        obtain ⟨b, e', rfl, _⟩ := h4
        exact ⟨_, rfl, h3'⟩
theorem j_loop {g : FG} {body : FS} {dead : List Nat} {xs : List τ} {D : τ → PyData} {Γs : σ → Ctx} {mb : σ → τ → R (Fl σ α)} (s0 : σ) (h0 : restr l Γ = Γs s0) (hf : ∀ a, ∃ s Γ', po a = .rt s Γ') (hd : ∀ s, deadOk dead (Γs s) = true) (hb : ∀ s x, J (Γs s) (cTgt g (D x) body) (mb s x) (poF Γs po)) : J Γ (sForL g body dead (xs.map D)) (loopM mb xs s0) (poF Γs po) := fun e he => j_loopL hf hd hb xs s0 e (he.of h0)
end TM
set_option maxRecDepth 100000
namespace TM
open PySem L2 VL PySem.W PySem.SeqAt
variable {Γ Γ' Γ1 Γ2 : Ctx} {α β σ τ γ υ : Type} {m : R α} {po : α → PO} {K : O → KC} {C : KC} {o o1 o2 o3 : O} {x y : PyData} {b z : B} {i j n : Nat} {f fa fb fc fx fy fv : FE} {rest A : FS} {op : PyData → PyData → Option B} {fd : FD} {fi : FI} {t : FT} {l : List Nat} {a : α}
theorem j_fIf (k : J Γ (cX t fun b => match b with
  | true => cX fa K
  | false => cX fb K) m po) : J Γ (cX (fIf t fa fb) K) m po := k.eq (funext fun e => by
  show bndS (bnd (t e) fun b e1 => match b with
    | true => fa e1
    | false => fb e1) K = _
  rw [bndS_bnd]
  refine congrArg _ (funext fun a => funext fun e1 => ?_)
  cases a <;> rfl)
/-- a value alone -/
def kF : O → KC := fun o => cFz o fun d e => some (.rt (.fr d) e)
theorem j_kf (h : Fz Γ o x Γ1) {a : α} (hr : restr l Γ1 = Γ') (hp : po a = .rt (.d x) Γ') : J Γ (kF o) (.ok a) po := fun e he => by
  obtain ⟨e', h1, h2⟩ := h e he
  refine ⟨.rt (.fr x) e', ?_, ?_⟩
  · show (fz e o).bind _ = _
    rw [h1]
    rfl
  · rw [hp]
    exact ⟨_, _, rfl, rfl, h2.of hr⟩
/-- what an expression's kF tells -/
theorem kF_of {q : Option (Out O)} {b : B} {e' : VL.Env} (h : bndS q kF = some (.rt b e')) : ∃ o e1 d, q = some (.ok o e1) ∧ fz e1 o = some (d, e') ∧ b = .fr d := by
  cases q with
  | none => cases h
  | some r =>
    cases r with
    | ex c e1 => cases h
    | ok o e1 =>
      have h' : ((fz e1 o).bind fun p => some (SO.rt (.fr p.1) p.2)) = some (.rt b e') := h
      cases q2 : fz e1 o with
      | none => rw [q2] at h'; cases h'
      | some p =>
        rw [q2] at h'
        obtain ⟨d, e2⟩ := p
        cases h'
        exact ⟨o, e1, d, rfl, q2, rfl⟩
theorem kF_nx {q : Option (Out O)} {e' : VL.Env} (h : bndS q kF = some (.nx e')) : False := by
  cases q with
  | none => cases h
  | some r =>
    cases r with
    | ex c e1 => cases h
    | ok o e1 =>
      have h' : ((fz e1 o).bind fun p => some (SO.rt (.fr p.1) p.2)) = some (.nx e') := h
      cases q2 : fz e1 o with
      | none => rw [q2] at h'; cases h'
      | some p => rw [q2] at h'; cases h'
def kSkip : KC := fun e => some (.nx e)
theorem j_skip {a : α} (hr : restr l Γ = Γ') (hp : po a = .nx Γ') : J Γ kSkip (.ok a) po := fun e he => ⟨_, rfl, by
  rw [hp]
  exact ⟨_, rfl, he.of hr⟩⟩
def cItem (g : FG) (d : PyData) (t : FT) (f : FE) : KC := cTgt g d (cX t fun b => match b with
  | true => cX f kF
  | false => kSkip)
/-- an item's end: taken, or left out -/
def poI (E : υ → PyData) (Γs : σ → Ctx) : Option υ × σ → PO
  | (some y, s) => .rt (.d (E y)) (Γs s)
  | (none, s) => .nx (Γs s)
def lcS {τ σ υ : Type} (step : σ → τ → R (Option υ × σ)) : List τ → List υ → σ → R (List υ × σ)
  | [], acc, s => .ok (acc, s)
  | x :: xs, acc, s => (step s x).bind fun r => match r with
    | (none, s') => lcS step xs acc s'
    | (some y, s') => if acc.length < big then lcS step xs (acc ++ [y]) s' else .no
theorem item_of {g : FG} {d : PyData} {e : VL.Env} {w : SO} (h : cItem g d t f e = some w) : (∃ e1 e2, g d e = some e1 ∧ t e1 = some (.ok false e2) ∧ w = .nx e2) ∨ (∃ e1 e2 o e3 x e4, g d e = some e1 ∧ t e1 = some (.ok true e2) ∧ f e2 = some (.ok o e3) ∧ fz e3 o = some (x, e4) ∧ w = .rt (.fr x) e4) ∨ ∃ c e', w = .ex c e' := by
  have h0 : (match g d e with
    | none => none
    | some e1 => bndS (t e1) fun b => match b with
      | true => cX f kF
      | false => kSkip) = some w := h
  cases q : g d e with
  | none => rw [q] at h0; cases h0
  | some e1 =>
    rw [q] at h0
    dsimp only at h0
    cases q2 : t e1 with
    | none => rw [q2] at h0; cases h0
    | some r =>
      rw [q2] at h0
      cases r with
      | ex c e2 => cases h0; exact .inr (.inr ⟨_, _, rfl⟩)
      | ok b e2 =>
        cases b with
        | false => cases h0; exact .inl ⟨e1, e2, rfl, q2, rfl⟩
        | true =>
          have h1 : bndS (f e2) kF = some w := h0
          cases w with
          | rt b' e' =>
            obtain ⟨o, e3, x, k1, k2, rfl⟩ := kF_of h1
            exact .inr (.inl ⟨e1, e2, o, e3, x, e', rfl, q2, k1, k2, rfl⟩)
          | ex c e' => exact .inr (.inr ⟨_, _, rfl⟩)
          | nx e' => exact (kF_nx h1).elim
          | bk e' =>
            cases q3 : f e2 with
            | none => rw [q3] at h1; cases h1
            | some r =>
              rw [q3] at h1
              cases r with
              | ex c e1 => cases h1
              | ok o e1 =>
                have h' : ((fz e1 o).bind fun p => some (SO.rt (.fr p.1) p.2)) = some (.bk e') := h1
                cases q4 : fz e1 o with
                | none => rw [q4] at h'; cases h'
                | some p => rw [q4] at h'; cases h'
          | ct e' =>
            cases q3 : f e2 with
            | none => rw [q3] at h1; cases h1
            | some r =>
              rw [q3] at h1
              cases r with
              | ex c e1 => cases h1
              | ok o e1 =>
                have h' : ((fz e1 o).bind fun p => some (SO.rt (.fr p.1) p.2)) = some (.ct e') := h1
                cases q4 : fz e1 o with
                | none => rw [q4] at h'; cases h'
                | some p => rw [q4] at h'; cases h'
/-- no errors within -/
def R.calm (m : R α) : R α := match m with
  | .ex _ => .no
  | m => m
theorem lc_loop {g : FG} {vs : List Nat} {D : τ → PyData} {E : υ → PyData} {Γs : σ → Ctx} {step : σ → τ → R (Option υ × σ)} (hd : ∀ s, deadOk vs (Γs s) = true) (hb : ∀ s x, J (Γs s) (cItem g (D x) t f) (step s x) (poI E Γs)) : ∀ (xs : List τ) (acc : List υ) (s : σ) (e : VL.Env), Cov (Γs s) e → ∀ r, lcS (fun s x => (step s x).calm) xs acc s = .ok r →
    ∃ e', fLcL g t f vs (xs.map D) (acc.map E) e = some (.ok (.b (.ow (r.1.map E))) e') ∧ Cov (Γs r.2) e'
  | [], acc, s, e, he, r, hr => by
    cases hr
    exact ⟨e, rfl, he⟩
  | x :: xs, acc, s, e, he, r, hr => by
    unfold lcS at hr
    have h1 := hb s x e he
    cases q : step s x with
    | no => rw [q] at hr; cases hr
    | ex c => rw [q] at hr; cases hr
    | ok p =>
      rw [q] at hr h1
      obtain ⟨y, s'⟩ := p
      obtain ⟨w, h2, h3⟩ := h1
      cases y with
      | none =>
        have hr' : lcS (fun s x => (step s x).calm) xs acc s' = .ok r := hr
        obtain ⟨e', rfl, h5⟩ := h3
        rcases item_of h2 with ⟨e1, e2, k1, k2, k3⟩ | ⟨e1, e2, o, e3, x', e4, k1, k2, k3, k4, k5⟩ | ⟨c, e1, k⟩
        · cases k3
          obtain ⟨e6, k6, k7⟩ := lc_loop hd hb xs acc s' (forget vs e') (h5.forget vs (hd s')) r hr'
          refine ⟨e6, ?_, k7⟩
          show fLcL g t f vs (D x :: xs.map D) _ e = _
          rw [fLcL, k1]
          dsimp only
          rw [k2]
          exact k6
        · cases k5
        · cases k
      | some y =>
        have hr' : (if acc.length < big then lcS (fun s x => (step s x).calm) xs (acc ++ [y]) s' else .no) = .ok r := hr
        split at hr'
        · rename_i hl
          obtain ⟨b, e', rfl, h5, h6⟩ := h3
          rcases item_of h2 with ⟨e1, e2, k1, k2, k3⟩ | ⟨e1, e2, o, e3, x', e4, k1, k2, k3, k4, k5⟩ | ⟨c, e1, k⟩
          · cases k3
          · cases k5
            cases h5
            obtain ⟨e6, k6, k7⟩ := lc_loop hd hb xs (acc ++ [y]) s' (forget vs e') (h6.forget vs (hd s')) r hr'
            refine ⟨e6, ?_, k7⟩
            show fLcL g t f vs (D x :: xs.map D) _ e = _
            rw [fLcL, k1]
            dsimp only
            rw [k2]
            dsimp only
            rw [k3]
            dsimp only
            rw [k4]
            dsimp only
            rw [List.length_map, if_pos hl]
            rw [List.map_append] at k6
            exact k6
          · cases k
        · cases hr'
def cLc (g : FG) (t : FT) (f : FE) (vs : List Nat) (ds : List PyData) (K : O → KC) : KC := fun e => bndS (fLcL g t f vs ds [] (forget vs e)) K
theorem j_lc {g : FG} {vs : List Nat} (k : J Γ (cX fi fun ds => cLc g t f vs ds K) m po) : J Γ (cX (fLc fi g t f vs) K) m po := k.eq (funext fun e => by
  show bndS (bnd (fi e) fun ds e1 => fLcL g t f vs ds [] (forget vs e1)) K = _
  rw [bndS_bnd]
  rfl)
theorem j_lcG {g : FG} {vs : List Nat} {D : τ → PyData} {xs : List τ} {E : υ → PyData} {Γs : σ → Ctx} {step : σ → τ → R (Option υ × σ)} {mk : List υ × σ → R α} {xr : List υ → PyData} (s0 : σ) (h0 : restr l Γ = Γs s0) (hd : ∀ s, deadOk vs (Γs s) = true) (hb : ∀ s x, J (Γs s) (cItem g (D x) t f) (step s x) (poI E Γs)) (hx : ∀ ys, PyData.list (ys.map E) = xr ys) (k : ∀ r, J (Γs r.2) (K (.b (bow (xr r.1)))) (mk r) po) : J Γ (cLc g t f vs (xs.map D) K) ((lcS (fun s x => (step s x).calm) xs [] s0).bind mk) po := fun e he => by
  cases q : lcS (fun s x => (step s x).calm) xs [] s0 with
  | no => trivial
  | ex c =>
    exfalso
    have : ∀ (xs : List τ) (acc : List υ) (s : σ), lcS (fun s x => (step s x).calm) xs acc s ≠ .ex c := by
      intro xs
      induction xs with
      | nil => intro acc s h; cases h
      | cons x xs ih =>
        intro acc s h
        unfold lcS at h
        cases q : step s x with
        | no => rw [q] at h; cases h
        | ex c => rw [q] at h; cases h
        | ok p =>
          rw [q] at h
          obtain ⟨y, s'⟩ := p
          cases y with
          | none => exact ih acc s' h
          | some y =>
            have h' : (if acc.length < big then lcS (fun s x => (step s x).calm) xs (acc ++ [y]) s' else .no) = .ex c := h
            split at h'
            · exact ih _ _ h'
            · cases h'
    exact this _ _ _ q
  | ok r =>
    obtain ⟨e', h1, h2⟩ := lc_loop hd hb xs [] s0 (forget vs e) ((he.of h0).forget vs (hd s0)) r q
    have h3 := k r e' h2
    have hC : cLc g t f vs (xs.map D) K e = K (.b (bow (xr r.1))) e' := by
      unfold cLc
      have h1' : fLcL g t f vs (xs.map D) [] (forget vs e) = some (.ok (.b (.ow (r.1.map E))) e') := h1
      rw [h1', ← hx]
      rfl
    rw [hC]
    exact h3
/-- what keeps all that stands around -/
def lcM {τ υ : Type} (step : τ → R (Option υ)) : List τ → List υ → R (List υ)
  | [], acc => .ok acc
  | x :: xs, acc => (step x).bind fun r => match r with
    | none => lcM step xs acc
    | some y => if acc.length < big then lcM step xs (acc ++ [y]) else .no
theorem lcM_S (step : τ → R (Option υ)) : ∀ (xs : List τ) (acc : List υ), lcS (fun (_ : Unit) x => ((step x).bind fun r => R.ok (r, ())).calm) xs acc () = (lcM (fun x => (step x).calm) xs acc).bind fun ys => .ok (ys, ())
  | [], acc => rfl
  | x :: xs, acc => by
    unfold lcS lcM
    cases q : step x with
    | no => rfl
    | ex c => rfl
    | ok r =>
      cases r with
      | none => exact lcM_S step xs acc
      | some y =>
        show (if acc.length < big then lcS _ xs (acc ++ [y]) () else .no) = (if acc.length < big then lcM _ xs (acc ++ [y]) else .no).bind _
        split
        · exact lcM_S step xs (acc ++ [y])
        · rfl
/-- an item's end without a state -/
def poJ (E : υ → PyData) (Γs : Ctx) : Option υ → PO
  | some y => .rt (.d (E y)) Γs
  | none => .nx Γs
theorem j_lcM {g : FG} {vs : List Nat} {D : τ → PyData} {xs : List τ} {E : υ → PyData} {Γs : Ctx} {step : τ → R (Option υ)} {mk : List υ → R α} {xr : List υ → PyData} (h0 : restr l Γ = Γs) (hd : deadOk vs Γs = true) (hb : ∀ x, J Γs (cItem g (D x) t f) (step x) (poJ E Γs)) (hx : ∀ ys, PyData.list (ys.map E) = xr ys) (k : ∀ r, J Γs (K (.b (bow (xr r)))) (mk r) po) : J Γ (cLc g t f vs (xs.map D) K) ((lcM (fun x => (step x).calm) xs []).bind mk) po := by
  have h := j_lcG (Γ := Γ) (K := K) (po := po) (Γs := fun _ : Unit => Γs) (step := fun _ x => (step x).bind fun r => R.ok (r, ())) (E := E) (mk := fun r => mk r.1) (xr := xr) (xs := xs) () h0 (fun _ => hd) (fun _ x e he => by
    have h1 := hb x e he
    cases q : step x with
    | no => trivial
    | ex c => rw [q] at h1; exact h1
    | ok r =>
      rw [q] at h1
      cases r <;> exact h1) hx fun r => k r.1
  rw [lcM_S, bind_assoc] at h
  exact h
/-- tests and values that say no to nothing -/
def lcP {τ υ : Type} (p : τ → Bool) (q : τ → υ) (xs : List τ) : Option (List υ) := if xs.length ≤ big then some ((xs.filter p).map q) else none
theorem lcP_loop (p : τ → Bool) (q : τ → υ) : ∀ (xs : List τ) (acc : List υ), acc.length + xs.length ≤ big → lcM (fun x => (R.ok (if p x = true then some (q x) else none)).calm) xs acc = .ok (acc ++ (xs.filter p).map q)
  | [], acc, _ => by simp [lcM]
  | x :: xs, acc, hl => by
    rw [List.length_cons] at hl
    unfold lcM
    by_cases hp : p x = true
    · rw [List.filter_cons_of_pos hp, if_pos hp]
      show (if acc.length < big then lcM _ xs (acc ++ [q x]) else .no) = _
      rw [if_pos (by omega), lcP_loop p q xs (acc ++ [q x]) (by rw [List.length_append, List.length_singleton]; omega), List.map_cons, List.append_assoc]
      rfl
    · rw [List.filter_cons_of_neg hp, if_neg hp]
      exact lcP_loop p q xs acc (by omega)
theorem j_lcP {g : FG} {vs : List Nat} {D : τ → PyData} {xs : List τ} {E : υ → PyData} {Γs : Ctx} {p : τ → Bool} {q : τ → υ} {mk : List υ → R α} {xr : List υ → PyData} (h0 : restr l Γ = Γs) (hd : deadOk vs Γs = true) (hb : ∀ x, J Γs (cItem g (D x) t f) (if p x = true then .ok (some (q x)) else .ok none) (poJ E Γs)) (hx : ∀ ys, PyData.list (ys.map E) = xr ys) (k : ∀ r, J Γs (K (.b (bow (xr r)))) (mk r) po) : J Γ (cLc g t f vs (xs.map D) K) (ob (lcP p q xs) mk) po := by
  refine j_ob fun a ha => ?_
  have hb' : ∀ x, J Γs (cItem g (D x) t f) (.ok (if p x = true then some (q x) else none)) (poJ E Γs) := fun x => by
    have := hb x
    split
    · rename_i h; rw [if_pos h] at this; exact this
    · rename_i h; rw [if_neg h] at this; exact this
  have h := j_lcM (mk := mk) (xs := xs) h0 hd hb' hx k
  unfold lcP at ha
  split at ha
  · rename_i hl
    cases ha
    rw [lcP_loop p q xs [] (by simpa using hl)] at h
    exact h
  · cases ha
def cPutI (i : Nat) (o : O) (d : PyData) (C : KC) : KC := fun e => match res e o, at? e i with
  | some (.int k), some (.ow ds) => (ixN ds.length k).bind fun j => C (e.set i (some (.ow (ds.set j d))))
  | _, _ => none
def cHas (i : Nat) (C : KC) : KC := fun e => match at? e i with
  | none => none
  | some _ => C e
theorem j_has {s : Sl} (h : Γ[i]? = some (some s)) (k : J Γ C m po) : J Γ (cHas i C) m po := k.to fun e he => ⟨e, he, by
  have h1 := he.hold i _ h
  unfold cHas
  cases q : at? e i with
  | none => rw [q] at h1; cases s <;> cases h1
  | some b => rfl⟩
theorem putAt_eq {C : KC} : (fun e => bndS (putAt i fx x e) fun _ => C) = cHas i (cX fx fun o => cPutI i o x C) := funext fun e => by
  show bndS (match at? e i with
    | none => none
    | some _ => bnd (fx e) fun o e1 => match res e1 o, at? e1 i with
      | some (.int k), some (.ow ds) => (ixN ds.length k).bind fun j => some (Out.ok () (e1.set i (some (.ow (ds.set j x)))))
      | _, _ => none) _ = _
  unfold cHas
  cases q : at? e i with
  | none => rfl
  | some b =>
    dsimp only
    rw [bndS_bnd]
    refine congrArg _ (funext fun a => funext fun e1 => ?_)
    unfold cPutI
    split
    · rw [bndS_ob]
      rfl
    · rfl
theorem j_put (k : J Γ (cX fv fun o => cFz o fun d => cHas i (cX fx fun o => cPutI i o d rest)) m po) : J Γ (sSeq (sPut i fx fv) rest) m po := k.eq (funext fun e => by
  show thn (bndS (fv e) fun o e1 => (fz e1 o).bind fun p => bndS (putAt i fx p.1 p.2) fun _ e2 => some (.nx e2)) rest = _
  rw [thn_bndS]
  refine congrArg _ (funext fun a => funext fun e1 => ?_)
  rw [thn_ob]
  refine congrArg _ (funext fun p => ?_)
  rw [thn_bndS]
  exact congrFun putAt_eq p.2)
theorem j_put2 (k : J Γ (cX fd fun ds => match ds with
  | [a, b] => cHas i (cX fx fun o => cPutI i o a (cHas j (cX fy fun o => cPutI j o b rest)))
  | _ => fun _ => none) m po) : J Γ (sSeq (sPut2 i fx j fy fd) rest) m po := k.eq (funext fun e => by
  show thn (bndS (fd e) fun ds e1 => match ds with
    | [a, b] => bndS (putAt i fx a e1) fun _ e2 => bndS (putAt j fy b e2) fun _ e3 => some (.nx e3)
    | _ => none) rest = _
  rw [thn_bndS]
  refine congrArg _ (funext fun ds => funext fun e1 => ?_)
  match ds with
  | [a, b] =>
    dsimp only
    rw [thn_bndS, ← putAt_eq]
    refine congrArg _ (funext fun _ => funext fun e2 => ?_)
    rw [thn_bndS, ← putAt_eq]
    rfl
  | [] => rfl
  | [_] => rfl
  | _ :: _ :: _ :: _ => rfl)
/-- xs with v at k -/
def setI {τ : Type} (xs : List τ) (k : Int) (v : τ) : Option (List τ) := (ixN xs.length k).map fun j => xs.set j v
theorem j_putI {k : Int} {ds : List PyData} {r : Option β} {y : β → PyData} {mk : β → R α} (h : Γ[i]? = some (some (.o (.list ds)))) (ho : Rd Γ o (.int k)) (hr : ∀ a, r = some a → (ixN ds.length k).map (fun j => PyData.list (ds.set j x)) = some (y a)) (kk : ∀ a, J (Γ.set i (some (.o (y a)))) C (mk a) po) : J Γ (cPutI i o x C) (ob r mk) po := j_ob fun a ha => (kk a).to fun e he => by
  have h1 := hr a ha
  cases q : ixN ds.length k with
  | none => rw [q] at h1; cases h1
  | some j =>
    rw [q] at h1
    have h2 : PyData.list (ds.set j x) = y a := Option.some.inj h1
    refine ⟨e.set i (some (.ow (ds.set j x))), he.set (s := .o (y a)) (by rw [← h2]; rfl), ?_⟩
    unfold cPutI
    rw [ho e he, he.own h]
    show (ixN ds.length k).bind _ = _
    rw [q]
    rfl
def cAug (i : Nat) (op : PyData → PyData → Option B) (x : PyData) (o : O) (C : KC) : KC := fun e => match res e o with
  | some d => match op x d with
    | some (.fr z) => C (e.set i (some (.fr z)))
    | _ => none
  | none => none
theorem j_aug (h : Γ[i]? = some (some (.d x))) (hs : solid x = true) (k : J Γ (cX f fun o => cAug i op x o rest) m po) : J Γ (sSeq (sAug i op f) rest) m po := k.to fun e he => ⟨e, he, by
  have h1 : (at? e i).bind B.dat = some x := he.hold i _ h
  have h2 : at? e i = some (.fr x) := by
    cases q : at? e i with
    | none => rw [q] at h1; cases h1
    | some b => rw [q] at h1; rw [solid_fr h1 hs]
  show thn ((match at? e i with
    | some (.fr d0) => bndS (f e) fun o e1 => match res e1 o with
      | some d => match op d0 d with
        | some (.fr z) => some (SO.nx (e1.set i (some (.fr z))))
        | _ => none
      | none => none
    | _ => none)) rest = _
  rw [h2]
  dsimp only
  rw [thn_bndS]
  refine congrArg _ (funext fun a => funext fun e1 => ?_)
  unfold cAug
  cases res e1 a with
  | none => rfl
  | some d =>
    dsimp only
    cases op x d with
    | none => rfl
    | some z => cases z <;> rfl⟩
theorem j_augop {z : PyData} (h1 : Rd Γ o y) (h3 : op x y = some (.fr z)) (k : J (Γ.set i (some (.d z))) C m po) : J Γ (cAug i op x o C) m po := k.to fun e he => ⟨_, he.set (s := .d z) (b := some (.fr z)) rfl, by
  unfold cAug
  rw [h1 e he]
  dsimp only
  rw [h3]⟩
theorem j_tgt {g : FG} (k : J Γ (cX f fun o => cFz o fun d => cTgt g d rest) m po) : J Γ (sSeq (sTgt g f) rest) m po := k.eq (funext fun e => by
  show thn (bndS (f e) fun o e1 => (fz e1 o).bind fun p => (g p.1 p.2).bind fun e2 => some (SO.nx e2)) rest = _
  rw [thn_bndS]
  refine congrArg _ (funext fun a => funext fun e1 => ?_)
  rw [thn_ob]
  refine congrArg _ (funext fun p => ?_)
  rw [thn_ob]
  show ((g p.1 p.2).bind fun a => thn (some (SO.nx a)) rest) = match g p.1 p.2 with
    | none => none
    | some e1 => rest e1
  cases g p.1 p.2 <;> rfl)
section
variable {K : List PyData → KC}
def cIt (sel : PyData → Option (List PyData)) (o : O) (K : List PyData → KC) : KC := fun e => (fz e o).bind fun p => (sel p.1).elim (none : Option SO) fun ds => K ds p.2
def selL : PyData → Option (List PyData)
  | .list ds => some ds
  | _ => none
theorem j_it {sel : PyData → Option (List PyData)} {ds : List PyData} (h : Fz Γ o x Γ') (hs : sel x = some ds) (k : J Γ' (K ds) m po) : J Γ (cIt sel o K) m po := k.to fun e he => by
  obtain ⟨e', h1, h2⟩ := h e he
  refine ⟨e', h2, ?_⟩
  show (fz e o).bind _ = _
  rw [h1, Option.bind_some, hs]
  rfl
theorem j_iSeq (k : J Γ (cX f fun o => cIt selL o K) m po) : J Γ (cX (iSeq f) K) m po := k.eq (funext fun e => by
  show bndS (bnd (f e) fun o e1 => (fz e1 o).bind fun p => match p.1 with
    | .list ds => some (Out.ok ds p.2)
    | _ => none) K = _
  rw [bndS_bnd]
  refine congrArg _ (funext fun a => funext fun e1 => ?_)
  rw [bndS_ob]
  refine congrArg _ (funext fun p => ?_)
  obtain ⟨d, e2⟩ := p
  cases d <;> rfl)
def selE : PyData → Option (List PyData)
  | .list ds => some (enumL 0 ds)
  | _ => none
theorem j_iEnum (k : J Γ (cX f fun o => cIt selE o K) m po) : J Γ (cX (iEnumr f) K) m po := k.eq (funext fun e => by
  show bndS (bnd (f e) fun o e1 => (fz e1 o).bind fun p => match p.1 with
    | .list ds => some (Out.ok (enumL 0 ds) p.2)
    | _ => none) K = _
  rw [bndS_bnd]
  refine congrArg _ (funext fun a => funext fun e1 => ?_)
  rw [bndS_ob]
  refine congrArg _ (funext fun p => ?_)
  obtain ⟨d, e2⟩ := p
  cases d <;> rfl)
/-- (0, x), (1, y), .. -/
def enumT {τ : Type} : Nat → List τ → List (Int × τ)
  | _, [] => []
  | i, x :: xs => ((i : Int), x) :: enumT (i + 1) xs
theorem enumL_map (D : τ → PyData) : ∀ (xs : List τ) (i : Nat), enumL i (xs.map D) = (enumT i xs).map fun p => .tuple [.int p.1, D p.2]
  | [], _ => rfl
  | x :: xs, i => by
    show PyData.tuple [.int i, D x] :: enumL (i + 1) (xs.map D) = _
    rw [enumL_map D xs (i + 1)]
    rfl
theorem selE_map (D : τ → PyData) (xs : List τ) : selE (.list (xs.map D)) = some ((enumT 0 xs).map fun p => .tuple [.int p.1, D p.2]) := by
  show some (enumL 0 (xs.map D)) = _
  rw [enumL_map]
def cZip (x : PyData) (o : O) (K : List PyData → KC) : KC := fun e => (fz e o).bind fun q => match x, q.1 with
  | .list ds, .list es => K (List.zipWith (fun a b => .tuple [a, b]) ds es) q.2
  | _, _ => none
theorem j_iZip {g : FE} (k : J Γ (cX f fun o => cFz o fun x => cX g fun o2 => cZip x o2 K) m po) : J Γ (cX (iZipp f g) K) m po := k.eq (funext fun e => by
  show bndS (bnd (f e) fun o e1 => (fz e1 o).bind fun p => bnd (g p.2) fun o2 e2 => (fz e2 o2).bind fun q => match p.1, q.1 with
    | .list ds, .list es => some (Out.ok (List.zipWith (fun a b => PyData.tuple [a, b]) ds es) q.2)
    | _, _ => none) K = _
  rw [bndS_bnd]
  refine congrArg _ (funext fun a => funext fun e1 => ?_)
  rw [bndS_ob]
  refine congrArg _ (funext fun p => ?_)
  rw [bndS_bnd]
  refine congrArg _ (funext fun o2 => funext fun e2 => ?_)
  rw [bndS_ob]
  refine congrArg _ (funext fun q => ?_)
  obtain ⟨d, e3⟩ := q
  obtain ⟨d2, e4⟩ := p
  cases d2 <;> try rfl
  cases d <;> rfl)
theorem zip_map (D : τ → PyData) (D2 : υ → PyData) : ∀ (xs : List τ) (ys : List υ), List.zipWith (fun a b => PyData.tuple [a, b]) (xs.map D) (ys.map D2) = (xs.zip ys).map fun p => .tuple [D p.1, D2 p.2]
  | [], _ => by simp
  | x :: xs, [] => by simp
  | x :: xs, y :: ys => by
    show PyData.tuple [D x, D2 y] :: List.zipWith _ (xs.map D) (ys.map D2) = _
    rw [zip_map D D2 xs ys]
    rfl
theorem j_zip2 {D : τ → PyData} {D2 : υ → PyData} {xs : List τ} {ys : List υ} (h : Fz Γ o (.list (ys.map D2)) Γ') (k : J Γ' (K ((xs.zip ys).map fun p => .tuple [D p.1, D2 p.2])) m po) : J Γ (cZip (.list (xs.map D)) o K) m po := k.to fun e he => by
  obtain ⟨e', h1, h2⟩ := h e he
  refine ⟨e', h2, ?_⟩
  show (fz e o).bind _ = _
  rw [h1]
  show K (List.zipWith _ (xs.map D) (ys.map D2)) e' = _
  rw [zip_map]
def cRg1 (o : O) (K : List PyData → KC) : KC := fun e => match res e o with
  | some (.int j) => if lim j = true then K (rngN 0 j.toNat) e else none
  | _ => none
theorem j_iRg1 (k : J Γ (cX f fun o => cRg1 o K) m po) : J Γ (cX (iRange1 f) K) m po := k.eq (funext fun e => by
  show bndS (bnd (f e) fun o e1 => match res e1 o with
    | some (.int j) => if lim j = true then some (Out.ok (rngN 0 j.toNat) e1) else none
    | _ => none) K = _
  rw [bndS_bnd]
  refine congrArg _ (funext fun a => funext fun e1 => ?_)
  unfold cRg1
  split
  · split <;> rfl
  · rfl)
def rg1 (j : Int) : Option (List Int) := if lim j = true then some (rngL 0 j.toNat) else none
theorem j_rg1 {i : Int} {mk : List Int → R α} (h1 : Rd Γ o (.int i)) (k : ∀ xs : List Int, J Γ (K (xs.map Datum.toD)) (mk xs) po) : J Γ (cRg1 o K) (ob (rg1 i) mk) po := j_ob fun a ha => (k a).to fun e he => ⟨e, he, by
  unfold cRg1
  unfold rg1 at ha
  rw [h1 e he]
  dsimp only
  split at ha
  · rename_i q
    cases ha
    rw [if_pos q, rngN_L]
  · cases ha⟩
end
def kOb : O → KC := fun o e => match o with
  | .b (.fr d) => some (.rt (.fr d) e)
  | _ => none
theorem j_kob {a : α} (hr : restr l Γ = Γ') (hp : po a = .rt (.d x) Γ') : J Γ (kOb (.b (.fr x))) (.ok a) po := fun e he => ⟨_, rfl, by
  rw [hp]
  exact ⟨_, _, rfl, rfl, he.of hr⟩⟩
theorem kO_of {q : Option (Out O)} {b : B} {e' : VL.Env} (h : bndS q kO = some (.rt b e')) : ∃ o d, q = some (.ok o e') ∧ res e' o = some d ∧ b = .fr d := by
  cases q with
  | none => cases h
  | some r =>
    cases r with
    | ex c e1 => cases h
    | ok o e1 =>
      have q5 : kO o e1 = some (.rt b e') := h
      unfold kO at q5
      split at q5
      · rename_i d qd
        cases q5
        exact ⟨o, d, rfl, qd, rfl⟩
      · cases q5
theorem kOb_of {q : Option (Out O)} {b : B} {e' : VL.Env} (h : bndS q kOb = some (.rt b e')) : ∃ d, q = some (.ok (.b (.fr d)) e') ∧ b = .fr d := by
  cases q with
  | none => cases h
  | some r =>
    cases r with
    | ex c e1 => cases h
    | ok o e1 =>
      have q5 : kOb o e1 = some (.rt b e') := h
      unfold kOb at q5
      split at q5
      · rename_i d
        cases q5
        exact ⟨d, rfl, rfl⟩
      · cases q5
/-- a value that is told, no more -/
def Tot (Γ : Ctx) (f : FE) (x : PyData) : Prop := J Γ (cX f kO) (.ok ()) fun _ => .rt (.d x) Γ
def TotB (Γ : Ctx) (f : FE) (x : PyData) : Prop := J Γ (cX f kOb) (.ok ()) fun _ => .rt (.d x) Γ
theorem Tot.run (h : Tot Γ f x) {e : VL.Env} (he : Cov Γ e) : ∃ o e', f e = some (.ok o e') ∧ res e' o = some x ∧ Cov Γ e' := by
  obtain ⟨w, h2, b, e', rfl, h4, h5⟩ := h e he
  obtain ⟨o, d, q1, q2, rfl⟩ := kO_of h2
  cases h4
  exact ⟨o, e', q1, q2, h5⟩
theorem TotB.run (h : TotB Γ f x) {e : VL.Env} (he : Cov Γ e) : ∃ e', f e = some (.ok (.b (.fr x)) e') ∧ Cov Γ e' := by
  obtain ⟨w, h2, b, e', rfl, h4, h5⟩ := h e he
  obtain ⟨d, q1, rfl⟩ := kOb_of h2
  cases h4
  exact ⟨e', q1, h5⟩
theorem j_andVP {b1 b2 : Bool} (ha : Tot Γ fa (.bool b1)) (hb : TotB Γ fb (.bool b2)) (k : J Γ (K (.b (.fr (.bool (b1 && b2))))) m po) : J Γ (cX (fAndV fa fb) K) m po := k.to fun e he => by
  obtain ⟨o, e1, h1, h2, h3⟩ := ha.run he
  obtain ⟨e2, h4, h5⟩ := hb.run h3
  cases b1 with
  | true =>
    refine ⟨e2, h5, ?_⟩
    show bndS (bnd (fa e) fun o e1 => match res e1 o with
      | some (.bool true) => fb e1
      | some (.bool false) => okD (.bool false) e1
      | _ => none) K = _
    rw [h1]
    show bndS (match res e1 o with
      | some (.bool true) => fb e1
      | some (.bool false) => okD (.bool false) e1
      | _ => none) K = _
    rw [h2]
    show bndS (fb e1) K = _
    rw [h4]
    rfl
  | false =>
    refine ⟨e1, h3, ?_⟩
    show bndS (bnd (fa e) fun o e1 => match res e1 o with
      | some (.bool true) => fb e1
      | some (.bool false) => okD (.bool false) e1
      | _ => none) K = _
    rw [h1]
    show bndS (match res e1 o with
      | some (.bool true) => fb e1
      | some (.bool false) => okD (.bool false) e1
      | _ => none) K = _
    rw [h2]
    rfl
def cOrV (o : O) (fb : FE) (K : O → KC) : KC := fun e => match res e o with
  | some (.bool true) => K (.b (.fr (.bool true))) e
  | some (.bool false) => bndS (fb e) K
  | _ => none
theorem j_orVC (k : J Γ (cX fa fun o => cOrV o fb K) m po) : J Γ (cX (fOrV fa fb) K) m po := k.eq (funext fun e => by
  show bndS (bnd (fa e) fun o e1 => match res e1 o with
    | some (.bool true) => okD (.bool true) e1
    | some (.bool false) => fb e1
    | _ => none) K = _
  rw [bndS_bnd]
  refine congrArg _ (funext fun a => funext fun e1 => ?_)
  unfold cOrV
  cases res e1 a with
  | none => rfl
  | some d =>
    cases d with
    | bool b => cases b <;> rfl
    | _ => rfl)
theorem j_orV2 {b : Bool} {m1 m2 : R α} (h : Rd Γ o (.bool b)) (h1 : J Γ (cX fb K) m1 po) (h2 : J Γ (K (.b (.fr (.bool true)))) m2 po) : J Γ (cOrV o fb K) (if b = true then m2 else m1) po := by
  cases b with
  | false =>
    rw [if_neg (by decide)]
    exact h1.to fun e he => ⟨e, he, by unfold cOrV; rw [h e he]; rfl⟩
  | true =>
    rw [if_pos rfl]
    exact h2.to fun e he => ⟨e, he, by unfold cOrV; rw [h e he]⟩
theorem j_chain3 {g h : PyData → PyData → Option B} {b1 b2 : Bool} {xv : PyData} (h1 : Rd Γ o1 x) (h2 : Rd Γ o2 y) (hg : g x y = some (.fr (.bool b1))) (hc : Tot Γ fc xv) (hh : h y xv = some (.fr (.bool b2))) (k : J Γ (K (.b (.fr (.bool (b1 && b2))))) m po) : J Γ (cCh g h o1 o2 fc K) m po := j_chain2 h1 h2 hg hc hh k
end TM
set_option maxRecDepth 100000
namespace TM
open PySem L2 VL PySem.W PySem.SeqAt Datum
section
variable {a b : Int}
theorem x_add : oAdd (toD a) (toD b) = some (.fr (toD (a + b))) := rfl
theorem x_sub : oSub (toD a) (toD b) = some (.fr (toD (a - b))) := rfl
theorem x_mul (h : cMul a b = true) : oMul (toD a) (toD b) = some (.fr (toD (a * b))) := by
  show (if cMul a b = true then some (B.fr (.int (a * b))) else none) = _
  rw [if_pos h]
  rfl
theorem cmul_l (h : decide (a.natAbs < 2 ^ 64) = true) : cMul a b = true := by unfold cMul; rw [h]; rfl
theorem cmul_r (h : decide (b.natAbs < 2 ^ 64) = true) : cMul a b = true := by unfold cMul; rw [h, Bool.or_true]
def mulI (a b : Int) : Option Int := if cMul a b = true then some (a * b) else none
theorem x_mulR : OpR oMul (toD a) (toD b) (mulI a b) fun z => .fr (toD z) := fun z hz => by
  unfold mulI at hz
  split at hz
  · rename_i h; cases hz; exact x_mul h
  · cases hz
theorem x_mod (h : decide (0 < b) = true) : oMod (toD a) (toD b) = some (.fr (toD (a % b))) := by
  show (if decide (0 < b) = true then some (B.fr (.int (a % b))) else none) = _
  rw [if_pos h]
  rfl
def modI (a b : Int) : Option Int := if decide (0 < b) = true then some (a % b) else none
theorem x_modR : OpR oMod (toD a) (toD b) (modI a b) fun z => .fr (toD z) := fun z hz => by
  unfold modI at hz
  split at hz
  · rename_i h; cases hz; exact x_mod h
  · cases hz
theorem x_fdiv (h : cFdiv a b = true) : opI cFdiv (fun i j => i / j) (toD a) (toD b) = some (.fr (toD (a / b))) := by
  show (if cFdiv a b = true then some (B.fr (.int (a / b))) else none) = _
  rw [if_pos h]
  rfl
theorem cfdiv_r (h : (decide (0 < b) && decide (b.natAbs < 2 ^ 200)) = true) : cFdiv a b = true := h
theorem x_pow (h : cPow a b = true) : oPow (toD a) (toD b) = some (.fr (toD (a ^ b.toNat))) := by
  show (if cPow a b = true then some (B.fr (.int (a ^ b.toNat))) else none) = _
  rw [if_pos h]
  rfl
theorem x_lt : oLt (toD a) (toD b) = some (.fr (toD (decide (a < b)))) := rfl
theorem x_le : oLe (toD a) (toD b) = some (.fr (toD (decide (a ≤ b)))) := rfl
theorem x_gt : oGt (toD a) (toD b) = some (.fr (toD (decide (b < a)))) := rfl
theorem x_ge : oGe (toD a) (toD b) = some (.fr (toD (decide (b ≤ a)))) := rfl
theorem x_aug_add : (opI0 fun i j => i + j) (toD a) (toD b) = some (.fr (toD (a + b))) := rfl
def max2 (a b : Int) : Int := if b > a then b else a
def min2 (a b : Int) : Int := if b < a then b else a
theorem x_max2 : gMax [toD a, toD b] = some (.fr (toD (max2 a b))) := rfl
theorem x_min2 : gMin [toD a, toD b] = some (.fr (toD (min2 a b))) := rfl
def absI (a : Int) : Int := if a < 0 then -a else a
theorem x_abs : gAbs [toD a] = some (.fr (toD (absI a))) := rfl
def b2i (b : Bool) : Int := if b then 1 else 0
theorem x_intB {b : Bool} : gInt [toD b] = some (.fr (toD (b2i b))) := rfl
end
section
variable {τ : Type} [DecidableEq τ] [Datum τ] {x y : τ} {xs ys : List τ} {i : Int}
/-- alike, where it may be asked -/
def eqG (x y : τ) : Option Bool := if (shaped (toD x) && shaped (toD y)) = true then some (decide (x = y)) else isE (toD x) (toD y)
theorem x_eqG : OpR oEq (toD x) (toD y) (eqG x y) fun b => .fr (toD b) := fun z hz => by
  unfold eqG at hz
  unfold oEq
  split at hz
  · rename_i h
    rw [Bool.and_eq_true] at h
    cases hz
    rw [if_pos ⟨h.1, h.2⟩, Datum.eqv]
    rfl
  · rename_i h
    rw [Bool.and_eq_true] at h
    rw [if_neg h, hz]
    rfl
theorem x_eq [Lay τ] : oEq (toD x) (toD y) = some (.fr (toD (decide (x = y)))) := o_eq x y
theorem x_ne [Lay τ] : oNe (toD x) (toD y) = some (.fr (toD (!decide (x = y)))) := o_ne x y
theorem any_mem : ((xs.map toD).any fun z => PyData.eqv z (toD x)) = decide (x ∈ xs) := by
  induction xs with
  | nil => rfl
  | cons y ys ih =>
    rw [List.map_cons, List.any_cons, ih, Datum.eqv]
    by_cases h : y = x
    · subst h; simp
    · have : ¬ x = y := fun e => h e.symm
      simp [h, this]
theorem notIn_def (d : PyData) (ds : List PyData) : oNotIn d (.list ds) = if SeqAt.shaped d = true ∧ SeqAt.shaped (.list ds) = true then some (.fr (.bool (!ds.any fun z => PyData.eqv z d))) else none := by
  cases d <;> rfl
theorem x_notIn [Lay τ] [Lay (List τ)] : oNotIn (toD x) (toD xs) = some (.fr (toD (!decide (x ∈ xs)))) := by
  show oNotIn (toD x) (.list (xs.map toD)) = _
  have h2 : SeqAt.shaped (.list (xs.map toD)) = true := shaped_toD xs
  rw [notIn_def, if_pos ⟨shaped_toD x, h2⟩, any_mem]
  rfl
theorem atI_map' {β γ : Type} (f : β → γ) (xs : List β) (i : Int) : atI (xs.map f) i = (atI xs i).map f := by
  unfold atI
  rw [List.length_map]
  cases ixN xs.length i with
  | none => rfl
  | some j => rw [Option.bind_some, Option.bind_some, List.getElem?_map]
theorem x_ix : OpR oIx (toD xs) (toD i) (atI xs i) fun z => .fr (toD z) := fun z hz => by
  show (atI (xs.map toD) i).map B.fr = _
  rw [atI_map', hz]
  rfl
def addL (xs ys : List τ) : Option (List τ) := if xs.length + ys.length ≤ big then some (xs ++ ys) else none
def mulL (xs : List τ) (k : Int) : Option (List τ) := if k.natAbs < 2 ^ 63 ∧ xs.length * k.toNat ≤ big then some (List.replicate k.toNat xs).flatten else none
theorem x_mulL : OpR oMul (toD xs) (toD i) (mulL xs i) fun z => bow (toD z) := fun z hz => by
  unfold mulL at hz
  split at hz
  · rename_i h
    cases hz
    show (if i.natAbs < 2 ^ 63 ∧ (xs.map toD).length * i.toNat ≤ big then some (B.ow (List.replicate i.toNat (xs.map toD)).flatten) else none) = _
    rw [List.length_map, if_pos h]
    show _ = some (B.ow (List.map toD (List.replicate i.toNat xs).flatten))
    rw [List.map_flatten, List.map_replicate]
  · cases hz
theorem x_rev : oRev (toD xs) = some (bow (toD xs.reverse)) := by
  show some (B.ow (xs.map toD).reverse) = some (B.ow (xs.reverse.map toD))
  rw [List.map_reverse]
theorem cut_map {α β : Type} (f : α → β) (xs : List α) (lo hi : Option Int) : cutD (xs.map f) lo hi = (cutD xs lo hi).map f := by
  unfold cutD
  rw [List.length_map, ← List.map_drop, ← List.map_take]
theorem x_sl {lo hi : Option Int} : oSl (toD xs) lo hi = some (bow (toD (cutD xs lo hi))) := by
  show some (B.ow (cutD (xs.map toD) lo hi)) = _
  rw [cut_map]
  rfl
theorem x_len : gLen [toD xs] = some (.fr (toD (xs.length : Int))) := by
  show some (B.fr (.int ((xs.map toD).length : Nat))) = _
  rw [List.length_map]
  rfl
theorem x_list : gList [toD xs] = some (bow (toD xs)) := rfl
theorem x_tuple : gTuple [toD xs] = some (.fr (toD (Tup.mk xs))) := rfl
def appL (xs : List τ) (v : τ) : Option (List τ) := if xs.length < big then some (xs ++ [v]) else none
theorem x_app (a : List τ) (h : appL xs x = some a) : mAppend (xs.map toD) [toD x] = some (.fr .none, a.map toD) := by
  unfold appL at h
  split at h
  · rename_i hl
    cases h
    show (if (xs.map toD).length < big then some (B.fr .none, xs.map toD ++ [toD x]) else none) = _
    rw [List.length_map, if_pos hl, List.map_append]
    rfl
  · cases h
theorem x_ext (a : List τ) (h : addL xs ys = some a) : mExtend (xs.map toD) [toD ys] = some (.fr .none, a.map toD) := by
  unfold addL at h
  split at h
  · rename_i hl
    cases h
    show (if (xs.map toD).length + (ys.map toD).length ≤ big then some (B.fr .none, xs.map toD ++ ys.map toD) else none) = _
    rw [List.length_map, List.length_map, if_pos hl, List.map_append]
  · cases h
def popL (xs : List τ) : Option (τ × List τ) := (xs[xs.length - 1]?).map fun x => (x, xs.dropLast)
theorem x_pop (a : τ × List τ) (h : popL xs = some a) : mPop (xs.map toD) [] = some (.fr (toD a.1), a.2.map toD) := by
  unfold popL at h
  show ((xs.map toD)[(xs.map toD).length - 1]?).map (fun d => (B.fr d, (xs.map toD).dropLast)) = _
  rw [List.length_map, List.getElem?_map]
  cases q : xs[xs.length - 1]? with
  | none => rw [q] at h; cases h
  | some z =>
    rw [q] at h
    cases h
    show some (B.fr (toD z), (xs.map toD).dropLast) = some (B.fr (toD z), (xs.dropLast).map toD)
    rw [List.map_dropLast]
def popI (xs : List τ) (i : Int) : Option (τ × List τ) := if lim63 i = true then (seqIndex? i xs.length).bind fun k => (xs[k]?).map fun x => (x, xs.eraseIdx k) else none
theorem map_eraseIdx {α β : Type} (f : α → β) : ∀ (xs : List α) (j : Nat), (xs.map f).eraseIdx j = (xs.eraseIdx j).map f
  | [], _ => rfl
  | x :: xs, 0 => rfl
  | x :: xs, j + 1 => by
    show f x :: (xs.map f).eraseIdx j = f x :: (xs.eraseIdx j).map f
    rw [map_eraseIdx f xs j]
theorem x_popI (a : τ × List τ) (h : popI xs i = some a) : mPop (xs.map toD) [toD i] = some (.fr (toD a.1), a.2.map toD) := by
  unfold popI at h
  show (if lim63 i = true then (seqIndex? i (xs.map toD).length).bind fun k => ((xs.map toD)[k]?).map fun d => (B.fr d, (xs.map toD).eraseIdx k) else none) = _
  split at h
  · rename_i hl
    rw [if_pos hl, List.length_map]
    cases q : seqIndex? i xs.length with
    | none => rw [q] at h; cases h
    | some k =>
      rw [q] at h
      rw [Option.bind_some] at h ⊢
      rw [List.getElem?_map]
      cases q2 : xs[k]? with
      | none => rw [q2] at h; cases h
      | some z =>
        rw [q2] at h
        cases h
        show some (B.fr (toD z), (xs.map toD).eraseIdx k) = _
        rw [map_eraseIdx]
  · cases h
def insL (xs : List τ) (i : Int) (v : τ) : Option (List τ) := if 0 ≤ i ∧ i.natAbs < 2 ^ 62 ∧ xs.length < big then some (xs.take i.toNat ++ [v] ++ xs.drop i.toNat) else none
theorem x_ins (a : List τ) (h : insL xs i x = some a) : mInsert (xs.map toD) [toD i, toD x] = some (.fr .none, a.map toD) := by
  unfold insL at h
  split at h
  · rename_i hl
    cases h
    show (if 0 ≤ i ∧ i.natAbs < 2 ^ 62 ∧ (xs.map toD).length < big then some (B.fr .none, (xs.map toD).take i.toNat ++ [toD x] ++ (xs.map toD).drop i.toNat) else none) = _
    rw [List.length_map, if_pos hl, List.map_append, List.map_append, List.map_take, List.map_drop]
    rfl
  · cases h
theorem place_map : dataPlace (xs.map toD) (toD x) = xs.findIdx? fun y => decide (y = x) := by
  unfold dataPlace
  induction xs with
  | nil => rfl
  | cons y ys ih =>
    rw [List.map_cons, List.findIdx?_cons, List.findIdx?_cons, ih, Datum.eqv]
def remL (xs : List τ) (v : τ) : Option (List τ) := (xs.findIdx? fun y => decide (y = v)).map fun j => xs.eraseIdx j
theorem x_rem [Lay τ] [Lay (List τ)] (a : List τ) (h : remL xs x = some a) : mRemove (xs.map toD) [toD x] = some (.fr .none, a.map toD) := by
  unfold remL at h
  show (if shaped (toD x) = true ∧ shaped (.list (xs.map toD)) = true then (dataPlace (xs.map toD) (toD x)).map fun j => (B.fr .none, (xs.map toD).eraseIdx j) else none) = _
  have h2 : SeqAt.shaped (.list (xs.map toD)) = true := shaped_toD xs
  rw [if_pos ⟨shaped_toD x, h2⟩, place_map]
  cases q : xs.findIdx? fun y => decide (y = x) with
  | none => rw [q] at h; cases h
  | some j =>
    rw [q] at h
    cases h
    show some (B.fr .none, (xs.map toD).eraseIdx j) = _
    rw [map_eraseIdx]
theorem x_set (v : τ) (a : List τ) (h : setI xs i v = some a) : (ixN (xs.map toD).length i).map (fun j => PyData.list ((xs.map toD).set j (toD v))) = some (toD a) := by
  unfold setI at h
  rw [List.length_map]
  cases q : ixN xs.length i with
  | none => rw [q] at h; cases h
  | some j =>
    rw [q] at h
    cases h
    show some (PyData.list ((xs.map toD).set j (toD v))) = some (PyData.list ((xs.set j v).map toD))
    rw [List.map_set]
end
section
variable {xs : List Int} {i v : Int}
theorem asInts_D : asInts (xs.map toD) = some xs := asInts_map xs
def maxL (xs : List Int) : Option Int := match xs with
  | [] => none
  | x :: r => some (r.foldl max x)
def minL (xs : List Int) : Option Int := match xs with
  | [] => none
  | x :: r => some (r.foldl min x)
theorem x_maxL (a : Int) (h : maxL xs = some a) : gMax [toD xs] = some (.fr (toD a)) := by
  cases xs with
  | nil => cases h
  | cons x r =>
    cases h
    show (asInts ((x :: r).map toD)).map (fun ns => B.fr (.int (maxI ns))) = _
    rw [asInts_D]
    rfl
theorem x_minL (a : Int) (h : minL xs = some a) : gMin [toD xs] = some (.fr (toD a)) := by
  cases xs with
  | nil => cases h
  | cons x r =>
    cases h
    show (asInts ((x :: r).map toD)).map (fun ns => B.fr (.int (minI ns))) = _
    rw [asInts_D]
    rfl
theorem x_sorted : gSorted [toD xs] = some (bow (toD (xs.mergeSort leI))) := by
  show (asInts (xs.map toD)).map (fun ns => B.ow ((ns.mergeSort leI).map .int)) = _
  rw [asInts_D]
  rfl
end
end TM
set_option maxRecDepth 100000
namespace TM
open PySem L2 VL PySem.W PySem.SeqAt Datum
variable {Γ Γ' : Ctx} {α β : Type} {m : R α} {po : α → PO} {K : O → KC} {o : O} {fa : FE} {F : Fn}
def cInT (neg : Bool) (ss : List Str) (o : O) (K : O → KC) : KC := fun e => match res e o with
  | some (.str s) => K (.b (.fr (.bool (if neg then !decide (s ∈ ss) else decide (s ∈ ss))))) e
  | _ => none
theorem j_inT {neg : Bool} {ss : List Str} (k : J Γ (cX fa fun o => cInT neg ss o K) m po) : J Γ (cX (fInT neg ss fa) K) m po := k.eq (funext fun e => by
  show bndS (bnd (fa e) fun o e1 => match res e1 o with
    | some (.str s) => okD (.bool (if neg then !decide (s ∈ ss) else decide (s ∈ ss))) e1
    | _ => none) K = _
  rw [bndS_bnd]
  refine congrArg _ (funext fun a => funext fun e1 => ?_)
  unfold cInT
  split <;> rfl)
theorem j_inT2 {neg : Bool} {ss : List Str} {s : Str} (h : Rd Γ o (.str s)) (k : J Γ (K (.b (.fr (.bool (if neg then !decide (s ∈ ss) else decide (s ∈ ss)))))) m po) : J Γ (cInT neg ss o K) m po := k.to fun e he => ⟨e, he, by
  unfold cInT
  rw [h e he]⟩
end TM
set_option maxRecDepth 100000
namespace TM
open PySem L2 VL PySem.W PySem.SeqAt Datum
end TM
set_option maxRecDepth 100000
namespace TM
open PySem L2 VL PySem.W Datum
end TM
set_option maxRecDepth 100000
namespace TM
open PySem L2 VL PySem.W Datum
end TM
set_option maxRecDepth 100000
namespace TM
open PySem L2 VL PySem.W Datum
end TM
namespace TM
open PySem L2 VL PySem.W Datum
def memT {τ : Type} [DecidableEq τ] (x : τ) (xs : List τ) : Bool := decide (x ∈ xs)
variable {τ : Type} [DecidableEq τ] [Datum τ] {x : τ} {xs : List τ}
theorem x_notInM [Lay τ] [Lay (List τ)] : oNotIn (toD x) (toD xs) = some (.fr (toD (!memT x xs))) := x_notIn
theorem memT_iff {x : τ} {xs : List τ} : memT x xs = decide (x ∈ xs) := rfl
end TM
set_option maxRecDepth 100000
namespace TM
open PySem L2 VL PySem.W Datum PyProof.Rows
/-- a not behind b -/
def leL (a b : List Int) : Bool := dle (toD a) (toD b)
theorem isIL_D (a : List Int) : isIL (toD a) = true := by
  show (asInts (a.map toD)).isSome = true
  rw [show asInts (a.map toD) = some a from asInts_map a]
  rfl
theorem x_sortedL {xs : List (List Int)} : gSortedL [toD xs] = some (bow (toD (xs.mergeSort leL))) := by
  show (if (xs.map toD).all isIL = true then some (B.ow ((xs.map toD).mergeSort dle)) else none) = some (B.ow ((xs.mergeSort leL).map toD))
  rw [if_pos (by rw [List.all_map, List.all_eq_true]; exact fun a _ => isIL_D a)]
  congr 2
  exact (PySem.W.sort_maps toD fun a _ b _ => rfl).symm
def ltP : List Int → List Int → Bool
  | [], [] => false
  | [], _ :: _ => true
  | _ :: _, [] => false
  | x :: xs, y :: ys => if x = y then ltP xs ys else decide (x < y)
theorem dataLt_ltP : ∀ a b : List Int, dataLt (toD a) (toD b) = ltP a b := by
  have key : ∀ a b : List Int, PyProof.Rows.lexLt itemOrd (keyToksAll (a.map PyData.int)) (keyToksAll (b.map PyData.int)) = ltP a b := by
    intro a
    induction a with
    | nil => intro b; cases b <;> rfl
    | cons x a ih =>
      intro b
      cases b with
      | nil => rfl
      | cons y b =>
        have hal : alike (.int x) (.int y) = true := rfl
        by_cases e : x = y
        · have := dataLt_all_yes (xs := a.map PyData.int) (ys := b.map PyData.int) hal (by subst e; simp [PyData.eqv])
          rw [List.map_cons, List.map_cons, this, ih]
          show _ = if x = y then ltP a b else decide (x < y)
          rw [if_pos e]
        · have := dataLt_all_no (xs := a.map PyData.int) (ys := b.map PyData.int) hal (by simp [PyData.eqv, e])
          rw [List.map_cons, List.map_cons, this, dataLt_int]
          show _ = if x = y then ltP a b else decide (x < y)
          rw [if_neg e]
  intro a b
  show dataLt (.list (a.map PyData.int)) (.list (b.map PyData.int)) = _
  rw [dataLt_list]
  exact key a b
theorem leL_iff (a b : List Int) : leL a b = !ltP b a := by
  show (!dataLt (toD b) (toD a)) = _
  rw [dataLt_ltP]
theorem ltP_irr : ∀ a : List Int, ltP a a = false
  | [] => rfl
  | x :: a => by
    show (if x = x then ltP a a else decide (x < x)) = false
    rw [if_pos rfl, ltP_irr a]
theorem ltP_total : ∀ a b : List Int, ltP a b = false → ltP b a = false → a = b
  | [], [], _, _ => rfl
  | [], _ :: _, h, _ => by cases h
  | _ :: _, [], _, h => by cases h
  | x :: a, y :: b, h1, h2 => by
    have h1' : (if x = y then ltP a b else decide (x < y)) = false := h1
    have h2' : (if y = x then ltP b a else decide (y < x)) = false := h2
    by_cases e : x = y
    · subst e
      rw [if_pos rfl] at h1' h2'
      rw [ltP_total a b h1' h2']
    · rw [if_neg e] at h1'
      rw [if_neg (fun z => e z.symm)] at h2'
      have := of_decide_eq_false h1'
      have := of_decide_eq_false h2'
      omega
theorem ltP_trans : ∀ a b c : List Int, ltP a b = true → ltP b c = true → ltP a c = true
  | [], _, [], h1, h2 => by
    rename_i b
    cases b with
    | nil => cases h1
    | cons y b => cases h2
  | [], _, _ :: _, _, _ => rfl
  | _ :: _, [], _, h, _ => by cases h
  | _ :: _, _ :: _, [], _, h => by cases h
  | x :: a, y :: b, z :: c, h1, h2 => by
    have h1' : (if x = y then ltP a b else decide (x < y)) = true := h1
    have h2' : (if y = z then ltP b c else decide (y < z)) = true := h2
    show (if x = z then ltP a c else decide (x < z)) = true
    by_cases e1 : x = y
    · subst e1
      rw [if_pos rfl] at h1'
      by_cases e2 : x = z
      · rw [if_pos e2] at h2' ⊢
        exact ltP_trans a b c h1' h2'
      · rw [if_neg e2] at h2' ⊢
        exact h2'
    · rw [if_neg e1] at h1'
      have l1 := of_decide_eq_true h1'
      by_cases e2 : y = z
      · subst e2
        rw [if_neg e1]
        exact h1'
      · rw [if_neg e2] at h2'
        have l2 := of_decide_eq_true h2'
        rw [if_neg (by omega)]
        exact decide_eq_true (by omega)
theorem ltP_asym {a b : List Int} (h : ltP a b = true) : ltP b a = false := by
  cases q : ltP b a with
  | false => rfl
  | true =>
    have := ltP_trans a b a h q
    rw [ltP_irr] at this
    cases this
theorem leL_total (a b : List Int) : (leL a b || leL b a) = true := by
  rw [leL_iff, leL_iff]
  cases q : ltP b a with
  | false => rfl
  | true => rw [ltP_asym q]; rfl
theorem leL_anti {a b : List Int} (h1 : leL a b = true) (h2 : leL b a = true) : a = b := by
  rw [leL_iff] at h1 h2
  exact ltP_total a b (by simpa using h2) (by simpa using h1)
theorem leL_trans (a b c : List Int) (h1 : leL a b = true) (h2 : leL b c = true) : leL a c = true := by
  rw [leL_iff] at h1 h2 ⊢
  have h1 : ltP b a = false := by simpa using h1
  have h2 : ltP c b = false := by simpa using h2
  cases q : ltP c a with
  | false => rfl
  | true =>
    by_cases e : a = b
    · subst e; rw [h2] at q; cases q
    · have : ltP a b = true := by
        cases z : ltP a b with
        | true => rfl
        | false => exact absurd (ltP_total a b z h1) e
      rw [ltP_trans c a b q this] at h2
      cases h2
end TM
set_option maxRecDepth 100000
namespace TM
open PySem L2 VL PySem.W Datum
def lenSetT (xs : List (Tup Int)) : Option Int := if xs.length < 200 then some (((onceL (xs.map (·.items))).length : Nat) : Int) else none
theorem asIT_D : ∀ xs : List (Tup Int), asIT (xs.map toD) = some (xs.map (·.items))
  | [] => rfl
  | x :: xs => by
    show ((asInts (x.items.map toD)).bind fun ns => (asIT (xs.map toD)).map (ns :: ·)) = _
    rw [show asInts (x.items.map toD) = some x.items from asInts_map _, Option.bind_some, asIT_D xs]
    rfl
theorem x_lenSet {xs : List (Tup Int)} (a : Int) (h : lenSetT xs = some a) : oLenSet (toD xs) = some (.fr (toD a)) := by
  unfold lenSetT at h
  split at h
  · rename_i hh
    cases h
    show (match asIT (xs.map toD) with
      | some ks => if ks.length < 200 then some (B.fr (.int (onceL ks).length)) else none
      | none => none) = _
    rw [asIT_D]
    dsimp only
    rw [if_pos (by rw [List.length_map]; exact hh)]
    rfl
  · cases h
end TM
set_option maxRecDepth 100000
namespace TM
open PySem L2 VL PySem.W Datum
end TM
set_option maxRecDepth 100000
namespace TM
open PySem L2 VL PySem.W Datum
variable {Γ Γ' Γ1 : Ctx} {α β σ τ υ : Type} {m : R α} {po : α → PO} {K : O → KC} {C : KC} {o o1 o2 : O} {x y : PyData} {b z : B} {i j : Nat} {f fa fb fc : FE} {rest : FS} {op : PyData → PyData → Option B} {r : FA} {l : List Nat} {n : Nat} {mi : List (Nat × Nat)} {F : Fn}
theorem rd_eq (h : x = y) (r : Rd Γ o x) : Rd Γ o y := h ▸ r
end TM
namespace TM
open PySem L2 VL PySem.W Datum
end TM
namespace TM
open PySem L2 VL PySem.W Datum
end TM
set_option maxRecDepth 100000
namespace TM
open PySem L2 VL PySem.W Datum
instance : Lay (Option Int) := ⟨fun o => by
  cases o with
  | none => show PyData.none.canLay0 = true; rw [PyData.canLay0]
  | some i => show (PyData.int _).canLay0 = true; rw [PyData.canLay0], by decide⟩
section
variable {τ : Type} [DecidableEq τ] [Datum τ] [SomeDatum τ] {o : Option τ}
theorem isNone_toD (a : τ) : isNone (toD a) = false := by
  have h := SomeDatum.left a
  cases q : toD a with
  | none => rw [q] at h; simp [PyData.eqv] at h
  | _ => rfl
theorem x_isNot : oIsNot (toD o) (toD ()) = some (.fr (toD o.isSome)) := by
  show some (B.fr (.bool (!isNone (toD o)))) = _
  cases o with
  | none => rfl
  | some a => show some (B.fr (.bool (!isNone (toD a)))) = _; rw [isNone_toD]; rfl
end
end TM
set_option maxRecDepth 100000
namespace TM
open PySem L2 VL PySem.W Datum
theorem j_re {Γ Γ' : Ctx} {α : Type} {m : R α} {po : α → PO} {C : KC} (h : Γ = Γ') (k : J Γ' C m po) : J Γ C m po := h ▸ k
end TM
set_option maxRecDepth 100000
namespace TM
open PySem L2 VL PySem.W Datum
end TM
set_option maxRecDepth 100000
namespace TM
open PySem L2 VL PySem.W Datum PyProof.Rows
instance : Lay (Int × List (List Int)) := ⟨fun p => by
  show (PyData.tuple [.int p.1, toD p.2]).canLay0 = true
  rw [PyData.canLay0, PyData.canLayAll0, PyData.canLayAll0, PyData.canLayAll0, Lay.lay p.2]
  simp [PyData.canLay0], by decide⟩
instance : Lay (List (Int × List (List Int))) := ⟨lay_lst, by decide⟩
class Alk (α : Type) [DecidableEq α] [Datum α] : Prop where
  alk : ∀ a b : α, alike (Datum.toD a) (Datum.toD b) = true
instance : Alk Int := ⟨fun _ _ => rfl⟩
theorem alikeAll_map {α : Type} [DecidableEq α] [Datum α] [Alk α] : ∀ xs ys : List α, alikeAll (xs.map Datum.toD) (ys.map Datum.toD) = true
  | [], _ => by rw [List.map_nil, alikeAll]
  | _ :: _, [] => by rw [List.map_nil, List.map_cons, alikeAll]
  | x :: xs, y :: ys => by
    rw [List.map_cons, List.map_cons, alikeAll, Alk.alk x y, alikeAll_map xs ys]
    rfl
instance {α : Type} [DecidableEq α] [Datum α] [Alk α] : Alk (List α) := ⟨fun xs ys => by
  show alike (.list _) (.list _) = true
  rw [alike]
  exact alikeAll_map xs ys⟩
instance {α β : Type} [DecidableEq α] [Datum α] [Alk α] [DecidableEq β] [Datum β] [Alk β] : Alk (α × β) := ⟨fun p q => by
  show alike (.tuple [toD p.1, toD p.2]) (.tuple [toD q.1, toD q.2]) = true
  rw [alike, alikeAll, Alk.alk p.1 q.1, alikeAll, Alk.alk p.2 q.2, alikeAll]
  rfl⟩
variable {τ : Type} [DecidableEq τ] [Datum τ] [Alk τ] [Lay τ] [Lay (Int × τ)]
section
variable {α : Type} {Γ : Ctx} {C : KC} {po : α → PO}
/-- what is not None -/
theorem c_asO {σ : Type} [DecidableEq σ] [Datum σ] [SomeDatum σ] {z : Option σ} {mk : σ → R α} (k : ∀ a : σ, toD z = toD a → J Γ C (mk a) po) : J Γ C (ob z mk) po := j_ob fun a ha => k a (by rw [ha]; rfl)
end
end TM
set_option maxRecDepth 100000
namespace TM
open PySem L2 VL PySem.W Datum PyProof.Rows
end TM
set_option maxRecDepth 100000
namespace TM
open PySem L2 VL PySem.W PySem.SeqAt
open PySem.W.Datum (toD)
variable {Γ Γ' Γ1 Γ2 : Ctx} {α β σ τ γ δ υ : Type} {m : R α} {po : α → PO} {K : O → KC} {C : KC} {o o1 o2 o3 : O} {x y : PyData} {b z : B} {i j n : Nat} {f fa fb fc fx fy fv : FE} {rest A : FS} {op : PyData → PyData → Option B} {fd : FD} {fi : FI} {t : FT} {l : List Nat} {a : α} {mi : List (Nat × Nat)} {F : Fn}
/-- a list that owns its things -/
def trL (E : τ → Tr) (xs : List τ) : Tr := .nd .lst (xs.map E)
theorem ba_t {os : List O} {bs : List B} {t : Tr} (h : Γ[i]? = some (some (.t t))) (k : BdA Γ os bs) : BdA Γ (.s i :: os) (.tr t :: bs) := fun e he => by
  have : at? e i = some (.tr t) := he.hold i _ h
  show (at? e i).bind _ = _
  rw [this, Option.bind_some, k e he]
  rfl
end TM
set_option maxRecDepth 100000
namespace TM
open PySem L2 VL PySem.W PySem.SeqAt
open PySem.W.Datum (toD)
inductive LdC : Ctx → Ctx → Prop
  | nil : LdC [] []
  | no {Γ Γ' : Ctx} {s : Option Sl} : LdC Γ Γ' → LdC (s :: Γ) (none :: Γ')
  | d {Γ Γ' : Ctx} {x : PyData} : LdC Γ Γ' → LdC (some (.d x) :: Γ) (some (.d x) :: Γ')
  | o {Γ Γ' : Ctx} {x : PyData} : LdC Γ Γ' → LdC (some (.o x) :: Γ) (some (.d x) :: Γ')
  | sc {Γ Γ' : Ctx} {ns : List Int} : LdC Γ Γ' → LdC (some (.sc ns) :: Γ) (some (.sc ns) :: Γ')
  | xo {Γ Γ' : Ctx} {c : Option Str} : LdC Γ Γ' → LdC (some (.xo c) :: Γ) (some (.xo c) :: Γ')
  | t {Γ Γ' : Ctx} {t : Tr} {x : PyData} (h : t.dat = some x) : LdC Γ Γ' → LdC (some (.t t) :: Γ) (some (.d x) :: Γ')
variable {Γ Γ' Γ1 Γ2 Γl : Ctx} {α β σ τ γ δ υ : Type} {m : R α} {po : α → PO} {K : O → KC} {C : KC} {o o1 o2 o3 : O} {x y : PyData} {b z : B} {i j n q : Nat} {f fa fb fc fx fy fv : FE} {t : FT} {rest A : FS} {fi : FI} {l vs : List Nat} {a : α}
theorem cov_cons {s : Option Sl} {c : Option B} {e : VL.Env} (h : Cov (s :: Γ) (c :: e)) : (∀ s', s = some s' → s'.ok c) ∧ Cov Γ e := by
  refine ⟨fun s' q => ?_, ⟨by simpa using h.len, fun i s' q => ?_⟩⟩
  · subst q
    exact h.hold 0 s' rfl
  · have := h.hold (i + 1) s' (by simpa using q)
    unfold at? at this ⊢
    rw [List.getElem?_cons_succ] at this
    exact this
theorem cov_mk {s : Option Sl} {c : Option B} {e : VL.Env} (h : ∀ s', s = some s' → s'.ok c) (k : Cov Γ e) : Cov (s :: Γ) (c :: e) := by
  refine ⟨by simp [k.len], fun i s' q => ?_⟩
  cases i with
  | zero =>
    have q' : s = some s' := by simpa using q
    exact h s' q'
  | succ i =>
    have := k.hold i s' (by simpa using q)
    unfold at? at this ⊢
    rw [List.getElem?_cons_succ]
    exact this
theorem lent_d {c : Option B} {x : PyData} (h : (Sl.d x).ok c) : (Sl.d x).ok (c.bind lent) := by
  have h' : c.bind B.dat = some x := h
  cases c with
  | none => cases h'
  | some b =>
    have h'' : b.dat = some x := h'
    cases b with
    | fr d => exact h''
    | ow d => exact h''
    | od d => exact h''
    | ex c => cases h''
    | rs k d => cases h''
    | sc ns => cases h''
    | tr t => cases h''
theorem LdC.cov : ∀ {Γ Γ' : Ctx}, LdC Γ Γ' → ∀ {e : VL.Env}, Cov Γ e → Cov Γ' (lendE e)
  | _, _, .nil, e, h => by
    have : e = [] := List.eq_nil_of_length_eq_zero (by rw [h.len]; rfl)
    subst this
    exact ⟨rfl, fun i s q => by simp at q⟩
  | _, _, .no k, [], h => by have := h.len; simp at this
  | _, _, .no k, c :: e, h => cov_mk (fun s' q => nomatch q) (k.cov (cov_cons h).2)
  | _, _, .d k, [], h => by have := h.len; simp at this
  | _, _, .d k, c :: e, h => cov_mk (fun s' q => by
    cases q
    exact lent_d ((cov_cons h).1 _ rfl)) (k.cov (cov_cons h).2)
  | _, _, .o k, [], h => by have := h.len; simp at this
  | _, _, .o (x := x) k, c :: e, h => cov_mk (fun s' q => by
    cases q
    have h1 : c = some (bow x) := (cov_cons h).1 _ rfl
    exact lent_d (by rw [h1]; exact bow_dat x)) (k.cov (cov_cons h).2)
  | _, _, .sc k, [], h => by have := h.len; simp at this
  | _, _, .sc k, c :: e, h => cov_mk (fun s' q => by
    cases q
    have h1 : c = _ := (cov_cons h).1 _ rfl
    rw [h1]
    rfl) (k.cov (cov_cons h).2)
  | _, _, .xo k, [], h => by have := h.len; simp at this
  | _, _, .xo (c := w) k, c :: e, h => cov_mk (fun s' q => by
    cases q
    have h1 : c = some (xB w) := (cov_cons h).1 _ rfl
    rw [h1]
    cases w <;> rfl) (k.cov (cov_cons h).2)
  | _, _, .t hd k, [], h => by have := h.len; simp at this
  | _, _, .t hd k, c :: e, h => cov_mk (fun s' q => by
    cases q
    have h1 : c = _ := (cov_cons h).1 _ rfl
    rw [h1]
    show ((Tr.dat _).map B.fr).bind B.dat = _
    rw [hd]
    rfl) (k.cov (cov_cons h).2)
def kT : O → KC := fun o e => (ownT e o).bind fun p => some (.rt (.tr p.1) p.2)
def cTurn (t : FT) (f : FE) : KC := cX t fun b => match b with
  | true => cX f kT
  | false => kSkip
def poT (E : υ → Tr) (Γs : σ → Ctx) : Option υ × σ → PO
  | (some y, s) => .rt (.t (E y)) (Γs s)
  | (none, s) => .nx (Γs s)
def poTJ (E : υ → Tr) (Γs : Ctx) : Option υ → PO
  | some y => .rt (.t (E y)) Γs
  | none => .nx Γs
theorem kT_of {r : Option (Out O)} {w : SO} (h : bndS r kT = some w) : (∃ o e3 x e4, r = some (.ok o e3) ∧ ownT e3 o = some (x, e4) ∧ w = .rt (.tr x) e4) ∨ ∃ c e', w = .ex c e' := by
  cases r with
  | none => cases h
  | some r =>
    cases r with
    | ex c e => cases h; exact .inr ⟨_, _, rfl⟩
    | ok o e =>
      have h' : ((ownT e o).bind fun p => some (SO.rt (.tr p.1) p.2)) = some w := h
      cases q : ownT e o with
      | none => rw [q] at h'; cases h'
      | some p =>
        rw [q] at h'
        cases h'
        exact .inl ⟨o, e, p.1, p.2, rfl, q, rfl⟩
theorem turn_of {e : VL.Env} {w : SO} (h : cTurn t f e = some w) : (∃ e2, t e = some (.ok false e2) ∧ w = .nx e2) ∨ (∃ e2 o e3 x e4, t e = some (.ok true e2) ∧ f e2 = some (.ok o e3) ∧ ownT e3 o = some (x, e4) ∧ w = .rt (.tr x) e4) ∨ ∃ c e', w = .ex c e' := by
  have h0 : bndS (t e) (fun b => match b with
    | true => cX f kT
    | false => kSkip) = some w := h
  cases q : t e with
  | none => rw [q] at h0; cases h0
  | some r =>
    rw [q] at h0
    cases r with
    | ex c e2 => cases h0; exact .inr (.inr ⟨_, _, rfl⟩)
    | ok b e2 =>
      cases b with
      | false => cases h0; exact .inl ⟨e2, rfl, rfl⟩
      | true =>
        have h1 : bndS (f e2) kT = some w := h0
        rcases kT_of h1 with ⟨o, e3, x, e4, k1, k2, k3⟩ | k
        · exact .inr (.inl ⟨e2, o, e3, x, e4, rfl, k1, k2, k3⟩)
        · exact .inr (.inr k)
theorem lcT_loop {F : List τ → List Tr → VL.Env → Option (Out O)} {it : τ → VL.Env → Option VL.Env} {E : υ → Tr} {Γs : σ → Ctx} {step : σ → τ → R (Option υ × σ)} (hd : ∀ s, deadOk vs (Γs s) = true)
    (h0 : ∀ acc e, F [] acc e = some (.ok (.b (.tr (.nd .lst acc))) e)) (hF : ∀ x xs acc e, F (x :: xs) acc e = (it x e).bind fun e1 => lcTurn t f vs (F xs) acc e1)
    (hb : ∀ s x, J (Γs s) (fun e => (it x e).bind (cTurn t f)) (step s x) (poT E Γs)) : ∀ (xs : List τ) (acc : List υ) (s : σ) (e : VL.Env), Cov (Γs s) e → ∀ r, lcS (fun s x => (step s x).calm) xs acc s = .ok r →
    ∃ e', F xs (acc.map E) e = some (.ok (.b (.tr (.nd .lst (r.1.map E)))) e') ∧ Cov (Γs r.2) e'
  | [], acc, s, e, he, r, hr => by
    cases hr
    exact ⟨e, h0 _ _, he⟩
  | x :: xs, acc, s, e, he, r, hr => by
    unfold lcS at hr
    have h1 := hb s x e he
    rw [hF]
    cases q : step s x with
    | no => rw [q] at hr; cases hr
    | ex c => rw [q] at hr; cases hr
    | ok p =>
      rw [q] at hr h1
      obtain ⟨y, s'⟩ := p
      obtain ⟨w, h2, h3⟩ := h1
      have h2 : (it x e).bind (cTurn t f) = some w := h2
      cases qi : it x e with
      | none => rw [qi] at h2; cases h2
      | some e1 =>
      rw [qi, Option.bind_some] at h2
      rw [Option.bind_some]
      cases y with
      | none =>
        have hr' : lcS (fun s x => (step s x).calm) xs acc s' = .ok r := hr
        obtain ⟨e', rfl, h5⟩ := h3
        rcases turn_of h2 with ⟨e2, k2, k3⟩ | ⟨e2, o, e3, x', e4, k2, k3, k4, k5⟩ | ⟨c, e1, k⟩
        · cases k3
          obtain ⟨e6, k6, k7⟩ := lcT_loop hd h0 hF hb xs acc s' (forget vs e') (h5.forget vs (hd s')) r hr'
          refine ⟨e6, ?_, k7⟩
          unfold lcTurn
          rw [k2]
          exact k6
        · cases k5
        · cases k
      | some y =>
        have hr' : (if acc.length < big then lcS (fun s x => (step s x).calm) xs (acc ++ [y]) s' else .no) = .ok r := hr
        split at hr'
        · rename_i hl
          obtain ⟨b, e', rfl, h5, h6⟩ := h3
          rcases turn_of h2 with ⟨e2, k2, k3⟩ | ⟨e2, o, e3, x', e4, k2, k3, k4, k5⟩ | ⟨c, e1, k⟩
          · cases k3
          · cases k5
            have h5' : some (B.tr x') = some (B.tr (E y)) := h5
            cases h5'
            obtain ⟨e6, k6, k7⟩ := lcT_loop hd h0 hF hb xs (acc ++ [y]) s' (forget vs e') (h6.forget vs (hd s')) r hr'
            refine ⟨e6, ?_, k7⟩
            unfold lcTurn
            rw [k2]
            dsimp only
            rw [k3]
            dsimp only
            rw [k4, Option.bind_some]
            dsimp only
            rw [List.length_map, if_pos hl]
            rw [List.map_append] at k6
            exact k6
          · cases k
        · cases hr'
theorem lcS_noex (step : σ → τ → R (Option υ × σ)) {c : Str} : ∀ (xs : List τ) (acc : List υ) (s : σ), lcS (fun s x => (step s x).calm) xs acc s ≠ .ex c
  | [], acc, s, h => by cases h
  | x :: xs, acc, s, h => by
    unfold lcS at h
    cases q : step s x with
    | no => rw [q] at h; cases h
    | ex c => rw [q] at h; cases h
    | ok p =>
      rw [q] at h
      obtain ⟨y, s'⟩ := p
      cases y with
      | none => exact lcS_noex step xs acc s' h
      | some y =>
        have h' : (if acc.length < big then lcS (fun s x => (step s x).calm) xs (acc ++ [y]) s' else .no) = .ex c := h
        split at h'
        · exact lcS_noex step xs _ _ h'
        · cases h'
theorem j_lcCore {F : List τ → List Tr → VL.Env → Option (Out O)} {it : τ → VL.Env → Option VL.Env} {E : υ → Tr} {Γs : σ → Ctx} {step : σ → τ → R (Option υ × σ)} {mk : List υ × σ → R α} {xs : List τ} {CC : KC} (s0 : σ) (hl : restr l Γ = Γs s0) (hC : ∀ e, Cov Γ e → CC e = bndS (F xs [] (forget vs e)) K) (hd : ∀ s, deadOk vs (Γs s) = true)
    (h0 : ∀ acc e, F [] acc e = some (.ok (.b (.tr (.nd .lst acc))) e)) (hF : ∀ x xs acc e, F (x :: xs) acc e = (it x e).bind fun e1 => lcTurn t f vs (F xs) acc e1)
    (hb : ∀ s x, J (Γs s) (fun e => (it x e).bind (cTurn t f)) (step s x) (poT E Γs)) (k : ∀ r, J (Γs r.2) (K (.b (.tr (trL E r.1)))) (mk r) po) : J Γ CC ((lcS (fun s x => (step s x).calm) xs [] s0).bind mk) po := fun e he => by
  rw [hC e he]
  cases q : lcS (fun s x => (step s x).calm) xs [] s0 with
  | no => trivial
  | ex c => exact absurd q (lcS_noex step _ _ _)
  | ok r =>
    obtain ⟨e', h1, h2⟩ := lcT_loop hd h0 hF hb xs [] s0 (forget vs e) ((he.of hl).forget vs (hd s0)) r q
    have h3 := k r e' h2
    have h1' : F xs [] (forget vs e) = some (.ok (.b (.tr (.nd .lst (r.1.map E)))) e') := h1
    rw [h1']
    exact h3
theorem j_ofS {step : τ → R (Option υ)} {mk : List υ → R α} {xs : List τ} (h : J Γ C ((lcS (fun (_ : Unit) x => ((step x).bind fun r => R.ok (r, ())).calm) xs [] ()).bind fun r => mk r.1) po) : J Γ C ((lcM (fun x => (step x).calm) xs []).bind mk) po := by
  rw [lcM_S, bind_assoc] at h
  exact h
theorem stepU {CC : KC} {E : υ → Tr} {Γs : Ctx} {step : R (Option υ)} (h : J Γ CC step (poTJ E Γs)) : J Γ CC (step.bind fun r => R.ok (r, ())) (poT E fun _ : Unit => Γs) := fun e he => by
  have h1 := h e he
  cases step with
  | no => trivial
  | ex c => exact h1
  | ok r => cases r <;> exact h1
def cLcT (g : FG) (t : FT) (f : FE) (vs : List Nat) (ds : List PyData) (K : O → KC) : KC := fun e => bndS (fLcTL g t f vs ds [] (forget vs e)) K
theorem j_lcT {g : FG} (k : J Γ (cX fi fun ds => cLcT g t f vs ds K) m po) : J Γ (cX (fLcT fi g t f vs) K) m po := k.eq (funext fun e => by
  show bndS (bnd (fi e) fun ds e1 => fLcTL g t f vs ds [] (forget vs e1)) K = _
  rw [bndS_bnd]
  rfl)
theorem tgt_bind {g : FG} {d : PyData} {CC : KC} : cTgt g d CC = fun e => (g d e).bind CC := funext fun e => by
  unfold cTgt
  cases g d e <;> rfl
theorem j_lcTG {g : FG} {D : τ → PyData} {xs : List τ} {E : υ → Tr} {Γs : σ → Ctx} {step : σ → τ → R (Option υ × σ)} {mk : List υ × σ → R α} (s0 : σ) (h0 : restr l Γ = Γs s0) (hd : ∀ s, deadOk vs (Γs s) = true) (hb : ∀ s x, J (Γs s) (cTgt g (D x) (cTurn t f)) (step s x) (poT E Γs))
    (k : ∀ r, J (Γs r.2) (K (.b (.tr (trL E r.1)))) (mk r) po) : J Γ (cLcT g t f vs (xs.map D) K) ((lcS (fun s x => (step s x).calm) xs [] s0).bind mk) po :=
  j_lcCore (t := t) (f := f) (vs := vs) (F := fun xs acc e => fLcTL g t f vs (xs.map D) acc e) (it := fun x e => g (D x) e) s0 h0 (fun e _ => rfl) hd (fun _ _ => rfl) (fun x xs acc e => by
    show fLcTL g t f vs (D x :: xs.map D) acc e = _
    rw [fLcTL]
    cases g (D x) e <;> rfl) (fun s x => by
    have := hb s x
    rw [tgt_bind] at this
    exact this) k
theorem j_lcTm {g : FG} {D : τ → PyData} {xs : List τ} {E : υ → Tr} {Γs : Ctx} {step : τ → R (Option υ)} {mk : List υ → R α} (h0 : restr l Γ = Γs) (hd : deadOk vs Γs = true) (hb : ∀ x, J Γs (cTgt g (D x) (cTurn t f)) (step x) (poTJ E Γs))
    (k : ∀ r, J Γs (K (.b (.tr (trL E r)))) (mk r) po) : J Γ (cLcT g t f vs (xs.map D) K) ((lcM (fun x => (step x).calm) xs []).bind mk) po :=
  j_ofS (j_lcTG (Γs := fun _ : Unit => Γs) (mk := fun r => mk r.1) () h0 (fun _ => hd) (fun _ x => stepU (hb x)) fun r => k r.1)
theorem j_kTb {tr : Tr} {a : α} (hb : trOf b = some tr) (hp : po a = .rt (.t tr) Γ') (h : restr l Γ = Γ') : J Γ (kT (.b b)) (.ok a) po := fun e he => ⟨.rt (.tr tr) e, by
  show ((trOf b).map fun t => (t, e)).bind _ = _
  rw [hb]
  rfl, by
  rw [hp]
  exact ⟨_, _, rfl, rfl, he.of h⟩⟩
end TM
set_option maxRecDepth 100000
namespace TM
open PySem L2 VL PySem.W PySem.SeqAt
open PySem.W.Datum (toD)
variable {Γ Γ' Γ1 Γ2 Γl Γk : Ctx} {α β σ τ γ δ υ : Type} {m : R α} {po : α → PO} {K : O → KC} {C : KC} {F rest : FS} {l ks : List Nat}
/-- with an end within -/
def Fl.outL (g : β → R α) (k : R α) : Fl σ β → R α
  | .nx _ => k
  | .bk _ => .no
  | .rt b => g b
@[simp] theorem outL_nx {g : β → R α} {k : R α} {s : σ} : Fl.outL g k (.nx s : Fl σ β) = k := rfl
@[simp] theorem outL_rt {g : β → R α} {k : R α} {b : β} : Fl.outL g k (.rt b : Fl σ β) = g b := rfl
end TM
set_option maxRecDepth 100000
namespace TM
open PySem L2 VL PySem.W PySem.SeqAt
open PySem.W.Datum (toD)
end TM
set_option maxRecDepth 100000
namespace TM
open PySem L2 VL PySem.W PySem.SeqAt
open PySem.W.Datum (toD)
variable {Γ Γ' Γ1 : Ctx} {α β σ τ υ : Type} {m m1 m2 : R α} {po : α → PO} {K : O → KC} {C : KC} {i : Nat} {b : B} {o1 o2 : O} {x y : PyData} {fc : FE}
instance : Lay (Int × Int) := ⟨fun p => by
  obtain ⟨a, b⟩ := p
  rfl, by decide⟩
end TM
set_option maxRecDepth 100000
namespace TM
open PySem L2 VL PySem.W PySem.SeqAt
open PySem.W.Datum (toD)
end TM
set_option maxRecDepth 100000
namespace TM
open PySem L2 VL PySem.W Datum
end TM
set_option maxRecDepth 100000
namespace TM
open PySem L2 VL PySem.W Datum
end TM
set_option maxRecDepth 100000
namespace TM
open PySem L2 VL PySem.W PySem.SeqAt
open PySem.W.Datum (toD)
variable {Γ Γ' Γ1 : Ctx} {α β σ τ υ : Type} {m : R α} {po : α → PO} {K : O → KC} {C : KC} {o : O} {x y D V : PyData} {b : B} {i j q : Nat} {f fx : FE} {pm : PM} {rest : FS} {l : List Nat} {ks : List Int} {js : List Nat} {k k0 : Int}
theorem j_ttT (k : J Γ (cX f kT) m po) : J Γ (cTurn tTrue f) m po := k.eq rfl
end TM
set_option maxRecDepth 100000
namespace TM
open PySem L2 VL PySem.W Datum
end TM
set_option maxRecDepth 100000
namespace TM
open PySem L2 VL PySem.W PySem.SeqAt
open PySem.W.Datum (toD)
end TM
set_option maxRecDepth 100000
namespace TM
open PySem L2 VL PySem.W PySem.SeqAt
open PySem.W.Datum (toD)
end TM
set_option maxRecDepth 100000
namespace TM
open PySem L2 VL PySem.W Datum
end TM
set_option maxRecDepth 100000
namespace TM
open PySem L2 VL PySem.W PySem.SeqAt
open PySem.W.Datum (toD)
end TM
set_option maxRecDepth 100000
namespace TM
open PySem L2 VL PySem.W PySem.SeqAt
open PySem.W.Datum (toD)
end TM
set_option maxRecDepth 100000
namespace TM
open PySem L2 VL PySem.W PySem.SeqAt Datum
end TM
set_option maxRecDepth 100000
namespace TM
open PySem L2 VL PySem.W PySem.SeqAt Datum
end TM
set_option maxRecDepth 100000
namespace TM
open PySem L2 VL PySem.W PySem.SeqAt Datum
end TM
set_option maxRecDepth 100000
namespace TM
open PySem L2 VL PySem.W PySem.SeqAt Datum
instance : Lay (List (Int × Int)) := ⟨lay_lst, by decide⟩
instance : Lay (Option (List Int)) := ⟨fun o => by
  cases o with
  | none => rfl
  | some l => exact Lay.lay l, by decide⟩
variable {Γ : Ctx} {α τ : Type} {po : α → PO} {K : O → KC} {i : Nat} {m0 : R α}
end TM
set_option maxRecDepth 100000
namespace TM
open PySem L2 VL PySem.W PySem.SeqAt Datum
variable {Γ Γ' : Ctx} {α β : Type} {m : R α} {po : α → PO} {K : O → KC} {KI : List PyData → KC} {fa : FE} {x : PyData} {i : Nat}
variable {κ υ : Type} [DecidableEq κ] [Datum κ] [DecidableEq υ] [Datum υ]
instance : Lay (Int × List Int) := ⟨fun p => by
  show (PyData.tuple [.int p.1, toD p.2]).canLay0 = true
  rw [PyData.canLay0, PyData.canLayAll0, PyData.canLayAll0, PyData.canLayAll0, Lay.lay p.2]
  simp [PyData.canLay0], by decide⟩
instance : Lay (List (Int × List Int)) := ⟨lay_lst, by decide⟩
end TM
set_option maxRecDepth 100000
namespace TM
open PySem L2 VL PySem.W PySem.SeqAt Datum
end TM
set_option maxRecDepth 100000
namespace TM
open PySem L2 VL PySem.W PySem.SeqAt Datum
end TM
set_option maxRecDepth 100000
namespace TM
open PySem L2 VL PySem.W PySem.SeqAt Datum
end TM
set_option maxRecDepth 100000
namespace TM
open PySem L2 VL PySem.W PySem.SeqAt Datum PyProof.Rows
end TM
set_option maxRecDepth 100000
namespace TM
open PySem L2 VL PySem.W PySem.SeqAt Datum
end TM
set_option maxRecDepth 100000
namespace TM
open PySem L2 VL PySem.W PySem.SeqAt Datum PyProof.Rows
instance : Lay (Option (Int × List Int)) := ⟨fun o => by
  cases o with
  | none => rfl
  | some a => exact Lay.lay a, by decide⟩
end TM
set_option maxRecDepth 100000
namespace VL
open PySem L2 PySem.Spec PyProof.Rows
open PySem.SeqAt (shaped)
open PySem.W (minD)
end VL
set_option maxRecDepth 100000
namespace VL
open PySem L2
def TPR : Res where
  rep := fun K G H v d fp => ∃ p x y d1 d2, v = .ref p ∧ d = .tuple [d1, d2] ∧ G p = some (.tup [x, y]) ∧ Rp K G x d1 ∧ DTR.rep K G H y d2 fp
  frame := by
    rintro K G H G' H' v d fp ⟨p, x, y, d1, d2, e0, e1, h1, h2, h3⟩ s k
    exact ⟨p, x, y, d1, d2, e0, e1, s _ _ h1, h2.mono s, DTR.frame h3 s k⟩
  own := by
    rintro K G H v d fp ⟨p, x, y, d1, d2, e0, e1, h1, h2, h3⟩
    exact DTR.own h3
def rhoV : Nat → Res := fun k => if k = 2 then DTR else if k = 3 then FZT else if k = 4 then TPR else R0
end VL
set_option maxRecDepth 100000
namespace TM
open PySem L2 VL PySem.W PySem.SeqAt Datum
end TM
set_option maxRecDepth 100000
namespace VL
open PySem L2 PySem.Spec PyProof.Rows
section
variable {X : Cx} {k : Nat} {f C : Addr} {fd : FuncData} {ps : List Str} {sp : Sp} {E : L2.St → XK} {x m : Str} {p pos apos : Pos} {e o : Expr} {es : List Expr} {t : TA} {ta : TE}
def tMethS (C : Addr) (m : Str) (sp : Sp) (E : L2.St → XK) (ta : TE) (t : TA) : TE := fun σ H Q => ta σ H fun x H1 => ∃ a dx fs, x = .ref a ∧ H1 a = some (.ins C dx fs) ∧ fs.lookup m = none ∧ t σ H1 fun vs H2 => sp (x :: vs) H2 Q (E σ)
theorem pe_methG {pl : Sem Bool} (he : PE X o ta) (c : Cls X.K C) (hm : Meth X.K C m f) (Fg : FnG X.prog X.w X.K X.mg X.base k f fd ps sp) (rm : Room k X.A) (gd : X.A.guards = some []) (sm : SmB X.base) (bn : Binds X.K fd ps []) (px : ∀ σ, PassesAt (L2.CX X.prog X.w) X σ (E σ)) (ha : PA X (e :: es) t)
    (hst : starEach (e :: es) X.env = (false, eval e X.env) :: starEach es X.env) (hpl : (backTo pos (starEach es X.env)).any (·.1) = false)
    (ht : eval (.Call (.Attribute o m apos) (e :: es) [] pos) X.env = (do
      let ov ← eval o X.env
      standAt apos.atName
      let (f, first) ← holding [ov] (getMethod ov m pl)
      callWith pos f first (backTo pos (starEach (e :: es) X.env)) (backToKw pos (keywordEach [] X.env)))) :
    PE X (.Call (.Attribute o m apos) (e :: es) [] pos) (tMethS C m sp E ta t) := by
  refine ⟨fun pins s σ H Q J h => PySem.W.methodCall_KW (pl := pl) (thn (he.run pins s σ H _ J h) fun u s1 ⟨x, H1, J1, rx, a, dx, fs, ex, ea, l, q⟩ => ?_) ht⟩
  subst ex
  obtain rfl : u = Value.ref a := rx
  refine getmeth_ok J1 ea c hm l (PySem.W.callWith_K (first := [.ref a]) (h₀ := X.base) J.ok.mod.kin hm.kp (thn (ha.run pos pins s1 σ H1 _ J1 q) fun us s2 ⟨vs, H2, J2, r, q2⟩ => ⟨J2.kIn, ?_⟩) hst hpl)
  exact Fg.runs (us := .ref a :: us) (vs := .ref a :: vs) rm gd sm bn (px σ) J2 (.cons rfl r) q2
theorem pe_methG0 {pl : Sem Bool} (he : PE X o ta) (c : Cls X.K C) (hm : Meth X.K C m f) (Fg : FnG X.prog X.w X.K X.mg X.base k f fd ps sp) (rm : Room k X.A) (gd : X.A.guards = some []) (sm : SmB X.base) (bn : Binds X.K fd ps []) (px : ∀ σ, PassesAt (L2.CX X.prog X.w) X σ (E σ))
    (ht : eval (.Call (.Attribute o m apos) [] [] pos) X.env = (do
      let ov ← eval o X.env
      standAt apos.atName
      let (f, first) ← holding [ov] (getMethod ov m pl)
      callWith pos f first (backTo pos (starEach [] X.env)) (backToKw pos (keywordEach [] X.env)))) :
    PE X (.Call (.Attribute o m apos) [] [] pos) (tMethS C m sp E ta tNil) := by
  refine ⟨fun pins s σ H Q J h => PySem.W.methodCall_KW (pl := pl) (thn (he.run pins s σ H _ J h) fun u s1 ⟨x, H1, J1, rx, a, dx, fs, ex, ea, l, q⟩ => ?_) ht⟩
  subst ex
  obtain rfl : u = Value.ref a := rx
  exact getmeth_ok J1 ea c hm l (PySem.W.callWith_K0 (first := [.ref a]) J1.kIn hm.kp (Fg.runs (us := [.ref a]) (vs := [.ref a]) rm gd sm bn (px σ) J1 (.cons rfl .nil) q))
def tMakeS (C : Addr) (sp : Sp) (E : L2.St → XK) (t : TA) : TE := fun σ H Q => t σ H fun vs H1 => ∀ x dx, H1 x = none → H1 dx = none → dx ≠ x → sp (.ref x :: vs) (upd (upd H1 dx (.own x)) x (.ins C dx [])) (fun v H2 => v = .non ∧ Q (.ref x) H2) (E σ)
theorem runs_make {pins : List (Addr × Obj)} {σ : L2.St} {H : Hp} {s : Shared} {Q : VK} {us : List Value} {vs : List V} (M : Mk X.K C f) (Fg : FnG X.prog X.w X.K X.mg X.base k f fd ps sp) (rm : Room (k + 1) X.A) (gd : X.A.guards = some []) (sm : SmB X.base) (bn : Binds X.K fd ps []) (px : PassesAt (L2.CX X.prog X.w) X σ (E σ))
    (J : Inv X pins σ H s) (r : Vals vs us) (h : ∀ x dx, H x = none → H dx = none → dx ≠ x → sp (.ref x :: vs) (upd (upd H dx (.own x)) x (.ins C dx [])) (fun v H2 => v = .non ∧ Q (.ref x) H2) (E σ)) :
    wpAny (model X.prog X.w) X.A (call (.ref C) us) (EP X pins σ Q) X.xe s := by
  have hq := h (s.heap.objs.size + 1) s.heap.objs.size (J.hok.fresh (Nat.le_succ _)) (J.hok.fresh (Nat.le_refl _)) (Nat.ne_of_lt (Nat.lt_succ_self _))
  have J2 := Inv.made (C := C) J
  have r2 : Vals (V.ref (s.heap.objs.size + 1) :: vs) (Value.ref (s.heap.objs.size + 1) :: us) := .cons rfl r
  have hl : (Value.ref (s.heap.objs.size + 1) :: us).length = ps.length := r2.length.symm.trans (Fg.cnt _ _ _ _ hq)
  have bb := bn _ (Value.ref (s.heap.objs.size + 1) :: us) J2.kIn (by rw [List.append_nil, hl])
  rw [List.append_nil] at bb
  refine wpAny_call (make_map (f := f) J.kIn M.makes M.init (beq_iff_eq.mp M.fn) (codeAny_mono (Fg.go _ X.stack _ _ ⟨Value.ref (s.heap.objs.size + 1) :: us, []⟩ (Value.ref (s.heap.objs.size + 1) :: us) _ _ (E σ) (rm.make C us []) gd sm (J2.env0.make C us []) bb r2 hq) fun res s2 ce => ?_))
  rcases res with er | fl
  · exact px pins _ _ er s2 J2 ce
  · rcases fl with _ | _ | _ | u
    · exact ce.elim
    · exact ce.elim
    · exact ce.elim
    · obtain ⟨v, H', J3, rv, ev, q3⟩ := J2.after ce
      subst ev
      exact ⟨rv, ⟨V.ref (s.heap.objs.size + 1), H', J3, rfl, q3⟩⟩
theorem pe_makeG (M : Mk X.K C f) (Fg : FnG X.prog X.w X.K X.mg X.base k f fd ps sp) (rm : Room (k + 1) X.A) (gd : X.A.guards = some []) (sm : SmB X.base) (gl : Gl X x) (mm : X.mg x = some (.ref C)) (bn : Binds X.K fd ps []) (px : ∀ σ, PassesAt (L2.CX X.prog X.w) X σ (E σ))
    (pa : PA X (e :: es) t) (db : (x == ("__debug__" : Str)) = false) (he : starEach (e :: es) X.env = (false, eval e X.env) :: starEach es X.env) (hp : (backTo pos (starEach es X.env)).any (·.1) = false) :
    PE X (.Call (.Name x p) (e :: es) [] pos) (tMakeS C sp E t) := by
  refine ⟨fun pins s σ H Q J h => wpAny_Call_Name_kw (ld_glob J gl mm (PySem.W.callWith_K (h₀ := X.base) J.ok.mod.kin M.kp (thn (pa.run pos pins s σ H _ J h) fun us s1 ⟨vs, H1, J1, r, q⟩ => ⟨J1.kIn, ?_⟩) he hp) db)⟩
  exact runs_make M Fg rm gd sm bn (px σ) J1 r q
end
end VL
set_option maxRecDepth 100000
namespace VL
open PySem L2
/-- an instance that stays, by its attributes' data -/
def FZI (o : Option Value) (fs : List Str) : Res where
  rep K G H v d fp := (∃ a dx A xs ds, v = .ref a ∧ o = some (.ref A) ∧ G a = some (.ins A dx (fs.zip xs)) ∧ fs.length = xs.length ∧ d = .tuple ds ∧ RpAll K G xs ds) ∧ ∀ a, ¬ fp a
  frame h e k := by
    obtain ⟨⟨a, dx, A, xs, ds, h1, h2, h3, h4, h5, h6⟩, n⟩ := h
    exact ⟨⟨a, dx, A, xs, ds, h1, h2, e _ _ h3, h4, h5, h6.mono e⟩, n⟩
  own h a z := absurd z (h.2 a)
def fIx (f : Str) : List Str → Option Nat
  | [] => none
  | g :: r => if f = g then some 0 else (fIx f r).map (· + 1)
theorem lookup_zip {α : Type} {f : Str} : ∀ {fs : List Str} {xs : List α}, fs.length = xs.length → (fs.zip xs).lookup f = (fIx f fs).bind fun k => xs[k]?
  | [], [], _ => rfl
  | g :: fs, x :: xs, h => by
    have ih := lookup_zip (f := f) (fs := fs) (xs := xs) (by simpa using h)
    have e1 : fIx f (g :: fs) = if f = g then some 0 else (fIx f fs).map (· + 1) := rfl
    rw [List.zip_cons_cons, List.lookup_cons, ih, e1]
    by_cases e : f = g
    · rw [if_pos e, beq_iff_eq.mpr e]; rfl
    · rw [if_neg e, beq_eq_false_iff_ne.mpr e]
      cases fIx f fs <;> simp
def lentI (c : Str) (fs : List Str) : Option B → Option B
  | some (.tr (.nd (.ins c' fs') ts)) => if c' = c ∧ fs' = fs then (Tr.dats ts).map fun ds => .rs 9 (.tuple ds) else none
  | _ => none
/-- all lent, the instance in the first slot too -/
def lendS (c : Str) (fs : List Str) : Env → Env
  | [] => []
  | b :: e => lentI c fs b :: lendE e
theorem lendS_length {c : Str} {fs : List Str} {e : Env} : (lendS c fs e).length = e.length := by
  cases e with
  | nil => rfl
  | cons b e => simp [lendS, lendE]
section
variable {C : Cc} {W : WX} {π : List (Nat × V)} {e e' : Env} {σ : St} {w w0 w1 : WS} {c : Str} {fs : List Str} {i : Nat}
theorem ins_lent {G H G' : Hp} {t : Tr} {c : Str} {fs : List Str} {b : B} {v : V} {fp : Addr → Prop} (hρ : C.rho 9 = FZI (C.mg c) fs) (h : BOk C G H (.tr t) v fp) (hl : lentI c fs (some (.tr t)) = some b) (g : Same G G') (lg : ∀ a, fp a → G' a = H a) : BOk C G' H b v fun _ => False := by
  unfold lentI at hl
  split at hl
  case h_2 => cases hl
  rename_i c' fs' ts eq
  cases eq
  split at hl
  case isFalse => cases hl
  rename_i hc
  obtain ⟨rfl, rfl⟩ := hc
  cases qd : Tr.dats ts with
  | none => rw [qd] at hl; cases hl
  | some ds =>
    rw [qd] at hl
    cases hl
    obtain ⟨as, g1, g2, g3⟩ := h
    show (C.rho 9).rep _ _ _ _ _ _
    rw [hρ]
    cases g1 with
    | ins n0 n1 n2 n3 n4 n5 n6 =>
    rename_i p dx A xs cs
    have lg' : ∀ a ∈ p :: dx :: cs, G' a = H a := fun a ha => lg a ((g3 a).mpr ha)
    exact ⟨⟨p, dx, A, xs, ds, rfl, n0, (lg' p List.mem_cons_self).trans n2, n3, rfl, n6.rp g (fun a ha => lg' a (List.mem_cons_of_mem _ (List.mem_cons_of_mem _ ha))) qd⟩, fun _ z => z⟩
theorem lendS_mt (hρ : C.rho 9 = FZI (C.mg c) fs) (m : Mt C π e σ w) : Mt C π (lendS c fs e) σ (w.lent (allO e)) := by
  refine ⟨by rw [lendS_length]; exact m.len, lent_sub m, fun j y q => ?_, fun i q a z => z, fun i j a z _ => z.elim, m.pin⟩
  cases e with
  | nil => unfold at? lendS at q; simp at q
  | cons b0 e0 =>
    cases j with
    | zero =>
      have q' : lentI c fs b0 = some y := by unfold at? lendS at q; simpa using q
      cases b0 with
      | none => cases q'
      | some b =>
        obtain ⟨v, h1, h2⟩ := m.bok 0 b (by unfold at?; rfl)
        refine ⟨v, h1, ?_⟩
        cases b with
        | tr t => exact ins_lent hρ h2 q' (lent_G m) fun a ha => lent_at (List.mem_map.mpr ⟨0, List.mem_range.mpr (by simp), rfl⟩) ha
        | _ => cases q'
    | succ j =>
      have q' : at? (lendE (b0 :: e0)) (j + 1) = some y := by unfold at? lendS at q; unfold at? lendE; simpa [lendE] using q
      obtain ⟨x, h1, h2, h3⟩ := at_lend q'
      obtain ⟨v, g1, g2⟩ := m.bok (j + 1) x h1
      exact ⟨v, g1, lent_bok m (List.mem_map.mpr ⟨j + 1, List.mem_range.mpr h3, rfl⟩) g2 h2⟩
/-- rows: lists of whole numbers, not empty -/
def intsB : List PyData → Bool
  | [] => true
  | .int _ :: r => intsB r
  | _ :: _ => false
def isRow : PyData → Bool
  | .list (.int _ :: r) => intsB r
  | _ => false
def seqB : Tr → Bool
  | .fr (.list _) => true
  | .fr (.tuple _) => true
  | _ => false
/-- lists of lists and tuples: none is a row -/
def rowsOk : List Tr → Bool
  | [] => true
  | .fr _ :: r => rowsOk r
  | .nd .lst us :: r => us.all seqB && rowsOk r
  | _ :: _ => false
theorem ints_rp {K : PySem.W.Frag} {G G' : Hp} : ∀ {ds : List PyData} {xs : List V}, intsB ds = true → RpAll K G xs ds → RpAll K G' xs ds
  | [], _, _, .nil => .nil
  | .int i :: r, _, h, .cons h1 h2 => .cons (by cases h1; exact .int i) (ints_rp (by simpa [intsB] using h) h2)
theorem seqB_ref {G H : Hp} {t : Tr} {x : V} {as : List Addr} (hs : seqB t = true) (h : TOk C G H t x as) : (∃ a, x = .ref a) ∧ as = [] := by
  unfold seqB at hs
  split at hs
  · cases h with
    | fr r => cases r; exact ⟨⟨_, rfl⟩, rfl⟩
  · cases h with
    | fr r => cases r; exact ⟨⟨_, rfl⟩, rfl⟩
  · cases hs
theorem seqs_as {G H : Hp} : ∀ {us : List Tr} {xs : List V} {as : List Addr}, us.all seqB = true → TAll C G H us xs as → as = [] ∧ ∀ x r, xs = x :: r → ∃ a, x = .ref a
  | [], _, _, _, .nil => ⟨rfl, fun x r h => by cases h⟩
  | u :: us, _, _, h, .cons h1 h2 => by
    rw [List.all_cons, Bool.and_eq_true] at h
    obtain ⟨g1, g2⟩ := seqB_ref h.1 h1
    obtain ⟨k1, _⟩ := seqs_as h.2 h2
    subst g2
    subst k1
    exact ⟨rfl, fun x r e => by cases e; exact g1⟩
/-- what is owned there is no row -/
theorem rows_no {G H : Hp} : ∀ {ts : List Tr} {xs : List V} {as : List Addr}, rowsOk ts = true → TAll C G H ts xs as → ∀ a ∈ as, ∀ i r, H a ≠ some (.lst (.int i :: r))
  | [], _, _, _, .nil, a, ha, _, _ => by cases ha
  | .fr d :: ts, _, _, h, .cons h1 h2, a, ha, i, r => by
    cases h1 with
    | fr _ =>
      exact rows_no (by simpa [rowsOk] using h) h2 a (by simpa using ha) i r
  | .nd .lst us :: ts, _, _, h, .cons h1 h2, a, ha, i, r => by
    rw [rowsOk, Bool.and_eq_true] at h
    rcases List.mem_append.mp ha with ha | ha
    · cases h1 with
      | lst n1 n2 n3 =>
        obtain ⟨e1, e2⟩ := seqs_as h.1 n3
        subst e1
        rcases List.mem_cons.mp ha with rfl | ha
        · intro z
          rw [n2] at z
          cases z
          obtain ⟨b, hb⟩ := e2 _ _ rfl
          cases hb
        · cases ha
    · exact rows_no h.2 h2 a ha i r
  | .nd .tup us :: ts, _, _, h, _, a, ha, _, _ => by simp [rowsOk] at h
  | .nd (.ins _ _) us :: ts, _, _, h, _, a, ha, _, _ => by simp [rowsOk] at h
/-- the world behind: what was made in the meantime stays -/
noncomputable def WS.backI (w w' : WS) (i : Nat) : WS := by
  classical
  exact { G := fun a => if w.fp i a then none else w'.G a, H := w'.H, fp := w.fp }
theorem backI_G {w w' : WS} {i : Nat} {a : Addr} (h : ¬ w.fp i a) : (w.backI w' i).G a = w'.G a := by
  classical
  show (if w.fp i a then none else w'.G a) = _
  rw [if_neg h]
theorem backI_none {w w' : WS} {i : Nat} {a : Addr} (h : w.fp i a) : (w.backI w' i).G a = none := by
  classical
  show (if w.fp i a then none else w'.G a) = _
  rw [if_pos h]
theorem lent1_G {a : Addr} (h : ¬ w.fp i a) : (w.lent [.s i]).G a = w.G a := by
  classical
  show (if ∃ j, O.s j ∈ [O.s i] ∧ w.fp j a then w.H a else w.G a) = w.G a
  rw [if_neg]
  rintro ⟨j, h1, h2⟩
  have h1 := List.mem_singleton.mp h1
  cases h1
  exact h h2
theorem lend_backI {w' : WS} {C2 : Cc} {π2 : List (Nat × V)} {e2 : Env} {σ2 : St} (m : Mt C π e σ w) (f' : Frm (w.lent [.s i]) w') (m' : Mt C2 π2 e2 σ2 w') : Mt C π e σ (w.backI w' i) ∧ Frm w (w.backI w' i) := by
  have keep : ∀ a o, w.H a = some o → w'.H a = some o ∧ w'.G a = (w.lent [.s i]).G a := fun a o h => ⟨(f'.k a o h fun _ z => z).1, (f'.k a o h fun _ z => z).2.1⟩
  have sG : Same w.G (w.backI w' i).G := fun a o h => by
    have n : ¬ w.fp i a := fun z => by rw [(m.own z).1] at h; cases h
    rw [backI_G n]
    exact f'.g a o ((lent1_G n).trans h)
  refine ⟨⟨m.len, fun a o q => ?_, fun j b q => ?_, m.non, m.dis, m.pin⟩, ⟨sG, fun a o h n => ⟨(keep a o h).1, ?_, n⟩, f'.t⟩⟩
  · by_cases z : w.fp i a
    · rw [backI_none z] at q; cases q
    · rw [backI_G z] at q; exact m'.sub a o q
  · obtain ⟨v, g1, g2⟩ := m.bok j b q
    refine ⟨v, g1, g2.mono sG fun a ha => ?_⟩
    obtain ⟨hn, o, ho⟩ := g2.own a ha
    refine ⟨((keep a o ho).1).trans ho.symm, ?_⟩
    by_cases z : w.fp i a
    · rw [backI_none z]; exact hn.symm
    · rw [backI_G z, (keep a o ho).2, lent1_G z]
  · rw [backI_G (n i), (keep a o h).2, lent1_G (n i)]
theorem row_back {w' : WS} {v : V} {d : PyData} {t : Tr} {c' : Str} {fs' : List Str} {ts : List Tr} (m : Mt C π e σ w) (hi : at? e i = some (.tr (.nd (.ins c' fs') ts))) (hr : rowsOk ts = true) (f' : Frm (w.lent [.s i]) w') {C2 : Cc} {π2 : List (Nat × V)} {e2 : Env} {σ2 : St} (m' : Mt C2 π2 e2 σ2 w') (h : Rp C.K w'.G v d) (hd : isRow d = true) : Rp C.K (w.backI w' i).G v d := by
  unfold isRow at hd
  split at hd
  case h_2 => cases hd
  rename_i k r
  cases h with
  | lst h1 h2 =>
  rename_i a xs
  cases h2 with
  | cons q1 q2 =>
  cases q1
  rename_i ys
  have n : ¬ w.fp i a := fun z => by
    obtain ⟨v0, g1, as, g2, g3, g4⟩ := m.bok i _ hi
    have ha := (g4 a).mp z
    obtain ⟨_, o, ho⟩ := m.own z
    have h3 := (f'.k a o ho fun _ z => z).1
    have h4 := m'.sub a _ h1
    rw [h3] at h4
    cases h4
    cases g2 with
    | ins n0 n1 n2 n3 n4 n5 n6 =>
      rcases List.mem_cons.mp ha with rfl | ha
      · rw [n2] at ho; cases ho
      · rcases List.mem_cons.mp ha with rfl | ha
        · rw [n5] at ho; cases ho
        · exact rows_no hr n6 a ha k ys ho
  exact .lst (by rw [backI_G n]; exact h1) (.cons (.int k) (ints_rp hd q2))
end
def tLendS (c : Str) (fs : List Str) (t : FT) : FT := fun e => match t (lendS c fs e) with
  | some (.ok b _) => some (.ok b e)
  | some (.ex c _) => some (.ex c e)
  | none => none
section
variable {C : Cc} {W : WX} {c : Str} {fs : List Str} {i : Nat}
theorem st_lendS (hρ : C.rho 9 = FZI (C.mg c) fs) {t : TT} {f : FT} (s : ST C W t f) : ST C W t (tLendS c fs f) := fun π e σ w Q m h => by
  have h2 : Post C W π σ (w.lent (allO e)) (f (lendS c fs e)) (fun _ b b' => b = b') Q := by
    unfold tLendS at h
    cases q : f (lendS c fs e) with
    | none => rw [q] at h; exact h.elim
    | some r =>
      rw [q] at h
      cases r with
      | ex c e2 =>
        intro w' A hA m' f'
        obtain ⟨g1, g2⟩ := lend_back m f'
        exact h { G := w.G, H := w'.H, fp := w.fp } A hA g1 g2
      | ok b e2 =>
        intro v w' m' f' k'
        obtain ⟨g1, g2⟩ := lend_back m f'
        exact h v { G := w.G, H := w'.H, fp := w.fp } g1 g2 k'
  exact s π (lendS c fs e) σ (w.lent (allO e)) Q (lendS_mt hρ m) h2
end
section
variable {X : Cx} {ρ : Nat → Res} {W : WX} {a : Expr} {fa : FE} {ta : FT} {c : Str} {fs : List Str}
theorem vt_lendS (hρ : ρ 9 = FZI (X.mg c) fs) (h : VT X ρ W a ta) : VT X ρ W a (tLendS c fs ta) := by
  obtain ⟨t, p, s⟩ := h
  exact ⟨t, p, st_lendS hρ s⟩
/-- an attribute's name is that of no class of it -/
structure Fld (K : PySem.W.Frag) (mg : Str → Option Value) (c f : Str) : Prop where
  ex : ∃ A, mg c = some (.ref A) ∧ Cls K A ∧ NoAttr K A f
def fFld (i k : Nat) : FE := fun e => match at? e i with
  | some (.rs 9 (.tuple ds)) => ds[k]?.bind fun d => okD d e
  | _ => none
theorem ve_fld (i k : Nat) {y f : Str} {py pos : Pos} (hρ : ρ 9 = FZI (X.mg c) fs) (hf : Fld X.K X.mg c f) (hk : fIx f fs = some k)
    (hN : X.N[i]? = some y := by rfl) (hv : Vis X.env.scope y := by first | exact Or.inl rfl | exact Or.inr (Or.inl rfl) | exact Or.inr (Or.inr rfl)) (hd : (y == ("__debug__" : Str)) = false := by decide) (hcd : (y == ("__classdict__" : Str)) = false := by decide)
    (hb : attributeBase (.Name y py) f X.env (eval (.Name y py) X.env) = eval (.Name y py) X.env := by rfl) : VE X ρ W (.Attribute (.Name y py) f pos) (fFld i k) := by
  refine ⟨_, pe_fld (pe_var hN hv hd hcd) hb, fun π e σ w Q m h => ?_⟩
  unfold fFld at h
  split at h
  case h_2 => exact h.elim
  rename_i ds q
  obtain ⟨v, h1, h2⟩ := m.bok i _ q
  have h2 : (ρ 9).rep X.K w.G w.H v (.tuple ds) (w.fp i) := h2
  rw [hρ] at h2
  obtain ⟨⟨a, dx, A, xs, ds', rfl, n0, n1, n2, n3, n4⟩, _⟩ := h2
  cases n3
  cases qk : ds[k]? with
  | none => rw [qk] at h; exact h.elim
  | some d =>
    rw [qk] at h
    obtain ⟨x, g1, g2⟩ := n4.get qk
    obtain ⟨A', k1, k2, k3⟩ := hf.ex
    rw [n0] at k1
    cases k1
    refine ⟨.ref a, h1, a, A, dx, fs.zip xs, x, rfl, m.sub _ _ n1, k2, k3, ?_, ?_⟩
    · rw [lookup_zip n2, hk]; exact g1
    · exact h x w m (.refl w) (.fr g2)
end
end VL
set_option maxRecDepth 100000
namespace VL
open PySem L2
/-- a method that may be called -/
structure CalM (X : Cx) (ρ : Nat → Res) (c m : Str) (n : Nat) (ms : List Nat) (F : Fn) (k : Nat) : Prop where
  ex : ∃ A f fd ps, X.mg c = some (.ref A) ∧ Cls X.K A ∧ Meth X.K A m f ∧ FnG X.prog X.w X.K X.mg X.base k f fd ps (spV (cc X ρ) n ms F) ∧ Binds X.K fd ps []
/-- a class that may be made -/
structure CalC (X : Cx) (ρ : Nat → Res) (c : Str) (n : Nat) (F : Fn) (k : Nat) : Prop where
  ex : ∃ A f fd ps, X.mg c = some (.ref A) ∧ Cls X.K A ∧ Mk X.K A f ∧ FnG X.prog X.w X.K X.mg X.base k f fd ps (spV (cc X ρ) (n + 1) [0] F) ∧ Binds X.K fd ps []
def isI (c m : Str) (fs : List Str) (i : Nat) (e : Env) : Bool := match at? e i with
  | some (.tr (.nd (.ins c' fs') _)) => decide (c' = c) && (fIx m fs').isNone
  | some (.rs 9 _) => (fIx m fs).isNone
  | _ => false
def fMeth (c m : Str) (fs : List Str) (i : Nat) (F : Fn) (n : Nat) (mi : List (Nat × Nat)) (as_ : FA) : FE := fun e => if isI c m fs i e = true then fCall F n mi (aM i as_) e else none
theorem bnd_bnd {α β γ : Type} (r : Option (Out α)) (g : α → Env → Option (Out β)) (k : β → Env → Option (Out γ)) : bnd (bnd r g) k = bnd r fun a e => bnd (g a e) k := by
  cases r with
  | none => rfl
  | some x => cases x <;> rfl
section
variable {X : Cx} {ρ : Nat → Res} {W : WX} {a : Expr} {es : List Expr} {pos p apos : Pos} {as_ : FA} {π : List (Nat × V)} {e e1 : Env} {σ : St} {w w1 : WS} {c m : Str} {fs : List Str} {i : Nat} {k n : Nat} {mi : List (Nat × Nat)} {F : Fn}
theorem isI_at {A : Addr} (hρ : ρ 9 = FZI (X.mg c) fs) (hm : Mt (cc X ρ) π e σ w) (h : isI c m fs i e = true) (hc : X.mg c = some (.ref A)) : ∃ a dx gs, σ[i]? = some (some (.ref a)) ∧ w.H a = some (.ins A dx gs) ∧ gs.lookup m = none ∧ ∃ b, at? e i = some b := by
  unfold isI at h
  split at h
  · rename_i c' fs' ts q
    rw [Bool.and_eq_true] at h
    have h1 := of_decide_eq_true h.1
    subst h1
    obtain ⟨v, g1, as, g2, g3, g4⟩ := hm.bok i _ q
    cases g2 with
    | ins n0 n1 n2 n3 n4 n5 n6 =>
    rename_i p dx A' xs cs
    have n0 : X.mg c' = some (.ref A') := n0
    rw [hc] at n0
    cases n0
    refine ⟨p, dx, _, g1, n2, ?_, _, q⟩
    rw [lookup_zip n3, Option.isNone_iff_eq_none.mp h.2]
    rfl
  · rename_i d q
    obtain ⟨v, g1, g2⟩ := hm.bok i _ q
    have g2 : (ρ 9).rep X.K w.G w.H v d (w.fp i) := g2
    rw [hρ] at g2
    obtain ⟨⟨a, dx, A', xs, ds, rfl, n0, n1, n2, n3, n4⟩, _⟩ := g2
    rw [hc] at n0
    cases n0
    refine ⟨a, dx, _, g1, hm.sub _ _ n1, ?_, _, q⟩
    rw [lookup_zip n2, Option.isNone_iff_eq_none.mp h]
    rfl
  · cases h
theorem call_tail {os : List O} {vs : List V} {Q : VK} {E : XK} (n2 : (mi.map (·.2)).Nodup) (m1 : Mt (cc X ρ) π e1 σ w1) (f1 : Frm w w1) (k1 : Paired (OOk (cc X ρ) σ w w1) os vs) (hE : ∀ A H, W (.ref A) none σ H → E (.ref A) none H)
    (h1 : Post (cc X ρ) W π σ w (if (slotsOk mi 0 os && miOk mi os && os.length == n) = true then (bindO e1 os).bind fun bs => match F bs with
      | none => none
      | some (.ret b e2) => some (.ok (O.b b) (putBack e2 mi e1))
      | some (.ex c e2) => some (.ex c (putBack e2 mi e1)) else none) (OOk (cc X ρ) σ w) Q) : spV (cc X ρ) n (mi.map (·.1)) F vs w1.H Q E := by
  have h2 := h1.from f1
  split at h2
  case isFalse => exact h2.elim
  case isTrue hok =>
    rw [Bool.and_eq_true, Bool.and_eq_true] at hok
    obtain ⟨hok, hlen⟩ := hok
    have hlen := beq_iff_eq.mp hlen
    cases qb : bindO e1 os with
    | none => rw [qb] at h2; exact h2.elim
    | some bs =>
      rw [qb] at h2
      simp only [Option.bind_some] at h2
      refine ⟨?_, bs, w1.lend mi, rfl, lend_mt m1 n2 hok.1 hok.2 qb k1, ?_⟩
      · rw [← paired_length k1]; exact hlen
      · cases qF : F bs with
        | none => rw [qF] at h2; exact h2.elim
        | some r =>
          rw [qF] at h2
          cases r with
          | ret b e2 =>
            intro v w' m' f' k'
            obtain ⟨g1, g2⟩ := back_mt m1 n2 hok.2 k1 f' m' rfl
            refine h2 v (w1.back w' mi) g1 g2 ?_
            obtain ⟨fp, b1, b2⟩ := k'
            refine ⟨fp, b1, fun a ha => ⟨f1.back ?_, fun i z => ?_⟩⟩
            · rcases (b2 a ha).1 with q | ⟨j, i, q1, q2⟩
              · exact .inl q
              · exact .inr ⟨i, q2⟩
            · rcases z with ⟨j, _, z⟩ | ⟨hn, z⟩
              · exact (b2 a ha).2 j z
              · obtain ⟨_, o, ho⟩ := m1.own z
                rcases (b2 a ha).1 with q | ⟨j, i', q1, q2⟩
                · have q' : w1.H a = none := q
                  rw [ho] at q'; cases q'
                · have := m1.dis i i' a z q2
                  subst this
                  exact hn j q1
          | ex c e2 =>
            intro w' A hA m' f'
            obtain ⟨g1, g2⟩ := back_mt m1 n2 hok.2 k1 f' m' rfl
            exact hE A _ (h2 (w1.back w' mi) A hA g1 g2)
theorem meth_in {t : TA} {Q : VK} {E : XK} {b : B} {v : V} (n2 : (mi.map (·.2)).Nodup) (s : SA (cc X ρ) W t as_) (hm : Mt (cc X ρ) π e σ w) (hi : at? e i = some b) (hv : σ[i]? = some (some v)) (hE : ∀ A H, W (.ref A) none σ H → E (.ref A) none H)
    (h : Post (cc X ρ) W π σ w (fCall F n mi (aM i as_) e) (OOk (cc X ρ) σ w) Q) : t σ w.H fun vs H2 => spV (cc X ρ) n (mi.map (·.1)) F (v :: vs) H2 Q E := by
  unfold fCall aM at h
  rw [hi] at h
  dsimp only at h
  rw [bnd_bnd] at h
  refine s π e σ w _ hm (h.bnd fun os e3 vs w3 m3 f3 k3 h3 => ?_)
  exact call_tail n2 m3 f3 (os := .s i :: os) (.cons hv k3) hE h3
theorem ve_meth {pl : Sem Bool} {y : Str} {py : Pos} (V0 : Vx X W) (i : Nat) (hρ : ρ 9 = FZI (X.mg c) fs) (cm : CalM X ρ c m n (mi.map (·.1)) F k) (hr : Room k X.A) (ha : VA X ρ W (a :: es) as_) (n2 : (mi.map (·.2)).Nodup := by decide)
    (hN : X.N[i]? = some y := by rfl) (hv : Vis X.env.scope y := by first | exact Or.inl rfl | exact Or.inr (Or.inl rfl) | exact Or.inr (Or.inr rfl)) (hd : (y == ("__debug__" : Str)) = false := by decide) (hcd : (y == ("__classdict__" : Str)) = false := by decide)
    (hst : starEach (a :: es) X.env = (false, eval a X.env) :: starEach es X.env := by rfl) (hpl : (backTo pos (starEach es X.env)).any (·.1) = false := by rfl)
    (ht : eval (.Call (.Attribute (.Name y py) m apos) (a :: es) [] pos) X.env = (do
      let ov ← eval (.Name y py) X.env
      standAt apos.atName
      let (f, first) ← holding [ov] (getMethod ov m pl)
      callWith pos f first (backTo pos (starEach (a :: es) X.env)) (backToKw pos (keywordEach [] X.env))) := by rfl) :
    VE X ρ W (.Call (.Attribute (.Name y py) m apos) (a :: es) [] pos) (fMeth c m fs i F n mi as_) := by
  obtain ⟨A, f, fd, ps, gc, cls, hm, FO, gb⟩ := cm.ex
  obtain ⟨t, pa, s⟩ := ha
  refine ⟨_, pe_methG (pe_var hN hv hd hcd) cls hm FO hr V0.gd V0.sm gb (fun σ => passAt V0.tk σ) pa hst hpl ht, fun π e σ w Q m h => ?_⟩
  unfold fMeth at h
  split at h
  case isFalse => exact h.elim
  rename_i hok
  obtain ⟨a, dx, gs, hv, hH, hl, b, hb⟩ := isI_at hρ m hok gc
  exact ⟨.ref a, hv, a, dx, gs, rfl, hH, hl, meth_in n2 s m hb hv (fun _ _ z => z) h⟩
theorem ve_meth0 {pl : Sem Bool} {y : Str} {py : Pos} (V0 : Vx X W) (i : Nat) (hρ : ρ 9 = FZI (X.mg c) fs) (cm : CalM X ρ c m n (mi.map (·.1)) F k) (hr : Room k X.A) (n2 : (mi.map (·.2)).Nodup := by decide)
    (hN : X.N[i]? = some y := by rfl) (hv : Vis X.env.scope y := by first | exact Or.inl rfl | exact Or.inr (Or.inl rfl) | exact Or.inr (Or.inr rfl)) (hd : (y == ("__debug__" : Str)) = false := by decide) (hcd : (y == ("__classdict__" : Str)) = false := by decide)
    (ht : eval (.Call (.Attribute (.Name y py) m apos) [] [] pos) X.env = (do
      let ov ← eval (.Name y py) X.env
      standAt apos.atName
      let (f, first) ← holding [ov] (getMethod ov m pl)
      callWith pos f first (backTo pos (starEach [] X.env)) (backToKw pos (keywordEach [] X.env))) := by rfl) :
    VE X ρ W (.Call (.Attribute (.Name y py) m apos) [] [] pos) (fMeth c m fs i F n mi aNil) := by
  obtain ⟨A, f, fd, ps, gc, cls, hm, FO, gb⟩ := cm.ex
  refine ⟨_, pe_methG0 (pe_var hN hv hd hcd) cls hm FO hr V0.gd V0.sm gb (fun σ => passAt V0.tk σ) ht, fun π e σ w Q m h => ?_⟩
  unfold fMeth at h
  split at h
  case isFalse => exact h.elim
  rename_i hok
  obtain ⟨a, dx, gs, hv, hH, hl, b, hb⟩ := isI_at hρ m hok gc
  exact ⟨.ref a, hv, a, dx, gs, rfl, hH, hl, meth_in (t := tNil) (as_ := aNil) n2 (fun π e σ w Q m h => h [] w m (.refl w) .nil) m hb hv (fun _ _ z => z) h⟩
def fMake (c : Str) (F : Fn) (n : Nat) (as_ : FA) : FE := fun e => bnd (as_ e) fun os e1 => if (slotsOk [] 0 os && os.length == n) = true then (bindO e1 os).bind fun bs => match F (.tr (.nd (.ins c []) []) :: bs) with
  | some (.ret (.fr .none) e2) => (at? e2 0).bind fun b => match b with
    | .tr t => some (.ok (.b (.tr t)) e1)
    | _ => none
  | some (.ex x _) => some (.ex x e1)
  | _ => none else none
/-- the world of a constructor -/
def WS.born (w : WS) (A x dx : Addr) : WS := { G := w.G, H := upd (upd w.H dx (.own x)) x (.ins A dx []), fp := fun j a => j = 0 ∧ (a = x ∨ a = dx) }
theorem slots_nil {C : Cc} {w0 : WS} : ∀ {os : List O} {vs : List V} {bs : List B} {j : Nat}, Mt C π e σ w → slotsOk [] j os = true → bindO e os = some bs → Paired (OOk C σ w0 w) os vs →
    bs.length = vs.length ∧ ∀ (q : Nat) (b : B), bs[q]? = some b → ∃ v, vs[q]? = some v ∧ BOk C w.G w.H b v fun _ => False
  | [], _, bs, _, _, _, hb, .nil => by
    cases hb
    exact ⟨rfl, fun q b h => by simp at h⟩
  | .s i :: os, _, _, j, _, hs, _, _ => by simp [slotsOk] at hs
  | .b x :: os, v :: vs, bs, j, m, hs, hb, .cons r rs => by
    unfold bindO at hb
    unfold slotsOk at hs
    rw [Bool.and_eq_true] at hs
    cases q : bindO e os with
    | none => rw [q] at hb; cases hb
    | some cs =>
      rw [q] at hb
      cases hb
      obtain ⟨h1, h2⟩ := slots_nil (j := j + 1) m hs.2 q rs
      refine ⟨by simp [h1], fun k b hk => ?_⟩
      cases k with
      | zero =>
        simp at hk
        subst hk
        obtain ⟨fp, b1, b2⟩ := r
        refine ⟨v, rfl, b1.noFp ?_⟩
        cases x with
        | fr d => exact b1.2
        | ex d => exact b1.2
        | sc d => exact b1.2
        | ow d => exact absurd hs.1 (by simp)
        | od d => exact absurd hs.1 (by simp)
        | rs n d => exact absurd hs.1 (by simp)
        | tr t => exact absurd hs.1 (by simp)
      | succ k => simpa using h2 k b (by simpa using hk)
theorem born_mt {C : Cc} {A x dx : Addr} {bs : List B} {vs : List V} (m : Mt C π e σ w) (hc : C.mg c = some (.ref A)) (hx : w.H x = none) (hd : w.H dx = none) (ne : dx ≠ x) (hl : bs.length = vs.length)
    (hb : ∀ (q : Nat) (b : B), bs[q]? = some b → ∃ v, vs[q]? = some v ∧ BOk C w.G w.H b v fun _ => False) : Mt C [] ((B.tr (.nd (.ins c []) []) :: bs).map some) ((V.ref x :: vs).map some) (w.born A x dx) := by
  have keep : ∀ a o, w.H a = some o → (w.born A x dx).H a = some o := fun a o h => by
    show upd (upd w.H dx (.own x)) x (.ins A dx []) a = some o
    rw [upd_ne (fun z => by rw [z, hx] at h; cases h), upd_ne (fun z => by rw [z, hd] at h; cases h)]
    exact h
  have gx : w.G x = none := m.sub.free hx
  have gd : w.G dx = none := m.sub.free hd
  refine ⟨by simp [hl], fun a o q => keep a o (m.sub a o q), fun j b q => ?_, fun j q a z => ?_, fun j k a p q => p.1.trans q.1.symm, fun p h => by cases h⟩
  · rw [at_map] at q
    cases j with
    | zero =>
      simp at q
      subst q
      refine ⟨.ref x, rfl, [x, dx], .ins hc gx ?_ rfl gd ?_ .nil, ?_, fun a => ?_⟩
      · exact upd_same
      · show upd (upd w.H dx (.own x)) x (.ins A dx []) dx = _
        rw [upd_ne ne, upd_same]
      · simp [Ne.symm ne]
      · show (0 = 0 ∧ (a = x ∨ a = dx)) ↔ _
        simp
    | succ j =>
      obtain ⟨v, h1, h2⟩ := hb j b (by simpa using q)
      refine ⟨v, by simpa using h1, ?_⟩
      have e1 : (w.born A x dx).fp (j + 1) = fun _ => False := by
        funext a
        exact propext ⟨fun z => absurd z.1 (by omega), fun z => z.elim⟩
      rw [e1]
      exact h2.mono (Same.refl _) fun a z => z.elim
  · obtain ⟨rfl, _⟩ := z
    rw [at_map] at q
    simp at q
theorem ve_make (V0 : Vx X W) (ck : CalC X ρ c n F k) (hr : Room (k + 1) X.A) (ha : VA X ρ W (a :: es) as_) (hg : Gl X c := by rfl) (hdb : (c == ("__debug__" : Str)) = false := by decide)
    (he : starEach (a :: es) X.env = (false, eval a X.env) :: starEach es X.env := by rfl) (hp : (backTo pos (starEach es X.env)).any (·.1) = false := by rfl) :
    VE X ρ W (.Call (.Name c p) (a :: es) [] pos) (fMake c F n as_) := by
  obtain ⟨A, f, fd, ps, gc, cls, mk, FO, gb⟩ := ck.ex
  obtain ⟨t, pa, s⟩ := ha
  refine ⟨_, pe_makeG mk FO hr V0.gd V0.sm hg gc gb (fun σ => passAt V0.tk σ) pa hdb he hp, fun π e σ w Q m h => ?_⟩
  unfold fMake at h
  refine s π e σ w _ m (h.bnd fun os e1 vs w1 m1 f1 k1 h1 => ?_)
  intro x dx hx hd ne
  have h2 := h1.from f1
  split at h2
  case isFalse => exact h2.elim
  rename_i hok
  rw [Bool.and_eq_true] at hok
  obtain ⟨hs, hlen⟩ := hok
  have hlen := beq_iff_eq.mp hlen
  cases qb : bindO e1 os with
  | none => rw [qb] at h2; exact h2.elim
  | some bs =>
  rw [qb, Option.bind_some] at h2
  obtain ⟨hl, hbs⟩ := slots_nil m1 hs qb k1
  have mb := born_mt (A := A) (x := x) (dx := dx) m1 gc hx hd ne hl hbs
  refine ⟨?_, _, w1.born A x dx, rfl, mb, ?_⟩
  · rw [List.length_cons, ← paired_length k1, hlen]
  have kp : ∀ a o, w1.H a = some o → (w1.born A x dx).H a = some o ∧ ∀ j, ¬ (w1.born A x dx).fp j a := fun a o h => by
    have n1 : a ≠ x := fun z => by rw [z, hx] at h; cases h
    have n2 : a ≠ dx := fun z => by rw [z, hd] at h; cases h
    refine ⟨?_, fun j z => ?_⟩
    · show upd (upd w1.H dx (.own x)) x (.ins A dx []) a = some o
      rw [upd_ne n1, upd_ne n2]
      exact h
    · rcases z.2 with z | z
      · exact n1 z
      · exact n2 z
  -- the world behind the constructor
  have after : ∀ w', Frm (w1.born A x dx) w' → Same w'.G w'.H → Mt (cc X ρ) π e1 σ { G := w'.G, H := w'.H, fp := w1.fp } ∧ Frm w1 { G := w'.G, H := w'.H, fp := w1.fp } := fun w' f' sb => by
    have key : ∀ a o, w1.H a = some o → w'.H a = some o ∧ w'.G a = w1.G a ∧ ∀ j, ¬ w'.fp j a := fun a o h => f'.k a o (kp a o h).1 (kp a o h).2
    refine ⟨⟨m1.len, sb, fun j b q => ?_, m1.non, m1.dis, m1.pin⟩, ⟨f'.g, fun a o h nn => ⟨(key a o h).1, (key a o h).2.1, nn⟩, fun a z => ?_⟩⟩
    · obtain ⟨v, g1, g2⟩ := m1.bok j b q
      refine ⟨v, g1, g2.mono f'.g fun a ha => ?_⟩
      obtain ⟨_, o, ho⟩ := g2.own a ha
      exact ⟨(key a o ho).1.trans ho.symm, (key a o ho).2.1⟩
    · cases qh : w1.H a with
      | none => rfl
      | some o => have := (key a o qh).1; rw [z] at this; cases this
  cases qF : F (.tr (.nd (.ins c []) []) :: bs) with
  | none => rw [qF] at h2; exact h2.elim
  | some r =>
    rw [qF] at h2
    cases r with
    | ex y e2 =>
      intro w' A' hA m' f'
      obtain ⟨g1, g2⟩ := after w' f' m'.sub
      exact h2 { G := w'.G, H := w'.H, fp := w1.fp } A' hA g1 g2
    | ret b e2 =>
      intro v w' m' f' k'
      obtain ⟨g1, g2⟩ := after w' f' m'.sub
      cases b with
      | fr d =>
        cases d with
        | none =>
          dsimp only at h2
          cases q0 : at? e2 0 with
          | none => rw [q0] at h2; exact h2.elim
          | some bb =>
            rw [q0, Option.bind_some] at h2
            cases bb with
            | tr tt =>
              dsimp only at h2
              obtain ⟨fp, ⟨b1, _⟩, _⟩ := k'
              cases b1
              refine ⟨rfl, h2 (.ref x) { G := w'.G, H := w'.H, fp := w1.fp } g1 g2 ?_⟩
              have hm0 : at? (mask [0] e2 (V.ref x :: vs).length) 0 = some (.tr tt) := by
                unfold mask at?
                rw [List.getElem?_map, List.getElem?_range (by simp)]
                simp only [Option.map_some]
                rw [if_pos (by simp)]
                exact q0
              obtain ⟨v0, z1, z2⟩ := m'.bok 0 _ hm0
              have z1 : (some (some (V.ref x)) : Option (Option V)) = some (some v0) := by simpa using z1
              cases z1
              refine ⟨w'.fp 0, z2, fun a ha => ?_⟩
              have hn : w1.H a = none := by
                cases qh : w1.H a with
                | none => rfl
                | some o => exact absurd ha ((f'.k a o (kp a o qh).1 (kp a o qh).2).2.2 0)
              exact ⟨.inl (f1.t a hn), fun j z => by obtain ⟨_, o, ho⟩ := m1.own z; rw [hn] at ho; cases ho⟩
            | _ => exact h2.elim
        | _ => exact h2.elim
      | _ => exact h2.elim
end
end VL
set_option maxRecDepth 100000
namespace VL
open PySem L2
theorem zip_inj {α β : Type} : ∀ {fs : List α} {xs ys : List β}, fs.length = xs.length → fs.length = ys.length → fs.zip xs = fs.zip ys → xs = ys
  | [], [], [], _, _, _ => rfl
  | f :: fs, x :: xs, y :: ys, h1, h2, h => by
    rw [List.zip_cons_cons, List.zip_cons_cons] at h
    obtain ⟨e1, e2⟩ := List.cons.inj h
    rw [(Prod.mk.inj e1).2, zip_inj (by simpa using h1) (by simpa using h2) e2]
section
variable {C : Cc} {G H : Hp}
mutual
theorem TOk.det : ∀ {t : Tr} {v : V} {as bs : List Addr}, TOk C G H t v as → TOk C G H t v bs → as = bs
  | _, _, _, _, .fr _, .fr _ => rfl
  | _, _, _, _, .lst (xs := xs) h1 h2 h3, .lst (xs := ys) k1 k2 k3 => by
    have e : xs = ys := by rw [h2] at k2; cases k2; rfl
    subst e
    rw [TAll.det h3 k3]
  | _, _, _, _, .tup (xs := xs) h1 h2 h3, .tup (xs := ys) k1 k2 k3 => by
    have e : xs = ys := by rw [h2] at k2; cases k2; rfl
    subst e
    rw [TAll.det h3 k3]
  | _, _, _, _, .ins (dx := dx) (xs := xs) h0 h1 h2 h3 h4 h5 h6, .ins (dx := dy) (xs := ys) k0 k1 k2 k3 k4 k5 k6 => by
    have e : dx = dy ∧ xs = ys := by
      rw [h2] at k2
      injection k2 with k2
      injection k2 with e1 e2 e3
      exact ⟨e2, zip_inj h3 k3 e3⟩
    obtain ⟨rfl, rfl⟩ := e
    rw [TAll.det h6 k6]
theorem TAll.det : ∀ {ts : List Tr} {xs : List V} {as bs : List Addr}, TAll C G H ts xs as → TAll C G H ts xs bs → as = bs
  | _, _, _, _, .nil, .nil => rfl
  | _, _, _, _, .cons h1 h2, .cons k1 k2 => by rw [TOk.det h1 k1, TAll.det h2 k2]
end
end
section
variable {C : Cc} {π : List (Nat × V)} {e : Env} {σ : St} {w w0 : WS} {i : Nat} {t t' : Tr} {v0 : V} {as bs' : List Addr} {p : Addr} {o : HO}
theorem core_put0 (m : Mt C ((i, v0) :: π) e σ w) (f : Frm w0 w) (tk : TOk C w.G w.H t v0 as) (hid : Hid w as) (so : ∀ a ∈ as, w0.H a = none ∨ ∃ k, w0.fp k a) (hp : p ∈ as) (tk' : TOk C w.G (upd w.H p o) t' v0 bs') (nd' : bs'.Nodup)
    (mem : ∀ a ∈ bs', a ∈ as ∨ ((w0.H a = none ∨ ∃ j, w0.fp j a) ∧ (∀ j, ¬ w.fp j a) ∧ a ∉ as)) : ∃ w', Mt C π (e.set i (some (.tr t'))) σ w' ∧ Frm w0 w' ∧ w'.H = upd w.H p o ∧ w'.G = w.G := by
  have hv := m.pin (i, v0) List.mem_cons_self
  obtain ⟨m1, f1⟩ := m.unpin.give (w0 := w0) f hv (b := .tr t) (fun fp hfp => ⟨as, tk, hid.nd, hfp⟩) hid so
  have hlt : i < e.length := by rw [m.len]; exact (List.getElem?_eq_some_iff.mp hv).1
  obtain ⟨op, hop⟩ := hid.h p hp
  have inas : ∀ a, a ∈ as → (if i = i then a ∈ as else w.fp i a) := fun a z => by rw [if_pos rfl]; exact z
  obtain ⟨m2, f2⟩ := m1.trmut (w0 := w0) (t' := t') (as := bs') (H' := upd w.H p o) f1 (at_set_lt hlt) hv tk' nd' (fun a => by
      by_cases z : a = p
      · exact .inr (.inl (by
          show (if i = i then a ∈ as else w.fp i a)
          rw [if_pos rfl, z]
          exact hp))
      · exact .inl (upd_ne z)) (fun a ha => by
      rcases mem a ha with z | ⟨z1, z2, z3⟩
      · exact .inl (inas a z)
      · refine .inr ⟨z1, fun j z => ?_⟩
        have z : (if j = i then a ∈ as else w.fp j a) := z
        by_cases hj : j = i
        · rw [if_pos hj] at z; exact z3 z
        · rw [if_neg hj] at z; exact z2 j z) (fun a ha => by
      by_cases z : a = p
      · rw [z, upd_same] at ha; cases ha
      · rwa [upd_ne z] at ha) (fun a o' ho hn => upd_ne fun z => by
      rcases so p hp with r | ⟨k, r⟩
      · rw [z, r] at ho; cases ho
      · exact hn k (z ▸ r))
  exact ⟨_, by rw [List.set_set] at m2; exact m2, f2, rfl, rfl⟩
end
/-- a method of the list that the instance in slot i has at f -/
def fFMth (c f : Str) (i : Nat) (g : List PyData → List PyData → Option (B × List PyData)) (fd : FD) : FE := fun e => match at? e i with
  | some (.tr (.nd (.ins c' fs) ts)) => if c' = c then (fIx f fs).bind fun k => (ts[k]?).bind fun t => match t with
    | .nd .lst us => (frsT us).bind fun ds => bnd (fd (e.set i none)) fun as e1 => (g ds as).bind fun p => some (.ok (.b p.1) (e1.set i (some (.tr (.nd (.ins c' fs) (ts.set k (.nd .lst (p.2.map .fr))))))))
    | _ => none
    else none
  | _ => none
section
variable {X : Cx} {ρ : Nat → Res} {W : WX} {pn : List Nat} {a : Expr} {es : List Expr} {fa : FE} {fd : FD} {c f : Str}
theorem se_fmth {C : Cc} {r : V → List V → Hp → VK → Prop} {g : List PyData → List PyData → Option (B × List PyData)} {i : Nat} {t : TA} (hf : Fld C.K C.mg c f) (hr : ∀ (G H : Hp) (p : Addr) (xs vs : List V) (ds as : List PyData) (b : B) (ds' : List PyData) (Q : VK), H p = some (.lst xs) → Same G H → G p = none → RpAll C.K G xs ds → RpAll C.K G vs as → g ds as = some (b, ds') →
    (∀ v d xs', b = .fr d → Rp C.K G v d → RpAll C.K G xs' ds' → Q v (upd H p (.lst xs'))) → r (.ref p) vs H Q) (s : SD C W t fd) : SE C W (tBM C.K "list" r (tFld C.K (tVar i) f) t) (fFMth c f i g fd) := fun π e σ w Q m h => by
  unfold fFMth at h
  split at h
  case h_2 => exact h.elim
  rename_i c' fs ts q0
  split at h
  case isFalse => exact h.elim
  rename_i ec
  subst ec
  cases qk : fIx f fs with
  | none => rw [qk] at h; exact h.elim
  | some k =>
  rw [qk, Option.bind_some] at h
  cases qt : ts[k]? with
  | none => rw [qt] at h; exact h.elim
  | some t1 =>
  rw [qt, Option.bind_some] at h
  split at h
  case h_2 => exact h.elim
  rename_i us
  cases qu : frsT us with
  | none => rw [qu] at h; exact h.elim
  | some ds =>
  rw [qu, Option.bind_some] at h
  obtain ⟨v0, w1, as, hv, m1, f1, eH, eG, tk, hid, has, hl⟩ := m.take q0 rfl
  have so : ∀ a ∈ as, w.H a = none ∨ ∃ k, w.fp k a := fun a ha => .inr ⟨i, (has a).mp ha⟩
  have tk0 := tk
  cases tk with
  | ins n0 n1 n2 n3 n4 n5 n6 =>
  rename_i p dx A xs cs
  obtain ⟨x, a1, bs, a2, g1, g2, g3, g4⟩ := TAll.sub1 n6 qt
  cases g3 with
  | lst l1 l2 l3 =>
  rename_i q ys cs2
  obtain ⟨l4, l5⟩ := frs_all qu l3
  subst l5
  obtain ⟨A', e1, e2, e3⟩ := hf.ex
  rw [n0] at e1
  cases e1
  rw [← eH]
  refine ⟨.ref p, hv, p, A, dx, fs.zip xs, .ref q, rfl, n2, e2, e3, by rw [lookup_zip n3, qk]; exact g1, .inl ⟨rfl, ys, .of l2⟩, ?_⟩
  refine s _ _ σ w1 _ (m1.pin1 hv) (h.bndP f1 fun as' e1 vs w2 m2 f2 k2 h2 => ?_)
  obtain ⟨hid2, ag2⟩ := hid.step f2
  have tk2 : TOk C w2.G w2.H _ (.ref p) _ := tk0.mono f2.g ag2
  have qin : q ∈ p :: dx :: cs := by rw [g2]; simp
  cases qg : g ds as' with
  | none => rw [qg] at h2; exact h2.elim
  | some pr =>
  rw [qg, Option.bind_some] at h2
  obtain ⟨b, ds'⟩ := pr
  refine hr w2.G w2.H q ys vs ds as' b ds' Q ((ag2 q qin).1.trans l2) m2.sub ((ag2 q qin).2.trans l1) (l4.mono f2.g) k2 qg fun v d xs' eb rv rx => ?_
  subst eb
  have nd := hid2.nd
  have pq : p ≠ q := fun z => by
    have := (List.nodup_cons.mp nd).1
    exact this (List.mem_cons_of_mem _ (by rw [g2, z]; simp))
  have dq : dx ≠ q := fun z => by
    have := (List.nodup_cons.mp (List.nodup_cons.mp nd).2).1
    exact this (by rw [g2, z]; simp)
  have ndc : (a1 ++ [q] ++ a2).Nodup := g2 ▸ (List.nodup_cons.mp (List.nodup_cons.mp nd).2).2
  have oq : ∀ a ∈ a1 ++ a2, a ≠ q := fun a ha z => by
    subst z
    obtain ⟨d1, d2, d3⟩ := List.nodup_append.mp ndc
    obtain ⟨d4, d5, d6⟩ := List.nodup_append.mp d1
    rcases List.mem_append.mp ha with ha | ha
    · exact d6 a ha a (by simp) rfl
    · exact d3 a (by simp) a ha rfl
  -- the children at w2
  have n6' : TAll C w2.G w2.H ts xs cs := n6.mono f2.g fun a ha => ag2 a (List.mem_cons_of_mem _ (List.mem_cons_of_mem _ ha))
  obtain ⟨x', b1, bs', b2, r1, r2, r3, r4⟩ := TAll.sub1 n6' qt
  rw [g1] at r1
  cases r1
  have l1' : TOk C w2.G w2.H (.nd .lst us) (.ref q) [q] := .lst ((ag2 q qin).2.trans l1) ((ag2 q qin).1.trans l2) (l3.mono f2.g fun a ha => nomatch ha)
  have eb := r3.det l1'
  subst eb
  have oq' : ∀ a ∈ b1 ++ b2, a ≠ q := fun a ha z => by
    subst z
    rw [r2] at g2
    have ndc' : (b1 ++ [a] ++ b2).Nodup := g2 ▸ ndc
    obtain ⟨d1, d2, d3⟩ := List.nodup_append.mp ndc'
    obtain ⟨d4, d5, d6⟩ := List.nodup_append.mp d1
    rcases List.mem_append.mp ha with ha | ha
    · exact d6 a ha a (by simp) rfl
    · exact d3 a (by simp) a ha rfl
  have new := r4 (.nd .lst (ds'.map .fr)) [q] (upd w2.H q (.lst xs')) (.lst ((ag2 q qin).2.trans l1) upd_same (tall_fr rx)) fun a ha => upd_ne (oq' a ha)
  have pin2 := tk2
  have hp2 : w2.H p = some (.ins A dx (fs.zip xs)) := (ag2 p List.mem_cons_self).1.trans n2
  have hd2 : w2.H dx = some (.own p) := (ag2 dx (List.mem_cons_of_mem _ List.mem_cons_self)).1.trans n5
  have tk3 : TOk C w2.G (upd w2.H q (.lst xs')) (.nd (.ins c' fs) (ts.set k (.nd .lst (ds'.map .fr)))) (.ref p) (p :: dx :: (b1 ++ [q] ++ b2)) :=
    .ins n0 ((ag2 p List.mem_cons_self).2.trans n1) (by rw [upd_ne pq]; exact hp2) n3 ((ag2 dx (List.mem_cons_of_mem _ List.mem_cons_self)).2.trans n4) (by rw [upd_ne dq]; exact hd2) new
  obtain ⟨w5, m5, f5, eH5, eG5⟩ := core_put0 (w0 := w) (p := q) (o := .lst xs') m2 (f1.trans f2) tk2 hid2 so qin tk3 (by rw [← r2]; exact nd) fun a ha => .inl (by rw [← r2] at ha; exact ha)
  rw [← eH5]
  exact h2 v w5 m5 f5 (.fr (by rw [eG5]; exact rv))
theorem ve_fmth {name : Str} {id : String} {y : Str} {g : List PyData → List PyData → Option (B × List PyData)} {py ap2 apos cpos : Pos} (hm : MthV X id g) (i : Nat) (hf : Fld X.K X.mg c f) (slot : Slot "list" name id) (hty : typeOf (.builtin id) = pure (.type "method_descriptor")) (ha : VD X ρ W (a :: es) fd)
    (hN : X.N[i]? = some y := by rfl) (hv : Vis X.env.scope y := by first | exact Or.inl rfl | exact Or.inr (Or.inl rfl) | exact Or.inr (Or.inr rfl)) (hd : (y == ("__debug__" : Str)) = false := by decide) (hcd : (y == ("__classdict__" : Str)) = false := by decide)
    (hb : attributeBase (.Name y py) f X.env (eval (.Name y py) X.env) = eval (.Name y py) X.env := by rfl)
    (hbase : attributeBase (.Attribute (.Name y py) f ap2) name X.env (eval (.Attribute (.Name y py) f ap2) X.env) = eval (.Attribute (.Name y py) f ap2) X.env := by rfl)
    (hfew : ((backTo cpos (starEach (a :: es) X.env)).all (fun x => !x.1) && (backToKw cpos (keywordEach [] X.env)).all (fun x => x.1.isSome)
      && decide ((a :: es).length + ([] : List Keyword).length + (if ([] : List Keyword).isEmpty then 0 else 1) < 30)) = true := by rfl)
    (hline : (apos.endLine == cpos.line) = true := by rfl) (hs : starEach (a :: es) X.env = (false, eval a X.env) :: starEach es X.env := by rfl) (hplain : (backTo cpos (starEach es X.env)).any (·.1) = false := by rfl) :
    VE X ρ W (.Call (.Attribute (.Attribute (.Name y py) f ap2) name apos) (a :: es) [] cpos) (fFMth c f i g fd) := by
  obtain ⟨r, h1, h2⟩ := hm
  obtain ⟨t, pa, s⟩ := ha
  exact ⟨_, pe_bm PySem.F.plainAttrs_list slot hty h1 (pe_fld (pe_var hN hv hd hcd) hb) pa hbase hfew hline hs hplain, se_fmth hf h2 s⟩
theorem ve_fmth0 {name : Str} {id : String} {y : Str} {g : List PyData → List PyData → Option (B × List PyData)} {py ap2 apos cpos : Pos} (hm : MthV X id g) (i : Nat) (hf : Fld X.K X.mg c f) (slot : Slot "list" name id) (hty : typeOf (.builtin id) = pure (.type "method_descriptor"))
    (hN : X.N[i]? = some y := by rfl) (hv : Vis X.env.scope y := by first | exact Or.inl rfl | exact Or.inr (Or.inl rfl) | exact Or.inr (Or.inr rfl)) (hd : (y == ("__debug__" : Str)) = false := by decide) (hcd : (y == ("__classdict__" : Str)) = false := by decide)
    (hb : attributeBase (.Name y py) f X.env (eval (.Name y py) X.env) = eval (.Name y py) X.env := by rfl)
    (hbase : attributeBase (.Attribute (.Name y py) f ap2) name X.env (eval (.Attribute (.Name y py) f ap2) X.env) = eval (.Attribute (.Name y py) f ap2) X.env := by rfl) (hline : (apos.endLine == cpos.line) = true := by rfl) :
    VE X ρ W (.Call (.Attribute (.Attribute (.Name y py) f ap2) name apos) [] [] cpos) (fFMth c f i g dNil) := by
  obtain ⟨r, h1, h2⟩ := hm
  refine ⟨_, pe_bm0 PySem.F.plainAttrs_list slot hty h1 (pe_fld (pe_var hN hv hd hcd) hb) hbase hline, fun π e σ w Q m h => ?_⟩
  exact se_fmth (t := tNil) (fd := dNil) hf h2 (fun π e σ w Q m h => h [] w m (.refl w) .nil) π e σ w Q m h
/-- x.f = e, f new, x in slot i -/
def sFldSet (c f : Str) (i : Nat) (fe : FE) : FS := fun e => bndS (fe e) fun o e1 => (ownT e1 o).bind fun p => match at? p.2 i with
  | some (.tr (.nd (.ins c' fs) ts)) => if c' = c ∧ fIx f fs = none ∧ fs.length < 1000 then some (.nx (p.2.set i (some (.tr (.nd (.ins c' (fs ++ [f])) (ts ++ [p.1])))))) else none
  | _ => none
theorem putF_new {y : V} : ∀ {fs : List Str} {xs : List V}, fs.length = xs.length → fIx f fs = none → putF f y (fs.zip xs) = (fs ++ [f]).zip (xs ++ [y])
  | [], [], _, _ => rfl
  | g :: fs, x :: xs, h, hn => by
    have e1 : fIx f (g :: fs) = if f = g then some 0 else (fIx f fs).map (· + 1) := rfl
    rw [e1] at hn
    split at hn
    · cases hn
    · rename_i ne
      have hn' : fIx f fs = none := by
        cases q : fIx f fs with
        | none => rfl
        | some k => rw [q] at hn; cases hn
      rw [List.zip_cons_cons, putF, if_neg (Ne.symm ne), List.cons_append, List.cons_append, List.zip_cons_cons, putF_new (by simpa using h) hn']
theorem ss_fldset {C : Cc} {i : Nat} {t : TE} (hf : Fld C.K C.mg c f) (s : SE C W t fa) : SS C W pn (sFld C.K (tVar i) t f) (sFldSet c f i fa) := fun π e σ w D hp m h => by
  refine s π e σ w _ m (h.bnd fun o1 e1 v1 w1 m1 f1 k1 h1 => ?_)
  cases q : ownT e1 o1 with
  | none => rw [q] at h1; exact h1.elim
  | some pr =>
  rw [q, Option.bind_some] at h1
  obtain ⟨w2, m2, f2, eH, eG, fp, ⟨a3, b1, b3, b4⟩, b2⟩ := ownT_sound (e' := pr.2) m1 f1 k1 q
  split at h1
  case h_2 => exact h1.elim
  rename_i c' fs ts q0
  split at h1
  case isFalse => exact h1.elim
  rename_i hc
  obtain ⟨rfl, hc2, hc3⟩ := hc
  obtain ⟨v0, w3, as, hv, m3, f3, eH3, eG3, tk, hid, has, hl⟩ := m2.take q0 rfl
  have tk0 := tk
  cases tk with
  | ins n0 n1 n2 n3 n4 n5 n6 =>
  rename_i p dx A xs cs
  obtain ⟨A', e1, e2, e3⟩ := hf.ex
  rw [n0] at e1
  cases e1
  rw [← eH, ← eH3]
  refine ⟨.ref p, hv, p, A, dx, fs.zip xs, rfl, n2, e2, e3, by rw [List.length_zip]; omega, ?_⟩
  rw [putF_new n3 hc2]
  have fr : Frm w w3 := f2.trans f3
  have so : ∀ a ∈ p :: dx :: cs, w.H a = none ∨ ∃ k, w.fp k a := fun a ha => f2.back (.inr ⟨i, (has a).mp ha⟩)
  have nota : ∀ a ∈ a3, a ∉ p :: dx :: cs := fun a ha z => (b2 a ((b4 a).mpr ha)).2 i ((has a).mp z)
  have nd := hid.nd
  have pcs : ∀ a ∈ cs ++ a3, a ≠ p := fun a ha z => by
    subst z
    rcases List.mem_append.mp ha with ha | ha
    · exact (List.nodup_cons.mp nd).1 (List.mem_cons_of_mem _ ha)
    · exact nota a ha List.mem_cons_self
  have pdx : dx ≠ p := fun z => (List.nodup_cons.mp nd).1 (by rw [z]; exact List.mem_cons_self)
  have new : TAll C w3.G w3.H (ts ++ [pr.1]) (xs ++ [v1]) (cs ++ a3) := n6.append (TAll.one (by rw [eH3, eG3]; exact b1))
  have tk3 : TOk C w3.G (upd w3.H p (.ins A dx ((fs ++ [f]).zip (xs ++ [v1])))) (.nd (.ins c' (fs ++ [f])) (ts ++ [pr.1])) (.ref p) (p :: dx :: (cs ++ a3)) :=
    .ins n0 n1 upd_same (by simp [n3]) n4 (by rw [upd_ne pdx]; exact n5) (new.mono (Same.refl _) fun a ha => ⟨upd_ne (pcs a ha), rfl⟩)
  obtain ⟨w5, m5, f5, eH5, eG5⟩ := core_put0 (w0 := w) (p := p) (o := .ins A dx ((fs ++ [f]).zip (xs ++ [v1]))) (m3.pin1 hv) fr tk0 hid so List.mem_cons_self tk3 (by
      obtain ⟨d1, d2⟩ := List.nodup_cons.mp nd
      obtain ⟨d3, d4⟩ := List.nodup_cons.mp d2
      refine List.nodup_cons.mpr ⟨fun z => ?_, List.nodup_cons.mpr ⟨fun z => ?_, List.nodup_append.mpr ⟨d4, b3, fun a ha b hb z => nota b hb (by rw [← z]; exact List.mem_cons_of_mem _ (List.mem_cons_of_mem _ ha))⟩⟩⟩
      · rcases List.mem_cons.mp z with z | z
        · exact pdx z.symm
        · exact pcs p z rfl
      · rcases List.mem_append.mp z with z | z
        · exact d3 z
        · exact nota dx z (List.mem_cons_of_mem _ List.mem_cons_self)) fun a ha => by
      rcases List.mem_cons.mp ha with rfl | ha
      · exact .inl List.mem_cons_self
      · rcases List.mem_cons.mp ha with rfl | ha
        · exact .inl (List.mem_cons_of_mem _ List.mem_cons_self)
        · rcases List.mem_append.mp ha with ha | ha
          · exact .inl (List.mem_cons_of_mem _ (List.mem_cons_of_mem _ ha))
          · obtain ⟨z1, z2⟩ := b2 a ((b4 a).mpr ha)
            exact .inr ⟨z1, fun j z => z2 j (hl j a z), nota a ha⟩
  rw [← eH5]
  exact h1 σ w5 (by rw [List.set_set] at m5; exact m5) f5
theorem vs_fldset {y : Str} {py pos' pos : Pos} (i : Nat) (hf : Fld X.K X.mg c f) (he : VE X ρ W a fa) (hN : X.N[i]? = some y := by rfl) (hv : Vis X.env.scope y := by first | exact Or.inl rfl | exact Or.inr (Or.inl rfl) | exact Or.inr (Or.inr rfl)) (hd : (y == ("__debug__" : Str)) = false := by decide) (hcd : (y == ("__classdict__" : Str)) = false := by decide)
    (hs : swapsWith a (some (.Attribute (.Name y py) f pos')) pos.line X.env = pure false := by rfl) : VS X ρ W pn (.Assign [.Attribute (.Name y py) f pos'] a pos) (sFldSet c f i fa) := by
  obtain ⟨t, p, s⟩ := he
  exact ⟨_, ps_fld (pe_var hN hv hd hcd) p hs, ss_fldset hf s⟩
end
end VL
set_option maxRecDepth 100000
namespace VL
open PySem L2 PySem.Spec PyProof.Rows
/-- the receiver's data; whether it is lent for the call -/
def recv (c : Str) (fs : List Str) (i : Nat) (e : Env) : Option (Bool × List PyData) := match at? e i with
  | some (.tr (.nd (.ins c' fs') ts)) => if c' = c ∧ fs' = fs ∧ rowsOk ts = true then (Tr.dats ts).map fun ds => (true, ds) else none
  | some (.rs 9 (.tuple ds)) => some (false, ds)
  | _ => none
/-- what such a method tells, where its receiver was lent -/
def told (lt : Bool) (b : B) : Bool := match b with
  | .fr d => !lt || isFlat d || isRow d
  | .ow ds => !lt || ds.all isRow || intsB ds
  | _ => false
def fMethP (c m : Str) (fs : List Str) (i : Nat) (F : Fn) (n : Nat) (as_ : FA) : FE := fun e => if isI c m fs i e = true then bnd (as_ e) fun os e1 => if (slotsOk [] 0 os && os.length == n) = true then (bindO e1 os).bind fun bs => (recv c fs i e1).bind fun p => match F (.rs 9 (.tuple p.2) :: bs) with
  | some (.ret b _) => if told p.1 b = true then some (.ok (.b b) e1) else none
  | some (.ex x _) => some (.ex x e1)
  | none => none
  else none else none
section
variable {X : Cx} {ρ : Nat → Res} {W : WX} {a : Expr} {es : List Expr} {pos p apos : Pos} {as_ : FA} {π : List (Nat × V)} {e e1 : Env} {σ : L2.St} {w w1 : WS} {c m : Str} {fs : List Str} {i : Nat} {k n : Nat} {F : Fn}
theorem rows_bk {C : Cc} {w w' : WS} {ts : List Tr} {c' : Str} {fs' : List Str} {C2 : Cc} {π2 : List (Nat × V)} {e2 : Env} {σ2 : L2.St} (m : Mt C π e σ w) (hi : at? e i = some (.tr (.nd (.ins c' fs') ts))) (hr : rowsOk ts = true) (f' : Frm (w.lent [.s i]) w') (m' : Mt C2 π2 e2 σ2 w') :
    ∀ {ds : List PyData} {xs : List V}, ds.all isRow = true → RpAll C.K w'.G xs ds → RpAll C.K (w.backI w' i).G xs ds
  | [], _, _, .nil => .nil
  | d :: ds, _, h, .cons h1 h2 => by
    rw [List.all_cons, Bool.and_eq_true] at h
    exact .cons (row_back (t := .fr d) m hi hr f' m' h1 h.1) (rows_bk m hi hr f' m' h.2 h2)
/-- the receiver as it is in the call -/
theorem recv_at {q : Bool × List PyData} (hρ : ρ 9 = FZI (X.mg c) fs) (hm : Mt (cc X ρ) π e σ w) (h : recv c fs i e = some q) : ∃ v b, at? e i = some b ∧ σ[i]? = some (some v) ∧ BOk (cc X ρ) (w.lent [.s i]).G w.H (.rs 9 (.tuple q.2)) v (fun _ => False) ∧
    ((∀ a, ¬ w.fp i a) ∨ q.1 = true ∧ ∃ c' fs' ts, b = .tr (.nd (.ins c' fs') ts) ∧ rowsOk ts = true) := by
  unfold recv at h
  split at h
  · rename_i c' fs' ts qe
    split at h
    case isFalse => cases h
    rename_i hc
    obtain ⟨rfl, rfl, hr⟩ := hc
    cases qd : Tr.dats ts with
    | none => rw [qd] at h; cases h
    | some ds =>
      rw [qd] at h
      cases h
      obtain ⟨v, h1, h2⟩ := hm.bok i _ qe
      refine ⟨v, _, qe, h1, ?_, .inr ⟨rfl, c', fs', ts, rfl, hr⟩⟩
      refine ins_lent (C := cc X ρ) (c := c') (fs := fs') hρ h2 ?_ (lent_G hm) fun a ha => lent_at List.mem_cons_self ha
      show (if c' = c' ∧ fs' = fs' then (Tr.dats ts).map fun ds => B.rs 9 (.tuple ds) else none) = _
      rw [if_pos ⟨rfl, rfl⟩, qd]
      rfl
  · rename_i ds qe
    cases h
    obtain ⟨v, h1, h2⟩ := hm.bok i _ qe
    have h3 : (ρ 9).rep X.K w.G w.H v (.tuple ds) (w.fp i) := h2
    rw [hρ] at h3
    have nf := h3.2
    have e0 : (fun a => w.fp i a) = fun _ => False := by funext a; exact propext ⟨fun z => nf a z, fun z => z.elim⟩
    refine ⟨v, _, qe, h1, ?_, .inl nf⟩
    show (ρ 9).rep X.K (w.lent [.s i]).G w.H v (.tuple ds) _
    rw [hρ]
    obtain ⟨⟨a, dx, A, xs, ds', z1, z2, z3, z4, z5, z6⟩, _⟩ := h3
    exact ⟨⟨a, dx, A, xs, ds', z1, z2, lent_G hm _ _ z3, z4, z5, z6.mono (lent_G hm)⟩, fun _ z => z⟩
  · cases h
theorem methP_in {t : TA} {Q : VK} {E : XK} {v0 : V} (hρ : ρ 9 = FZI (X.mg c) fs) (s : SA (cc X ρ) W t as_) (hm : Mt (cc X ρ) π e σ w) (hv : σ[i]? = some (some v0)) (hE : ∀ A H, W (.ref A) none σ H → E (.ref A) none H)
    (h : Post (cc X ρ) W π σ w (bnd (as_ e) fun os e1 => if (slotsOk [] 0 os && os.length == n) = true then (bindO e1 os).bind fun bs => (recv c fs i e1).bind fun p => match F (.rs 9 (.tuple p.2) :: bs) with
      | some (.ret b _) => if told p.1 b = true then some (.ok (.b b) e1) else none
      | some (.ex x _) => some (.ex x e1)
      | none => none
      else none) (OOk (cc X ρ) σ w) Q) : t σ w.H fun vs H2 => spV (cc X ρ) (n + 1) [] F (v0 :: vs) H2 Q E := by
  refine s π e σ w _ hm (h.bnd fun os e1 vs w1 m1 f1 k1 h1 => ?_)
  have h2 := h1.from f1
  split at h2
  case isFalse => exact h2.elim
  rename_i hok
  rw [Bool.and_eq_true] at hok
  obtain ⟨hs, hlen⟩ := hok
  have hlen := beq_iff_eq.mp hlen
  cases qb : bindO e1 os with
  | none => rw [qb] at h2; exact h2.elim
  | some bs =>
  rw [qb, Option.bind_some] at h2
  cases qr : recv c fs i e1 with
  | none => rw [qr] at h2; exact h2.elim
  | some q =>
  rw [qr, Option.bind_some] at h2
  obtain ⟨hl, hbs⟩ := slots_nil m1 hs qb k1
  obtain ⟨v, bi, hbi, hvi, hrb, hkind⟩ := recv_at hρ m1 qr
  rw [hv] at hvi
  cases hvi
  have mL : Mt (cc X ρ) [] ((B.rs 9 (.tuple q.2) :: bs).map some) ((v0 :: vs).map some) (w1.lent [.s i]) := by
    refine ⟨by simp [hl], lent_sub m1, fun j b qj => ?_, fun j _ a z => z, fun j k a z _ => z.elim, fun p h => by cases h⟩
    rw [at_map] at qj
    cases j with
    | zero =>
      simp at qj
      subst qj
      exact ⟨v0, rfl, hrb⟩
    | succ j =>
      obtain ⟨v, g1, g2⟩ := hbs j b (by simpa using qj)
      exact ⟨v, by simpa using g1, g2.mono (lent_G m1) fun a z => z.elim⟩
  refine ⟨by rw [List.length_cons, ← paired_length k1, hlen], _, w1.lent [.s i], rfl, mL, ?_⟩
  cases qF : F (.rs 9 (.tuple q.2) :: bs) with
  | none => rw [qF] at h2; exact h2.elim
  | some r =>
    rw [qF] at h2
    cases r with
    | ex y e2 =>
      intro w' A' hA m' f'
      obtain ⟨g1, g2⟩ := lend_backI m1 f' m'
      exact hE A' _ (h2 (w1.backI w' i) A' hA g1 g2)
    | ret b e2 =>
      dsimp only at h2
      split at h2
      case isFalse => exact h2.elim
      rename_i ht
      intro v w' m' f' k'
      obtain ⟨g1, g2⟩ := lend_backI m1 f' m'
      refine h2 v (w1.backI w' i) g1 g2 ?_
      obtain ⟨fp, b1, b2⟩ := k'
      have free : ∀ a, fp a → w1.H a = none ∧ ∀ j, ¬ w1.fp j a := fun a ha => by
        have hn : w1.H a = none := by
          rcases (b2 a ha).1 with z | ⟨_, z⟩
          · exact z
          · exact z.elim
        exact ⟨hn, fun j z => by obtain ⟨_, o, ho⟩ := m1.own z; rw [hn] at ho; cases ho⟩
      refine ⟨fp, ?_, fun a ha => ⟨.inl (f1.t a (free a ha).1), (free a ha).2⟩⟩
      rcases hkind with nf | ⟨hq, c', fs', ts, rfl, hr⟩
      · have eG : (w1.backI w' i).G = w'.G := by funext a; exact backI_G (nf a)
        rw [eG]
        exact b1
      · rw [hq] at ht
        cases b with
        | fr d =>
          have ht' : (isFlat d || isRow d) = true := by simpa [told] using ht
          refine ⟨?_, b1.2⟩
          rcases Bool.or_eq_true _ _ ▸ ht' with z | z
          · exact flat_rp b1.1 z
          · exact row_back (t := .fr d) m1 hbi hr f' m' b1.1 z
        | ow ds =>
          have ht' : (ds.all isRow || intsB ds) = true := by simpa [told] using ht
          obtain ⟨p, xs, rfl, n1, n2, n3, n4⟩ := b1
          refine ⟨p, xs, rfl, by rw [backI_G ((free p ((n4 p).mpr rfl)).2 i)]; exact n1, n2, ?_, n4⟩
          rcases Bool.or_eq_true _ _ ▸ ht' with z | z
          · exact rows_bk m1 hbi hr f' m' z n3
          · exact ints_rp z n3
        | _ => exact absurd ht (by simp [told])
theorem ve_methP {pl : Sem Bool} {y : Str} {py : Pos} (V0 : Vx X W) (i : Nat) (hρ : ρ 9 = FZI (X.mg c) fs) (cm : CalM X ρ c m (n + 1) [] F k) (hr : Room k X.A) (ha : VA X ρ W (a :: es) as_)
    (hN : X.N[i]? = some y := by rfl) (hv : Vis X.env.scope y := by first | exact Or.inl rfl | exact Or.inr (Or.inl rfl) | exact Or.inr (Or.inr rfl)) (hd : (y == ("__debug__" : Str)) = false := by decide) (hcd : (y == ("__classdict__" : Str)) = false := by decide)
    (hst : starEach (a :: es) X.env = (false, eval a X.env) :: starEach es X.env := by rfl) (hpl : (backTo pos (starEach es X.env)).any (·.1) = false := by rfl)
    (ht : eval (.Call (.Attribute (.Name y py) m apos) (a :: es) [] pos) X.env = (do
      let ov ← eval (.Name y py) X.env
      standAt apos.atName
      let (f, first) ← holding [ov] (getMethod ov m pl)
      callWith pos f first (backTo pos (starEach (a :: es) X.env)) (backToKw pos (keywordEach [] X.env))) := by rfl) :
    VE X ρ W (.Call (.Attribute (.Name y py) m apos) (a :: es) [] pos) (fMethP c m fs i F n as_) := by
  obtain ⟨A, f, fd, ps, gc, cls, hm, FO, gb⟩ := cm.ex
  obtain ⟨t, pa, s⟩ := ha
  refine ⟨_, pe_methG (pe_var hN hv hd hcd) cls hm FO hr V0.gd V0.sm gb (fun σ => passAt V0.tk σ) pa hst hpl ht, fun π e σ w Q m h => ?_⟩
  unfold fMethP at h
  split at h
  case isFalse => exact h.elim
  rename_i hok
  obtain ⟨a, dx, gs, hv, hH, hl, b, hb⟩ := isI_at hρ m hok gc
  exact ⟨.ref a, hv, a, dx, gs, rfl, hH, hl, methP_in hρ s m hv (fun _ _ z => z) h⟩
theorem ve_methP0 {pl : Sem Bool} {y : Str} {py : Pos} (V0 : Vx X W) (i : Nat) (hρ : ρ 9 = FZI (X.mg c) fs) (cm : CalM X ρ c m 1 [] F k) (hr : Room k X.A)
    (hN : X.N[i]? = some y := by rfl) (hv : Vis X.env.scope y := by first | exact Or.inl rfl | exact Or.inr (Or.inl rfl) | exact Or.inr (Or.inr rfl)) (hd : (y == ("__debug__" : Str)) = false := by decide) (hcd : (y == ("__classdict__" : Str)) = false := by decide)
    (ht : eval (.Call (.Attribute (.Name y py) m apos) [] [] pos) X.env = (do
      let ov ← eval (.Name y py) X.env
      standAt apos.atName
      let (f, first) ← holding [ov] (getMethod ov m pl)
      callWith pos f first (backTo pos (starEach [] X.env)) (backToKw pos (keywordEach [] X.env))) := by rfl) :
    VE X ρ W (.Call (.Attribute (.Name y py) m apos) [] [] pos) (fMethP c m fs i F 0 aNil) := by
  obtain ⟨A, f, fd, ps, gc, cls, hm, FO, gb⟩ := cm.ex
  refine ⟨_, pe_methG0 (pe_var hN hv hd hcd) cls hm FO hr V0.gd V0.sm gb (fun σ => passAt V0.tk σ) ht, fun π e σ w Q m h => ?_⟩
  unfold fMethP at h
  split at h
  case isFalse => exact h.elim
  rename_i hok
  obtain ⟨a, dx, gs, hv, hH, hl, b, hb⟩ := isI_at hρ m hok gc
  exact ⟨.ref a, hv, a, dx, gs, rfl, hH, hl, methP_in (t := tNil) (as_ := aNil) hρ (fun π e σ w Q m h => h [] w m (.refl w) .nil) m hv (fun _ _ z => z) h⟩
end
/-- a statement within a class -/
def inCls : Stmt → Nat → Stmt
  | .ClassDef _ _ _ body _ _ _ _ _ _ _, j => body.getD j (.Pass ⟨0, 0, 0, 0⟩)
  | s, _ => s
section
variable {P : Program} {w : World} {K : PySem.W.Frag} {mg : Str → Option Value} {base : Heap} {ρ : Nat → Res}
structure CalN (P : Program) (w : World) (K : PySem.W.Frag) (mg : Str → Option Value) (base : Heap) (ρ : Nat → Res) (c m : Str) (n : Nat) (ms : List Nat) (F : Fn) (k : Nat) : Prop where
  ex : ∃ A f fd ps, mg c = some (.ref A) ∧ Cls K A ∧ Meth K A m f ∧ FnG P w K mg base k f fd ps (spV ⟨K, mg, ρ⟩ n ms F) ∧ Binds K fd ps []
theorem CalN.c {X : Cx} {c m : Str} {n : Nat} {ms : List Nat} {F : Fn} {k : Nat} (h : CalN X.prog X.w X.K X.mg X.base ρ c m n ms F k) : CalM X ρ c m n ms F k := ⟨h.ex⟩
structure CalI (P : Program) (w : World) (K : PySem.W.Frag) (mg : Str → Option Value) (base : Heap) (ρ : Nat → Res) (c : Str) (n : Nat) (F : Fn) (k : Nat) : Prop where
  ex : ∃ A f fd ps, mg c = some (.ref A) ∧ Cls K A ∧ Mk K A f ∧ FnG P w K mg base k f fd ps (spV ⟨K, mg, ρ⟩ (n + 1) [0] F) ∧ Binds K fd ps []
theorem CalI.c {X : Cx} {c : Str} {n : Nat} {F : Fn} {k : Nat} (h : CalI X.prog X.w X.K X.mg X.base ρ c n F k) : CalC X ρ c n F k := ⟨h.ex⟩
structure ClsG (K : PySem.W.Frag) (mg : Str → Option Value) (c : Str) : Prop where
  gl : mg c = some (.ref (He.ga K c))
  cl : Cls K (He.ga K c)
theorem fld_ok {c f : Str} (z : ClsG K mg c) (h : NoAttr K (He.ga K c) f) : Fld K mg c f := ⟨_, z.gl, z.cl, h⟩
theorem caln_mk {x qual c m : Str} {params : Arguments} {body : List Stmt} {scope : Scope} {fd : FuncData} {N ps : List Str} {k : Nat} {g : FS} (ms : List Nat) (z : ClsG K mg c) (hm : Meth K (He.ga K c) m (He.ma K (He.ga K c) m)) (F : FunD K x qual params body scope [] [] (He.ma K (He.ga K c) m) fd) (S : FnScope N ps scope) (hpn : ps.length ≤ N.length)
    (hb : ∀ (kV doc pm : Value) (an : Option Addr) (cdv ct : Value) (us : List Value), us.length = ps.length → bindArgs (PySem.W.fnOf x qual params body scope .none kV doc pm an cdv ct) ⟨us, []⟩ = pure (ps.zip us))
    (hbody : ∀ (cdv : Value) (A : Around) (outer : List PySem.Env) (s : Shared) (H : Hp) (E : XK), Room k (A.deeper (PyProof.Rows.envOfC qual scope s.heap.objs.size (He.ma K (He.ga K c) m) cdv)) →
      Vx (cxOf (L2.CX P w) P w K mg base N qual scope (He.ma K (He.ga K c) m) cdv A outer s H E) (fun cls d _ H => E cls d H) → VSs (cxOf (L2.CX P w) P w K mg base N qual scope (He.ma K (He.ga K c) m) cdv A outer s H E) ρ (fun cls d _ H => E cls d H) ms body g) (hk : 1 ≤ k) :
    CalN P w K mg base ρ c m ps.length ms (runF g N.length) (k + 1) := ⟨_, _, fd, ps, z.gl, z.cl, hm, fn_okV ms F S hpn hbody hk, F.bindsN hb⟩
theorem cali_mk {x qual c : Str} {params : Arguments} {body : List Stmt} {scope : Scope} {fd : FuncData} {N ps : List Str} {k n : Nat} {g : FS} (z : ClsG K mg c) (mk : Mk K (He.ga K c) (He.ma K (He.ga K c) "__init__")) (F : FunD K x qual params body scope [] [] (He.ma K (He.ga K c) "__init__") fd) (S : FnScope N ps scope) (hpn : ps.length ≤ N.length) (hn : ps.length = n + 1)
    (hb : ∀ (kV doc pm : Value) (an : Option Addr) (cdv ct : Value) (us : List Value), us.length = ps.length → bindArgs (PySem.W.fnOf x qual params body scope .none kV doc pm an cdv ct) ⟨us, []⟩ = pure (ps.zip us))
    (hbody : ∀ (cdv : Value) (A : Around) (outer : List PySem.Env) (s : Shared) (H : Hp) (E : XK), Room k (A.deeper (PyProof.Rows.envOfC qual scope s.heap.objs.size (He.ma K (He.ga K c) "__init__") cdv)) →
      Vx (cxOf (L2.CX P w) P w K mg base N qual scope (He.ma K (He.ga K c) "__init__") cdv A outer s H E) (fun cls d _ H => E cls d H) → VSs (cxOf (L2.CX P w) P w K mg base N qual scope (He.ma K (He.ga K c) "__init__") cdv A outer s H E) ρ (fun cls d _ H => E cls d H) [0] body g) (hk : 1 ≤ k) :
    CalI P w K mg base ρ c n (runF g N.length) (k + 1) := ⟨_, _, fd, ps, z.gl, z.cl, mk, by rw [← hn]; exact fn_okV [0] F S hpn hbody hk, F.bindsN hb⟩
end
end VL
set_option maxRecDepth 100000
namespace VL
open PySem L2
/-- a Lister's attributes -/
def lsF : List Str := ["way", "things", "far", "held", "deeds"]
/-- things that stay: a Lister lent; else what k64's law has -/
def rhoI (mg : Str → Option Value) : Nat → Res
  | 9 => FZI (mg "Lister") lsF
  | k => rhoV k
end VL
set_option maxRecDepth 100000
namespace VL
open PySem L2
end VL
set_option maxRecDepth 100000
namespace VL
open PySem L2
end VL
set_option maxRecDepth 100000
namespace VL
open PySem L2
def unpE : List Nat → List Tr → Env → Option Env
  | [], [], e => some e
  | j :: js, t :: ts, e => if j < e.length then (rowB false t).bind fun b => unpE js ts (e.set j (some b)) else none
  | _, _, _ => none
def sUnp (js : List Nat) (f : FE) : FS := fun e => bndS (f e) fun o e1 => (ownT e1 o).bind fun p => match p.1 with
  | .nd .lst ts => (unpE js ts p.2).bind fun e2 => some (.nx e2)
  | _ => none
def setAll : L2.St → List Nat → List V → L2.St
  | σ, j :: js, x :: xs => setAll (σ.set j (some x)) js xs
  | σ, _, _ => σ
def gNames : List Nat → TGs
  | [] => gNil
  | j :: js => gCons (gName j) (gNames js)
section
variable {C : Cc} {π : List (Nat × V)} {w0 : WS} {p : Addr} {xs : List V}
theorem gNames_run : ∀ {js : List Nat} {vs : List V} {σ : L2.St} {H : Hp} {Q : L2.St → Hp → Prop}, js.length = vs.length → Q (setAll σ js vs) H → gNames js vs σ H Q
  | [], [], _, _, _, _, h => ⟨rfl, h⟩
  | j :: js, v :: vs, _, _, _, hl, h => ⟨v, vs, rfl, gNames_run (by simpa using hl) h⟩
theorem unp_run : ∀ {js : List Nat} {ts : List Tr} {e e2 : Env} {σ : L2.St} {w : WS} {k : Nat} {as : List Addr}, unpE js ts e = some e2 → Mt C π e σ w → Frm w0 w → Tl C w0 w p xs ts k as → (∀ q ∈ π, q.1 ∉ js) →
    js.length = (xs.drop k).length ∧ ∃ w', Mt C π e2 (setAll σ js (xs.drop k)) w' ∧ Frm w0 w' ∧ w'.H = w.H
  | [], [], e, e2, σ, w, k, as, h, m, f, r, hp => by
    cases h
    have hl := r.len
    have hd : xs.drop k = [] := List.eq_nil_of_length_eq_zero (by rw [List.length_drop]; simp at hl; omega)
    rw [hd]
    exact ⟨rfl, w, m, f, rfl⟩
  | j :: js, t :: ts, e, e2, σ, w, k, as, h, m, f, r, hp => by
    unfold unpE at h
    split at h
    case isFalse => cases h
    rename_i hj
    cases qb : rowB false t with
    | none => rw [qb] at h; cases h
    | some b =>
    rw [qb, Option.bind_some] at h
    obtain ⟨w3, m3, f3, eH3, eG3, _⟩ := m.drop (i := j)
    obtain ⟨hk, w4, a1, a2, ea, m4, f4, eH4, eG4, r4, _⟩ := (r.step f3).next m3 (f.trans f3) hj (fun q hq z => hp q hq (by rw [z]; exact List.mem_cons_self)) qb
    rw [List.set_set] at m4
    obtain ⟨hl, w5, m5, f5, eH5⟩ := unp_run h m4 f4 r4 fun q hq z => hp q hq (List.mem_cons_of_mem _ z)
    rw [List.drop_eq_getElem_cons hk]
    exact ⟨by rw [List.length_cons, List.length_cons, hl], w5, m5, f5, eH5.trans (eH4.trans eH3)⟩
  | [], _ :: _, _, _, _, _, _, _, h, _, _, _, _ => by cases h
  | _ :: _, [], _, _, _, _, _, _, h, _, _, _, _ => by cases h
theorem ss_unp {W : WX} {pn js : List Nat} {te : TE} {fa : FE} (hj : ∀ j ∈ js, j ∉ pn) (sx : SE C W te fa) : SS C W pn (tAsg te (gLst C.K js.length (gNames js))) (sUnp js fa) := fun π e σ w D hp m h => by
  refine sx π e σ w _ m (h.bnd fun o1 e1 v1 w1 m1 f1 k1 h1 => ?_)
  cases q : ownT e1 o1 with
  | none => rw [q] at h1; exact h1.elim
  | some pr =>
  rw [q, Option.bind_some] at h1
  obtain ⟨w2, m2, f2, eH, eG, fp, ⟨bs, b1, b3, b4⟩, b2⟩ := ownT_sound (e' := pr.2) m1 f1 k1 q
  obtain ⟨t0, e2⟩ := pr
  split at h1
  case h_2 => exact h1.elim
  rename_i ts q0
  dsimp only at q0 b1 h1 m2
  subst q0
  cases qu : unpE js ts e2 with
  | none => rw [qu] at h1; exact h1.elim
  | some e3 =>
  rw [qu, Option.bind_some] at h1
  cases b1 with
  | lst n1 n2 n3 =>
  rename_i p xs as
  have r1 : Tl C w w2 p xs ts 0 as := ⟨n2, by rw [n3.length]; omega, n3, ⟨b3, fun a ha => by
    rcases List.mem_cons.mp ha with rfl | ha
    · exact n1
    · exact (n3.own a ha).1, fun a ha => by
    rcases List.mem_cons.mp ha with rfl | ha
    · exact ⟨_, n2⟩
    · exact (n3.own a ha).2, fun a ha => (b2 a ((b4 a).mpr ha)).2⟩, fun a ha => (b2 a ((b4 a).mpr ha)).1⟩
  obtain ⟨hl, w5, m5, f5, eH5⟩ := unp_run qu m2 f2 r1 fun q hq z => hj _ z (hp q hq)
  rw [List.drop_zero] at hl m5
  rw [← eH]
  refine ⟨p, xs, rfl, .of n2, hl.symm, gNames_run hl ?_⟩
  rw [← eH5]
  exact h1 _ w5 m5 f5
end
section
variable {X : Cx} {ρ : Nat → Res} {W : WX} {pn : List Nat} {a : Expr} {fa : FE} {pos : Pos}
theorem vs_unp4 (V0 : Vx X W) (i1 i2 i3 i4 : Nat) {x1 x2 x3 x4 : Str} {p1 p2 p3 p4 tp : Pos} {kk} (ha : VE X ρ W a fa) (h1 : X.N[i1]? = some x1 := by rfl) (h2 : X.N[i2]? = some x2 := by rfl) (h3 : X.N[i3]? = some x3 := by rfl) (h4 : X.N[i4]? = some x4 := by rfl)
    (l1 : Loc X.env.scope x1 := by first | exact Or.inl rfl | exact Or.inr rfl) (l2 : Loc X.env.scope x2 := by first | exact Or.inl rfl | exact Or.inr rfl) (l3 : Loc X.env.scope x3 := by first | exact Or.inl rfl | exact Or.inr rfl) (l4 : Loc X.env.scope x4 := by first | exact Or.inl rfl | exact Or.inr rfl)
    (hj : ∀ j ∈ [i1, i2, i3, i4], j ∉ pn := by decide)
    (f1 : X.fn x1 = true ∨ X.env.scope.names.lookup x1 = some .local := by first | exact .inl rfl | exact .inr rfl) (f2 : X.fn x2 = true ∨ X.env.scope.names.lookup x2 = some .local := by first | exact .inl rfl | exact .inr rfl) (f3 : X.fn x3 = true ∨ X.env.scope.names.lookup x3 = some .local := by first | exact .inl rfl | exact .inr rfl) (f4 : X.fn x4 = true ∨ X.env.scope.names.lookup x4 = some .local := by first | exact .inl rfl | exact .inr rfl)
    (hn : (assignEach [.Name x1 p1, .Name x2 p2, .Name x3 p3, .Name x4 p4] X.env).length = 4 := by rfl) (hst : (assignEach [.Name x1 p1, .Name x2 p2, .Name x3 p3, .Name x4 p4] X.env).findIdx? (·.1) = none := by rfl)
    (hs1 : (assignEach (.Name x1 p1 :: [.Name x2 p2, .Name x3 p3, .Name x4 p4]) X.env).map (·.2) = assign (.Name x1 p1) X.env :: (assignEach [.Name x2 p2, .Name x3 p3, .Name x4 p4] X.env).map (·.2) := by rfl)
    (hs2 : (assignEach (.Name x2 p2 :: [.Name x3 p3, .Name x4 p4]) X.env).map (·.2) = assign (.Name x2 p2) X.env :: (assignEach [.Name x3 p3, .Name x4 p4] X.env).map (·.2) := by rfl)
    (hs3 : (assignEach (.Name x3 p3 :: [.Name x4 p4]) X.env).map (·.2) = assign (.Name x3 p3) X.env :: (assignEach [.Name x4 p4] X.env).map (·.2) := by rfl)
    (hs4 : (assignEach (.Name x4 p4 :: []) X.env).map (·.2) = assign (.Name x4 p4) X.env :: (assignEach [] X.env).map (·.2) := by rfl)
    (hs : swapsWithSole [.Tuple [.Name x1 p1, .Name x2 p2, .Name x3 p3, .Name x4 p4] kk tp] a pos.line X.env = pure false := by rfl) (hw : swappedStores [.Tuple [.Name x1 p1, .Name x2 p2, .Name x3 p3, .Name x4 p4] kk tp] a X.env = pure none := by rfl)
    (hh : (assignEach [.Tuple [.Name x1 p1, .Name x2 p2, .Name x3 p3, .Name x4 p4] kk tp] X.env).map (·.2) = [assign (.Tuple [.Name x1 p1, .Name x2 p2, .Name x3 p3, .Name x4 p4] kk tp) X.env] := by rfl) :
    VS X ρ W pn (.Assign [.Tuple [.Name x1 p1, .Name x2 p2, .Name x3 p3, .Name x4 p4] kk tp] a pos) (sUnp [i1, i2, i3, i4] fa) := by
  obtain ⟨t, pa, sa⟩ := ha
  exact ⟨_, ps_asg pa (pg_lst V0.calm (pgs_cons (pg_name V0.nd h1 l1 f1) (pgs_cons (pg_name V0.nd h2 l2 f2) (pgs_cons (pg_name V0.nd h3 l3 f3) (pgs_cons (pg_name V0.nd h4 l4 f4) pgs_nil hs4) hs3) hs2) hs1) hn hst) hs hw hh, ss_unp (js := [i1, i2, i3, i4]) hj sa⟩
end
end VL
set_option maxRecDepth 100000
namespace VL
open PySem L2
def fLcIL (fa : Nat → FE) (vs : List Nat) : List Nat → List Tr → Env → Option (Out O)
  | [], acc, e => (frsT acc).map fun ds => .ok (.b (.ow ds)) e
  | j :: js, acc, e => lcTurn tTrue (fa j) vs (fun acc e => fLcIL fa vs js acc e) acc e
def fLcI (iv : Nat) (js : List Nat) (fa : Nat → FE) (vs : List Nat) : FE := fun e => if js.all (fun j => (at? e j).isSome && decide (j ∉ vs)) = true ∧ js.length ≤ big ∧ iv < e.length then fLcIL fa vs js [] (forget vs e) else none
def tVars : List Nat → TA
  | [] => tNil
  | j :: js => tCons (tVar j) (tVars js)
theorem tVars_run {σ : L2.St} {H : Hp} {Q : List V → Hp → Prop} : ∀ {js : List Nat} {xs : List V}, js.length = xs.length → (∀ (k j : Nat), js[k]? = some j → ∃ x, xs[k]? = some x ∧ σ[j]? = some (some x)) → Q xs H → tVars js σ H Q
  | [], [], _, _, h => h
  | j :: js, x :: xs, hl, hx, h => by
    obtain ⟨x', e1, e2⟩ := hx 0 j rfl
    cases e1
    refine ⟨x, e2, tVars_run (js := js) (xs := xs) (Q := fun vs H2 => Q (x :: vs) H2) (by simpa using hl) (fun k j' hj => hx (k + 1) j' hj) h⟩
theorem names_at {C : Cc} {π : List (Nat × V)} {e : Env} {σ : L2.St} {w : WS} (m : Mt C π e σ w) {vs : List Nat} : ∀ {js : List Nat}, js.all (fun j => (at? e j).isSome && decide (j ∉ vs)) = true → ∃ xs : List V, js.length = xs.length ∧ ∀ (k j : Nat), js[k]? = some j → j ∉ vs ∧ ∃ x, xs[k]? = some x ∧ σ[j]? = some (some x)
  | [], _ => ⟨[], rfl, fun k j h => by cases h⟩
  | j :: js, h => by
    rw [List.all_cons, Bool.and_eq_true, Bool.and_eq_true] at h
    obtain ⟨⟨h1, h2⟩, h3⟩ := h
    obtain ⟨xs, hl, hx⟩ := names_at m h3
    obtain ⟨b, hb⟩ := Option.isSome_iff_exists.mp h1
    obtain ⟨v, g1, _⟩ := m.bok j b hb
    refine ⟨v :: xs, by simp [hl], fun k i hk => ?_⟩
    cases k with
    | zero => cases hk; exact ⟨of_decide_eq_true h2, v, rfl, g1⟩
    | succ k => exact hx k i hk
section
variable {W : WX} {fa : Nat → FE}
theorem se_lcI {C : Cc} {te : TE} {vs : List Nat} (iv : Nat) (hj : iv ∈ vs) (js : List Nat) (sf : ∀ j ∈ js, SE C W0 (fun σ H Q => σ[iv]? = σ[j]? → te σ H Q) (fa j)) : SE C W (tLc (iTup C.K (tTup (tVars js))) (gName iv) tYes te vs) (fLcI iv js fa vs) := fun π e σ w Q m h => by
  unfold fLcI at h
  split at h
  case isFalse => exact h.elim
  case isTrue hc =>
  obtain ⟨hc, hbig, hiv⟩ := hc
  have hiv : iv < σ.length := by have := m.len; omega
  obtain ⟨ys, hl, hx⟩ := names_at m hc
  refine tVars_run hl (fun k j hk => (hx k j hk).2) ⟨by rw [← hl]; exact Nat.le_trans hbig big_le, fun p hp => ⟨p, rfl, ⟨ys, Or.inl (Rd.of upd_same)⟩, fun D hD => ?_⟩⟩
  have hp1 : (w.new p (.tup ys)).H p = some (.tup ys) := upd_same
  have mp := m.new (o := .tup ys) hp
  have fp := Frm.new (o := .tup ys) hp
  have hGp : w.G p = none := m.sub.free hp
  have hnp : ∀ i, ¬ (w.new p (.tup ys)).fp i p := fun i => m.notOwned hp i
  obtain ⟨wf, mf, ff, eHf, eGf, hlf⟩ := mp.forget (vs := vs)
  have hDf : wf.H D = none := by rw [eHf]; exact hD
  have hDp : D ≠ p := fun z => by rw [z] at hD; exact nomatch hp1.symm.trans hD
  have hDw : w.H D = none := fp.t D hD
  have hG1 : wf.G D = none := mf.sub.free hDf
  have m3 := mf.new (o := .lst []) hDf
  have f3 := Frm.new (o := .lst []) hDf
  have hno : ∀ i, ¬ (wf.new D (.lst [])).fp i D := fun i => mf.notOwned hDf i
  have mw : Mt C [] (forget vs e) (L2.wipe σ vs) (wf.new D (.lst [])) := m3.wipe fun i b q => (at_forget q).2
  have h0 : Hid (w.new p (.tup ys)) [p] := ⟨by simp, fun a ha => by
    have : a = p := by simpa using ha
    subst this; exact hGp, fun a ha => by
    have : a = p := by simpa using ha
    subst this; exact ⟨_, hp1⟩, fun a ha => by
    have : a = p := by simpa using ha
    subst this; exact hnp⟩
  obtain ⟨h3, e3⟩ := h0.step (ff.trans f3)
  have hpw : (wf.new D (.lst [])).H p = some (.tup ys) := (e3 p List.mem_cons_self).1.trans hp1
  have A0 : Acc C w (wf.new D (.lst [])) D [] [] [] [p] := ⟨upd_same, .nil, ⟨List.nodup_cons.mpr ⟨by simpa using hDp, h3.nd⟩, fun a ha => by
    rcases List.mem_cons.mp ha with rfl | ha
    · exact hG1
    · exact h3.g a ha, fun a ha => by
    rcases List.mem_cons.mp ha with rfl | ha
    · exact ⟨_, upd_same⟩
    · exact h3.h a ha, fun a ha => by
    rcases List.mem_cons.mp ha with rfl | ha
    · exact hno
    · exact h3.n a ha⟩, fun a ha => by
    have : a = D := by simpa using ha
    subst this
    exact .inl hDw⟩
  refine ⟨fun i n H' => n = ys.length - i ∧ i ≤ ys.length ∧ ∃ e' w' acc xs as, w'.H = H' ∧ Mt C [] e' (L2.wipe σ vs) w' ∧ (∀ j b, at? e' j = some b → j ∉ vs) ∧ Frm w w' ∧ w'.H p = some (.tup ys) ∧ Acc C w w' D xs acc as [p] ∧ Post C W π σ w (fLcIL fa vs (js.drop i) acc e') (OOk C σ w) Q,
    ⟨ys.length, by simp, Nat.zero_le _, forget vs e, wf.new D (.lst []), [], [], [], by rw [show (wf.new D (.lst [])).H = upd wf.H D (.lst []) from rfl, eHf]; rfl, mw, fun j b q => (at_forget q).2, (fp.trans ff).trans f3, hpw, A0, by rw [List.drop_zero]; exact h⟩, ?_⟩
  rintro i n H' ⟨rfl, hi, e', w', acc, xs, as, rfl, m', hv', frw, hpt, A, h4⟩
  by_cases hlt : i < ys.length
  · have hjl : i < js.length := by omega
    refine .inr ⟨⟨ys, ys[i], .inl (.of hpt), List.getElem?_eq_getElem hlt⟩, fun H2 => i + 1 ≤ ys.length ∧ ∃ e' w' acc xs as, w'.H = H2 ∧ Mt C [] e' (L2.wipe σ vs) w' ∧ (∀ j b, at? e' j = some b → j ∉ vs) ∧ Frm w w' ∧ w'.H p = some (.tup ys) ∧ Acc C w w' D xs acc as [p] ∧ Post C W π σ w (fLcIL fa vs (js.drop (i + 1)) acc e') (OOk C σ w) Q,
      fun H2 q => ⟨ys.length - (i + 1), by omega, rfl, q⟩, fun x H2 y => ?_⟩
    obtain ⟨rfl, hxx⟩ := y
    have hxx := hxx ys (.inl (.of hpt))
    rw [List.getElem?_eq_getElem hlt] at hxx
    cases hxx
    rw [List.drop_eq_getElem_cons hjl] at h4
    unfold fLcIL at h4
    obtain ⟨hjv, x, ex, hsx⟩ := hx i js[i] (List.getElem?_eq_getElem hjl)
    rw [List.getElem?_eq_getElem hlt] at ex
    cases ex
    have hne : js[i] ≠ iv := fun z => hjv (by rw [z]; exact hj)
    have m4 : Mt C [] e' ((L2.wipe σ vs).set iv (some ys[i])) w' := ⟨by rw [List.length_set]; exact m'.len, m'.sub, fun k b q => by
      obtain ⟨v, g1, g2⟩ := m'.bok k b q
      exact ⟨v, by rw [List.getElem?_set_ne (fun z => hv' k b q (by rw [← z]; exact hj))]; exact g1, g2⟩, m'.non, m'.dis, fun q h => by cases h⟩
    refine ⟨(wipe_set hj).trans wipe_wipe, ?_⟩
    have hsi : ((L2.wipe σ vs).set iv (some ys[i]))[iv]? = ((L2.wipe σ vs).set iv (some ys[i]))[js[i]]? := by
      rw [List.getElem?_set_ne (Ne.symm hne), wipe_get hjv, hsx, List.getElem?_set_self (by rw [wipe_length]; exact hiv)]
    have := lc_turn (tt := tYes) (ta := tTrue) (te := fun σ H Q => σ[iv]? = σ[js[i]]? → te σ H Q) (fa := fa js[i]) (vs := vs) (σ3 := (L2.wipe σ vs).set iv (some ys[i])) (fun π e σ w Q m h => h true w m (.refl w) rfl) (sf js[i] (List.getElem_mem hjl)) ((wipe_set hj).trans wipe_wipe) (by rw [List.length_set, wipe_length]) m4 frw hDw A (fun H2 => i + 1 ≤ ys.length ∧ ∃ e' w' acc xs as, w'.H = H2 ∧ Mt C [] e' (L2.wipe σ vs) w' ∧ (∀ j b, at? e' j = some b → j ∉ vs) ∧ Frm w w' ∧ w'.H p = some (.tup ys) ∧ Acc C w w' D xs acc as [p] ∧ Post C W π σ w (fLcIL fa vs (js.drop (i + 1)) acc e') (OOk C σ w) Q) (fun e5 w5 acc5 xs5 as5 g1 g2 g3 g4 g5 g6 g7 => ⟨hlt, e5, w5, acc5, xs5, as5, rfl, g1, g2, g3, (g6 p List.mem_cons_self).1.trans hpt, g5, g7⟩) h4
    unfold tYes at this ⊢
    dsimp only at this ⊢
    rw [if_pos rfl] at this ⊢
    exact this hsi
  · have e4 : i = js.length := by omega
    subst e4
    rw [List.drop_length] at h4
    unfold fLcIL at h4
    refine .inl ⟨⟨ys, .inl (.of hpt), by omega⟩, ?_⟩
    have mu : Mt C π e' σ w' := m'.unwipe (σ := σ) (vs := vs) wipe_wipe (wipe_length σ vs) hv' m.pin
    cases qd : frsT acc with
    | none => rw [qd] at h4; exact h4.elim
    | some ds =>
    rw [qd] at h4
    obtain ⟨fpp, ⟨bs, b1, b3, b4⟩, b2⟩ := A.out (σ := σ)
    have hb : rowB true (.nd .lst acc) = some (.ow ds) := by
      show (frsT acc).map B.ow = _
      rw [qd]; rfl
    exact h4 (.ref D) w' mu frw ⟨_, bok_rowB hb b1 b3, fun a ha => b2 a ((b4 a).mpr ha)⟩
end
section
variable {X : Cx} {ρ : Nat → Res} {W : WX} {elt : Expr} {es : List Expr} {pos : Pos} {fa : Nat → FE} {c m : Str} {fs : List Str} {k : Nat} {F : Fn} {apos : Pos}
/-- an expression in which the name iv is one of the names js -/
def VEI (X : Cx) (ρ : Nat → Res) (iv : Nat) (js : List Nat) (elt : Expr) (fa : Nat → FE) : Prop := ∃ te, PE X elt te ∧ ∀ j ∈ js, SE (cc X ρ) W0 (fun σ H Q => σ[iv]? = σ[j]? → te σ H Q) (fa j)
/-- names -/
def VNs (X : Cx) (es : List Expr) (js : List Nat) : Prop := PA X es (tVars js)
theorem vns_nil : VNs X [] [] := pa_nil
theorem vns_cons {y : Str} {py : Pos} {js : List Nat} (j : Nat) (h : VNs X es js) (hN : X.N[j]? = some y := by rfl) (hv : Vis X.env.scope y := by first | exact Or.inl rfl | exact Or.inr (Or.inl rfl) | exact Or.inr (Or.inr rfl)) (hd : (y == ("__debug__" : Str)) = false := by decide) (hcd : (y == ("__classdict__" : Str)) = false := by decide) : VNs X (.Name y py :: es) (j :: js) :=
  pa_cons (pe_var hN hv hd hcd) h
theorem lc_partsI {scope : Scope} {iv : Nat} {js : List Nat} (V0 : Vx X W)
    (he : ∀ (s : Shared) (H : Hp) (C : Addr) (cl : List (Str × Addr)) (fp : List Addr), Vx (X.blk s H scope (compEnvC scope cl C X.env) fp) W0 → VEI (X.blk s H scope (compEnvC scope cl C X.env) fp) ρ iv js elt fa) :
    ∃ te : TE, (∀ (s : Shared) (H : Hp) (C : Addr) (cl : List (Str × Addr)) (fp : List Addr), PE (X.blk s H scope (compEnvC scope cl C X.env) fp) elt te) ∧ ∀ j ∈ js, SE (cc X ρ) W0 (fun σ H Q => σ[iv]? = σ[j]? → te σ H Q) (fa j) := by
  have h2 := fun s H C cl fp => he s H C cl fp (V0.blk s H scope _ fp)
  refine ⟨fun σ H' Q => ∀ s H C cl fp, (h2 s H C cl fp).choose σ H' Q, fun s H C cl fp => ?_, ?_⟩
  · exact pe_less (h2 s H C cl fp).choose_spec.1 fun σ H' Q q => q s H C cl fp
  · intro j hj π e σ w Q m h hs s H C cl fp
    exact (h2 s H C cl fp).choose_spec.2 j hj π e σ w Q m h hs
theorem ve_lcI {scope : Scope} {x : Str} {px pt : Pos} {cx : Nat} (V0 : Vx X W) (iv : Nat) {js : List Nat} (own : List (Str × Nat)) (hn : VNs X es js) (ok : blkC X.N X.env.scope scope own = true)
    (hg : ∀ (s : Shared) (H : Hp) (C : Addr) (cl : List (Str × Addr)) (fp : List Addr), PG (X.blk s H scope (compEnvC scope cl C X.env) fp) (.Name x px) (gName iv)) (hj : iv ∈ own.map (·.2))
    (he : ∀ (s : Shared) (H : Hp) (C : Addr) (cl : List (Str × Addr)) (fp : List Addr), Vx (X.blk s H scope (compEnvC scope cl C X.env) fp) W0 → VEI (X.blk s H scope (compEnvC scope cl C X.env) fp) ρ iv js elt fa) (hs : ∀ z, foldedSetIterable (.Tuple es cx pt) X.env z = pure z := by intro _; rfl) :
    VE X ρ W (.ListComp elt [⟨.Name x px, .Tuple es cx pt, [], 0⟩] scope pos) (fLcI iv js fa (own.map (·.2))) := by
  obtain ⟨te, p2, s2⟩ := lc_partsI V0 he
  exact ⟨_, pe_lc V0.calm V0.nd (pi_tup (pe_tup hn)) (blkOk_by ok) hg (fun _ _ _ _ _ => pts_nil) p2 hs, se_lcI iv hj js s2⟩
/-- one.m(), the name one of the names js -/
theorem vei_meth {pl : Sem Bool} {y : Str} {py : Pos} {js : List Nat} (V0 : Vx X W0) (iv : Nat) (hρ : ρ 9 = FZI (X.mg c) fs) (cm : CalM X ρ c m 1 [] F k) (hr : Room k X.A)
    (hN : X.N[iv]? = some y := by rfl) (hv : Vis X.env.scope y := by first | exact Or.inl rfl | exact Or.inr (Or.inl rfl) | exact Or.inr (Or.inr rfl)) (hd : (y == ("__debug__" : Str)) = false := by decide) (hcd : (y == ("__classdict__" : Str)) = false := by decide)
    (ht : eval (.Call (.Attribute (.Name y py) m apos) [] [] pos) X.env = (do
      let ov ← eval (.Name y py) X.env
      standAt apos.atName
      let (f, first) ← holding [ov] (getMethod ov m pl)
      callWith pos f first (backTo pos (starEach [] X.env)) (backToKw pos (keywordEach [] X.env))) := by rfl) :
    VEI X ρ iv js (.Call (.Attribute (.Name y py) m apos) [] [] pos) (fun i => fMethP c m fs i F 0 aNil) := by
  obtain ⟨A, f, fd, ps, gc, cls, hm, FO, gb⟩ := cm.ex
  refine ⟨_, pe_methG0 (pe_var hN hv hd hcd) cls hm FO hr V0.gd V0.sm gb (fun σ => passAt V0.tk σ) ht, fun i hi π e σ w Q m h hs => ?_⟩
  dsimp only at h
  unfold fMethP at h
  split at h
  case isFalse => exact h.elim
  rename_i hok
  obtain ⟨a, dx, gs, hv, hH, hl, b, hb⟩ := isI_at hρ m hok gc
  exact ⟨.ref a, hs.trans hv, a, dx, gs, rfl, hH, hl, methP_in (t := tNil) (as_ := aNil) hρ (fun π e σ w Q m h => h [] w m (.refl w) .nil) m hv (fun _ _ z => z) h⟩
end
end VL
set_option maxRecDepth 100000
namespace TM
open PySem L2 VL PySem.W PySem.SeqAt
open PySem.W.Datum (toD)
/-- a Lister, by its attributes -/
structure Ls where
  way : Str
  things : Int
  far : Int
  held : List (List Int)
  deeds : List (Bool × List Int)
def Ls.tr (s : Ls) : Tr := .nd (.ins "Lister" lsF) [.fr (toD s.way), .fr (toD s.things), .fr (toD s.far), .nd .lst ((s.held.map toD).map .fr), .nd .lst ((s.deeds.map toD).map .fr)]
def Ls.ds (s : Ls) : List PyData := [toD s.way, toD s.things, toD s.far, toD s.held, toD s.deeds]
instance : Lay (Bool × List Int) := ⟨fun p => by
  show (PyData.tuple [.bool p.1, toD p.2]).canLay0 = true
  rw [PyData.canLay0, PyData.canLayAll0, PyData.canLayAll0, PyData.canLayAll0, Lay.lay p.2]
  simp [PyData.canLay0], by decide⟩
instance : Lay (List (Bool × List Int)) := ⟨lay_lst, by decide⟩
theorem dats_fr : ∀ l : List PyData, Tr.dats (l.map .fr) = some l
  | [] => rfl
  | d :: l => by
    rw [List.map_cons, Tr.dats, dats_fr l]
    rfl
theorem frsT_fr : ∀ l : List PyData, frsT (l.map .fr) = some l
  | [] => rfl
  | d :: l => by
    rw [List.map_cons, frsT, frsT_fr l]
    rfl
theorem ls_dats (s : Ls) : Tr.dats [.fr (toD s.way), .fr (toD s.things), .fr (toD s.far), .nd .lst ((s.held.map toD).map .fr), .nd .lst ((s.deeds.map toD).map .fr)] = some s.ds := by
  simp only [Tr.dats, Tr.dat, dats_fr, Option.map_some, Option.bind_some]
  rfl
theorem seq_ll : ∀ l : List (List Int), ((l.map toD).map Tr.fr).all seqB = true
  | [] => rfl
  | x :: l => by
    rw [List.map_cons, List.map_cons, List.all_cons, seq_ll l]
    rfl
theorem seq_bl : ∀ l : List (Bool × List Int), ((l.map toD).map Tr.fr).all seqB = true
  | [] => rfl
  | x :: l => by
    rw [List.map_cons, List.map_cons, List.all_cons, seq_bl l]
    rfl
theorem ls_rows (s : Ls) : rowsOk [.fr (toD s.way), .fr (toD s.things), .fr (toD s.far), .nd .lst ((s.held.map toD).map .fr), .nd .lst ((s.deeds.map toD).map .fr)] = true := by
  simp only [rowsOk, seq_ll, seq_bl, Bool.and_self]
inductive LdS (c : Str) (fs : List Str) : Ctx → Ctx → Prop
  | mk {ts : List Tr} {ds : List PyData} {Γ Γ' : Ctx} (hd : Tr.dats ts = some ds) (k : LdC Γ Γ') : LdS c fs (some (.t (.nd (.ins c fs) ts)) :: Γ) (some (.rs 9 (.tuple ds)) :: Γ')
variable {Γ Γ' Γ1 Γ2 Γl : Ctx} {α β σ τ γ δ υ : Type} {m : R α} {po : α → PO} {K : O → KC} {C : KC} {o o1 o2 o3 : O} {x y : PyData} {b z : B} {i j n q : Nat} {f fa fb fc fx fy fv : FE} {fd : FD} {t : FT} {rest A : FS} {fi : FI} {l vs : List Nat} {a : α} {c mn : Str} {fs gs : List Str} {ts : List Tr} {ds : List PyData} {F : Fn} {r : FA} {mi : List (Nat × Nat)}
/-- e.f, the instance lent -/
theorem j_fld {k : Nat} (h : Γ[i]? = some (some (.rs 9 (.tuple ds)))) (hk : ds[k]? = some x) (kk : J Γ (K (.b (.fr x))) m po) : J Γ (cX (fFld i k) K) m po := kk.to fun e he => ⟨e, he, by
  have h1 : at? e i = some (.rs 9 (.tuple ds)) := he.hold i _ h
  show bndS (fFld i k e) K = _
  unfold fFld
  rw [h1]
  show bndS (ds[k]?.bind fun d => okD d e) K = _
  rw [hk]
  rfl⟩
theorem j_gT2e {d : PyData} (h : d = .tuple [x, y]) (k : J ((Γ.set i (some (.d x))).set j (some (.d y))) C m po) : J Γ (cTgt (gT2 i j) d C) m po := h ▸ j_gT2 k
theorem LdS.cov {Γ Γ' : Ctx} (h : LdS c fs Γ Γ') {e : VL.Env} (he : Cov Γ e) : Cov Γ' (lendS c fs e) := by
  cases h with
  | mk hd k =>
    cases e with
    | nil => have := he.len; simp at this
    | cons b e =>
      obtain ⟨h1, h2⟩ := cov_cons he
      have hb : b = some (.tr _) := h1 _ rfl
      subst hb
      refine cov_mk (fun s' q => ?_) (k.cov h2)
      cases q
      show (if c = c ∧ fs = fs then (Tr.dats _).map fun ds => B.rs 9 (.tuple ds) else none) = _
      rw [if_pos ⟨rfl, rfl⟩, hd]
      rfl
theorem j_tlendS {K : Bool → KC} {m1 : R β} {mk : β → R α} {bv : β → Bool} {Γ1 : β → Ctx} (hl : LdS c fs Γ Γl) (h : J Γl (cX t kB) m1 fun a => .rt (.d (.bool (bv a))) (Γ1 a)) (k : ∀ a, J Γ (K (bv a)) (mk a) po) : J Γ (cX (tLendS c fs t) K) (m1.bind mk) po := fun e he => by
  have h1 := h _ (hl.cov he)
  cases m1 with
  | no => trivial
  | ex c' =>
    obtain ⟨e', h2⟩ := h1
    have h2' : bndS (t (lendS c fs e)) kB = some (.ex c' e') := h2
    refine ⟨e, ?_⟩
    show bndS (tLendS c fs t e) K = _
    unfold tLendS
    cases q : t (lendS c fs e) with
    | none => rw [q] at h2'; cases h2'
    | some r =>
      rw [q] at h2'
      cases r with
      | ok b e1 => cases h2'
      | ex c' e1 => cases h2'; rfl
  | ok a =>
    obtain ⟨w, h2, b, e', rfl, h4, h5⟩ := h1
    have h2' : bndS (t (lendS c fs e)) kB = some (.rt b e') := h2
    have h6 := k a e he
    have hC : cX (tLendS c fs t) K e = K (bv a) e := by
      show bndS (tLendS c fs t e) K = _
      unfold tLendS
      cases q : t (lendS c fs e) with
      | none => rw [q] at h2'; cases h2'
      | some r =>
        rw [q] at h2'
        cases r with
        | ex c' e1 => cases h2'
        | ok b1 e1 =>
          have h3 : some (SO.rt (.fr (.bool b1)) e1) = some (SO.rt b e') := h2'
          cases h3
          have h4' : some (PyData.bool b1) = some (PyData.bool (bv a)) := h4
          cases h4'
          rfl
    rw [bind_ok, hC]
    exact h6
theorem j_tlendSB {K : Bool → KC} {b : Bool} {Γ1 : Ctx} (hl : LdS c fs Γ Γl) (h : J Γl (cX t kB) (.ok ()) fun _ => .rt (.d (.bool b)) Γ1) (k : J Γ (K b) m po) : J Γ (cX (tLendS c fs t) K) m po :=
  j_tlendS (mk := fun _ => m) (bv := fun _ => b) (Γ1 := fun _ => Γ1) hl h fun _ => k
theorem j_meth (h : Γ[i]? = some (some (.t (.nd (.ins c gs) ts)))) (hm : fIx mn gs = none) (k : J Γ (cX (fCall F n mi (aM i r)) K) m po) : J Γ (cX (fMeth c mn fs i F n mi r) K) m po := k.to fun e he => ⟨e, he, by
  have h1 : at? e i = some (.tr (.nd (.ins c gs) ts)) := he.hold i _ h
  have h2 : isI c mn fs i e = true := by
    unfold isI
    rw [h1]
    simp [hm]
  show bndS (fMeth c mn fs i F n mi r e) K = _
  unfold fMeth
  rw [if_pos h2]
  rfl⟩
def cMethP (c : Str) (fs : List Str) (i : Nat) (F : Fn) (n : Nat) (os : List O) (K : O → KC) : KC := fun e1 => if (slotsOk [] 0 os && os.length == n) = true then (bindO e1 os).bind fun bs => (recv c fs i e1).bind fun p => match F (.rs 9 (.tuple p.2) :: bs) with
  | some (.ret b _) => if told p.1 b = true then K (.b b) e1 else none
  | some (.ex x _) => some (.ex x e1)
  | none => none
  else none
theorem methP_eq {e : VL.Env} (h2 : isI c mn fs i e = true) : cX (fMethP c mn fs i F n r) K e = cX r (fun os => cMethP c fs i F n os K) e := by
  show bndS (fMethP c mn fs i F n r e) K = _
  unfold fMethP
  rw [if_pos h2, bndS_bnd]
  refine congrArg _ (funext fun os => funext fun e1 => ?_)
  unfold cMethP
  split
  · rw [bndS_ob]
    refine congrArg _ (funext fun bs => ?_)
    rw [bndS_ob]
    refine congrArg _ (funext fun p => ?_)
    cases F (.rs 9 (.tuple p.2) :: bs) with
    | none => rfl
    | some fr =>
      cases fr with
      | ex c e2 => rfl
      | ret b e2 =>
        dsimp only
        split <;> rfl
  · rfl
theorem j_methP (h : Γ[i]? = some (some (.t (.nd (.ins c gs) ts)))) (hm : fIx mn gs = none) (k : J Γ (cX r fun os => cMethP c fs i F n os K) m po) : J Γ (cX (fMethP c mn fs i F n r) K) m po := k.to fun e he => ⟨e, he, by
  have h1 : at? e i = some (.tr (.nd (.ins c gs) ts)) := he.hold i _ h
  exact methP_eq (by
    unfold isI
    rw [h1]
    simp [hm])⟩
/-- the receiver's data, here -/
def Rcv (c : Str) (fs : List Str) (i : Nat) (Γ : Ctx) (p : Bool × List PyData) : Prop := ∀ e, Cov Γ e → recv c fs i e = some p
theorem rcv_t (h : Γ[i]? = some (some (.t (.nd (.ins c fs) ts)))) (hd : Tr.dats ts = some ds) (hr : rowsOk ts = true) : Rcv c fs i Γ (true, ds) := fun e he => by
  have h1 : at? e i = some (.tr (.nd (.ins c fs) ts)) := he.hold i _ h
  unfold recv
  rw [h1]
  dsimp only
  rw [if_pos ⟨rfl, rfl, hr⟩, hd]
  rfl
theorem j_methPG {p : Bool × List PyData} {os : List O} {bs : List B} {m1 : R β} {rv : β → Sl} {ch : β → List (Nat × Sl)} {mk : β → R α} (h0 : (slotsOk [] 0 os && os.length == n) = true) (h1 : BdA Γ os bs) (hR : Rcv c fs i Γ p) (hF : FnS F (.rs 9 (.tuple p.2) :: bs) m1 rv ch)
    (k : ∀ a b, m1 = .ok a → (rv a).ok (some b) → told p.1 b = true ∧ J Γ (K (.b b)) (mk a) po ∨ mk a = .no) : J Γ (cMethP c fs i F n os K) (m1.bind mk) po := fun e he => by
  have hC : cMethP c fs i F n os K e = match F (.rs 9 (.tuple p.2) :: bs) with
    | some (.ret b _) => if told p.1 b = true then K (.b b) e else none
    | some (.ex x _) => some (.ex x e)
    | none => none := by
    unfold cMethP
    rw [if_pos h0, h1 e he, Option.bind_some, hR e he]
    rfl
  rw [hC]
  unfold FnS at hF
  cases m1 with
  | no => trivial
  | ex c =>
    obtain ⟨e2, q⟩ := hF
    rw [q]
    exact ⟨_, rfl⟩
  | ok a =>
    obtain ⟨b, e2, q, q2, q3⟩ := hF
    rw [q]
    rcases k a b rfl q2 with ⟨k1, k2⟩ | k1
    · dsimp only
      rw [if_pos k1]
      exact k2 e he
    · rw [bind_ok, k1]
      trivial
/-- a flat answer -/
theorem j_methPF {p : Bool × List PyData} {os : List O} {bs : List B} {m1 : R β} {xr : β → PyData} {ch : β → List (Nat × Sl)} {mk : β → R α} (h0 : (slotsOk [] 0 os && os.length == n) = true) (h1 : BdA Γ os bs) (hR : Rcv c fs i Γ p) (hF : FnS F (.rs 9 (.tuple p.2) :: bs) m1 (fun a => .d (xr a)) ch) (hs : ∀ a, isFlat (xr a) = true)
    (k : ∀ a, J Γ (K (.b (.fr (xr a)))) (mk a) po) : J Γ (cMethP c fs i F n os K) (m1.bind mk) po := j_methPG h0 h1 hR hF fun a b _ h => by
  have h' : b.dat = some (xr a) := h
  have := solid_fr h' (by have := hs a; cases q : xr a <;> rw [q] at this <;> first | rfl | cases this)
  subst this
  refine .inl ⟨?_, k a⟩
  show (!p.1 || isFlat (xr a) || isRow (xr a)) = true
  rw [hs a]
  simp
/-- rows, each of something -/
def rowsG (l : List (List Int)) : Option Unit := if l.all (fun r => !r.isEmpty) = true then some () else none
theorem ints_toD : ∀ r : List Int, intsB (r.map toD) = true
  | [] => rfl
  | k :: r => by
    rw [List.map_cons]
    show intsB (.int k :: r.map toD) = true
    rw [intsB]
    exact ints_toD r
theorem rows_told {l : List (List Int)} (h : l.all (fun r => !r.isEmpty) = true) : told true (bow (toD l)) = true := by
  show (!true || (l.map toD).all isRow || intsB (l.map toD)) = true
  rw [Bool.not_true, Bool.false_or, Bool.or_eq_true]
  refine .inl ?_
  rw [List.all_eq_true]
  intro d hd
  obtain ⟨r, hr, rfl⟩ := List.mem_map.mp hd
  have := List.all_eq_true.mp h r hr
  cases r with
  | nil => cases this
  | cons k r =>
    exact ints_toD r
theorem j_methPO {os : List O} {bs : List B} {m1 : R β} {xr : β → List (List Int)} {ch : β → List (Nat × Sl)} {mk : β → R α} (h0 : (slotsOk [] 0 os && os.length == n) = true) (h1 : BdA Γ os bs) (hR : Rcv c fs i Γ (true, ds)) (hF : FnS F (.rs 9 (.tuple ds) :: bs) m1 (fun a => .o (toD (xr a))) ch)
    (k : ∀ a, J Γ (K (.b (bow (toD (xr a))))) (mk a) po) : J Γ (cMethP c fs i F n os K) (m1.bind fun a => ob (rowsG (xr a)) fun _ => mk a) po := j_methPG (p := (true, ds)) h0 h1 hR hF fun a b _ h => by
  have h' : some b = some (bow (toD (xr a))) := h
  cases h'
  by_cases hr : (xr a).all (fun r => !r.isEmpty) = true
  · refine .inl ⟨rows_told hr, ?_⟩
    have e1 : rowsG (xr a) = some () := if_pos hr
    rw [e1]
    exact k a
  · have e1 : rowsG (xr a) = none := if_neg hr
    rw [e1]
    exact .inr rfl
def cFMth (c f : Str) (i : Nat) (ds : List PyData) (fs : List Str) (ts : List Tr) (k : Nat) (g : List PyData → List PyData → Option (B × List PyData)) (as : List PyData) (K : O → KC) : KC := fun e1 => (g ds as).bind fun p => K (.b p.1) (e1.set i (some (.tr (.nd (.ins c fs) (ts.set k (.nd .lst (p.2.map .fr)))))))
theorem j_fmth {k : Nat} {us : List Tr} {g : List PyData → List PyData → Option (B × List PyData)} {fn : Str} (h : Γ[i]? = some (some (.t (.nd (.ins c fs) ts)))) (hk : fIx fn fs = some k) (ht : ts[k]? = some (.nd .lst us)) (hu : frsT us = some ds)
    (kk : J (Γ.set i none) (cX fd fun as => cFMth c fn i ds fs ts k g as K) m po) : J Γ (cX (fFMth c fn i g fd) K) m po := kk.to fun e he => ⟨e.set i none, he.drop i none, by
  have h1 : at? e i = some (.tr (.nd (.ins c fs) ts)) := he.hold i _ h
  show bndS (fFMth c fn i g fd e) K = _
  unfold fFMth
  rw [h1]
  dsimp only
  rw [if_pos rfl, hk, Option.bind_some, ht, Option.bind_some]
  dsimp only
  rw [hu, Option.bind_some, bndS_bnd]
  refine congrArg _ (funext fun as => funext fun e1 => ?_)
  unfold cFMth
  rw [bndS_ob]
  rfl⟩
theorem j_fmthop {k : Nat} {fn : Str} {g : List PyData → List PyData → Option (B × List PyData)} {as : List PyData} {r : Option β} {z : β → B} {es : β → List PyData} {y : β → Tr} {mk : β → R α} (hi : decide (i < Γ.length) = true) (hg : ∀ a, r = some a → g ds as = some (z a, es a)) (hy : ∀ a, Tr.nd (.ins c fs) (ts.set k (.nd .lst ((es a).map .fr))) = y a)
    (kk : ∀ a, J (Γ.set i (some (.t (y a)))) (K (.b (z a))) (mk a) po) : J Γ (cFMth c fn i ds fs ts k g as K) (ob r mk) po := j_ob fun a ha => (kk a).to fun e he => ⟨_, he.set (s := .t (y a)) (b := some (.tr (y a))) rfl, by
  unfold cFMth
  rw [hg a ha, Option.bind_some]
  dsimp only
  rw [hy a]⟩
def cFldSet (c f : Str) (i : Nat) (rest : FS) (o : O) : KC := fun e1 => (ownT e1 o).bind fun p => match at? p.2 i with
  | some (.tr (.nd (.ins c' fs) ts)) => if c' = c ∧ fIx f fs = none ∧ fs.length < 1000 then rest (p.2.set i (some (.tr (.nd (.ins c' (fs ++ [f])) (ts ++ [p.1]))))) else none
  | _ => none
theorem j_fldset {fn : Str} (k : J Γ (cX f fun o => cFldSet c fn i rest o) m po) : J Γ (sSeq (sFldSet c fn i f) rest) m po := k.eq (funext fun e => by
  show (match bndS (f e) (fun o e1 => (ownT e1 o).bind fun p => match at? p.2 i with
    | some (.tr (.nd (.ins c' fs) ts)) => if c' = c ∧ fIx fn fs = none ∧ fs.length < 1000 then some (SO.nx (p.2.set i (some (.tr (.nd (.ins c' (fs ++ [fn])) (ts ++ [p.1])))))) else none
    | _ => none) with
    | some (.nx e2) => rest e2
    | r => r) = bndS (f e) fun o => cFldSet c fn i rest o
  cases f e with
  | none => rfl
  | some r =>
    cases r with
    | ex c e1 => rfl
    | ok o e1 =>
      show (match (ownT e1 o).bind _ with
        | some (SO.nx e2) => rest e2
        | r => r) = cFldSet c fn i rest o e1
      unfold cFldSet
      cases ownT e1 o with
      | none => rfl
      | some p =>
        rw [Option.bind_some, Option.bind_some]
        cases at? p.2 i with
        | none => rfl
        | some b =>
          cases b with
          | tr t =>
            cases t with
            | fr d => rfl
            | nd k ts =>
              cases k with
              | lst => rfl
              | tup => rfl
              | ins c' fs =>
                dsimp only
                by_cases hc : c' = c ∧ fIx fn fs = none ∧ fs.length < 1000
                · rw [if_pos hc, if_pos hc]
                · rw [if_neg hc, if_neg hc]
          | _ => rfl)
theorem fldset_put {fn : Str} {e e' : VL.Env} {tt : Tr} (ho : ownT e o = some (tt, e')) (h : Γ[i]? = some (some (.t (.nd (.ins c fs) ts)))) (hc : Cov Γ e') (hx : ((fIx fn fs).isNone && decide (fs.length < 1000)) = true) : cFldSet c fn i rest o e = rest (e'.set i (some (.tr (.nd (.ins c (fs ++ [fn])) (ts ++ [tt]))))) := by
  have h1 : at? e' i = some (.tr (.nd (.ins c fs) ts)) := hc.hold i _ h
  rw [Bool.and_eq_true] at hx
  unfold cFldSet
  rw [ho, Option.bind_some]
  dsimp only
  rw [h1]
  dsimp only
  rw [if_pos ⟨rfl, Option.isNone_iff_eq_none.mp hx.1, of_decide_eq_true hx.2⟩]
/-- flat, from a name -/
theorem j_fldsetD {fn : Str} (hq : Γ[q]? = some (some (.d x))) (hf : isFlat x = true) (h : Γ[i]? = some (some (.t (.nd (.ins c fs) ts)))) (hx : ((fIx fn fs).isNone && decide (fs.length < 1000)) = true) (k : J (Γ.set i (some (.t (.nd (.ins c (fs ++ [fn])) (ts ++ [.fr x]))))) rest m po) : J Γ (cFldSet c fn i rest (.s q)) m po := k.to fun e he => ⟨_, he.set (s := .t (.nd (.ins c (fs ++ [fn])) (ts ++ [Tr.fr x]))) (b := some (.tr (.nd (.ins c (fs ++ [fn])) (ts ++ [Tr.fr x])))) rfl, by
  have h1 : (at? e q).bind B.dat = some x := he.hold q _ hq
  refine fldset_put (o := .s q) (e := e) (e' := e) ?_ h he hx
  cases qb : at? e q with
  | none => rw [qb] at h1; cases h1
  | some b =>
    rw [qb] at h1
    have := solid_fr (b := b) h1 (by cases x <;> first | rfl | cases hf)
    subst this
    show (match at? e q with
      | some (.fr d) => some (Tr.fr d, e)
      | some b => (trOf b).map fun t => (t, e.set q none)
      | none => none) = _
    rw [qb]⟩
/-- a new list of nothing -/
theorem j_fldsetB {fn : Str} {tt : Tr} (hb : trOf b = some tt) (h : Γ[i]? = some (some (.t (.nd (.ins c fs) ts)))) (hx : ((fIx fn fs).isNone && decide (fs.length < 1000)) = true) (k : J (Γ.set i (some (.t (.nd (.ins c (fs ++ [fn])) (ts ++ [tt]))))) rest m po) : J Γ (cFldSet c fn i rest (.b b)) m po := k.to fun e he => ⟨_, he.set (s := .t (.nd (.ins c (fs ++ [fn])) (ts ++ [tt]))) (b := some (.tr (.nd (.ins c (fs ++ [fn])) (ts ++ [tt])))) rfl, by
  refine fldset_put (o := .b b) (e := e) (e' := e) ?_ h he hx
  show (trOf b).map _ = _
  rw [hb]
  rfl⟩
def cMake (c : Str) (F : Fn) (n : Nat) (os : List O) (K : O → KC) : KC := fun e1 => if (slotsOk [] 0 os && os.length == n) = true then (bindO e1 os).bind fun bs => match F (.tr (.nd (.ins c []) []) :: bs) with
  | some (.ret (.fr .none) e2) => (at? e2 0).bind fun b => match b with
    | .tr t => K (.b (.tr t)) e1
    | _ => none
  | some (.ex x _) => some (.ex x e1)
  | _ => none else none
theorem j_make (k : J Γ (cX r fun os => cMake c F n os K) m po) : J Γ (cX (fMake c F n r) K) m po := k.eq (funext fun e => by
  show bndS (fMake c F n r e) K = _
  unfold fMake
  rw [bndS_bnd]
  refine congrArg _ (funext fun os => funext fun e1 => ?_)
  unfold cMake
  split
  · rw [bndS_ob]
    refine congrArg _ (funext fun bs => ?_)
    cases F (.tr (.nd (.ins c []) []) :: bs) with
    | none => rfl
    | some fr =>
      cases fr with
      | ex c e2 => rfl
      | ret b e2 =>
        cases b with
        | fr d =>
          cases d with
          | none =>
            dsimp only
            rw [bndS_ob]
            refine congrArg _ (funext fun b => ?_)
            cases b <;> rfl
          | _ => rfl
        | _ => rfl
  · rfl)
theorem j_makeop {os : List O} {bs : List B} {m1 : R β} {xr : β → Tr} {mk : β → R α} (h0 : (slotsOk [] 0 os && os.length == n) = true) (h1 : BdA Γ os bs) (hF : FnS F (.tr (.nd (.ins c []) []) :: bs) m1 (fun _ => .d .none) fun a => [(0, .t (xr a))])
    (k : ∀ a, J Γ (K (.b (.tr (xr a)))) (mk a) po) : J Γ (cMake c F n os K) (m1.bind mk) po := fun e he => by
  unfold cMake
  rw [if_pos h0, h1 e he, Option.bind_some]
  unfold FnS at hF
  cases m1 with
  | no => trivial
  | ex c =>
    obtain ⟨e2, q⟩ := hF
    rw [q]
    exact ⟨_, rfl⟩
  | ok a =>
    obtain ⟨b, e2, q, q2, q3⟩ := hF
    have := solid_fr (b := b) q2 rfl
    subst this
    have h3 : at? e2 0 = some (.tr (xr a)) := q3 _ List.mem_cons_self
    rw [q]
    dsimp only
    rw [h3]
    exact k a e he
end TM
set_option maxRecDepth 100000
namespace TM
open PySem L2 VL PySem.W PySem.SeqAt
open PySem.W.Datum (toD)
variable {Γ Γ' Γ1 Γ2 Γl : Ctx} {α β σ τ γ δ υ : Type} {m : R α} {po : α → PO} {t : FT} {n : Nat} {l : List Nat}
theorem flat_oi (o : Option Int) : isFlat (toD o) = true := by cases o <;> rfl
end TM
set_option maxRecDepth 100000
namespace TM
open PySem L2 VL PySem.W PySem.SeqAt
open PySem.W.Datum (toD)
variable {Γ Γ' Γ1 : Ctx} {α β σ τ : Type} {m : R α} {po : α → PO} {K : O → KC} {f : FE} {rest : FS}
def cUnp (js : List Nat) (o : O) (rest : FS) : KC := fun e => (ownT e o).bind fun p => match p.1 with
  | .nd .lst ts => (unpE js ts p.2).bind fun e2 => rest e2
  | _ => none
theorem j_unp {js : List Nat} (k : J Γ (cX f fun o => cUnp js o rest) m po) : J Γ (sSeq (sUnp js f) rest) m po := k.eq (funext fun e => by
  show thn (bndS (f e) fun o e1 => (ownT e1 o).bind fun p => match p.1 with
    | .nd .lst ts => (unpE js ts p.2).bind fun e2 => some (.nx e2)
    | _ => none) rest = _
  rw [thn_bndS]
  refine congrArg _ (funext fun a => funext fun e1 => ?_)
  rw [thn_ob]
  refine congrArg _ (funext fun p => ?_)
  split
  · rw [thn_ob]; rfl
  · rfl)
def unp4 (xs : List Ls) (mk : Ls → Ls → Ls → Ls → R α) : R α := match xs with
  | [a, b, c, d] => mk a b c d
  | _ => .no
theorem j_unpb {i1 i2 i3 i4 : Nat} {xs : List Ls} {mk : Ls → Ls → Ls → Ls → R α} (h1 : i1 < Γ.length) (h2 : i2 < Γ.length) (h3 : i3 < Γ.length) (h4 : i4 < Γ.length)
    (k : ∀ a b c d, J ((((Γ.set i1 (some (.t a.tr))).set i2 (some (.t b.tr))).set i3 (some (.t c.tr))).set i4 (some (.t d.tr))) rest (mk a b c d) po) : J Γ (cUnp [i1, i2, i3, i4] (.b (.tr (trL Ls.tr xs))) rest) (unp4 xs mk) po := by
  unfold unp4
  split
  · rename_i a b c d
    refine (k a b c d).to fun e he => ⟨_, (((he.set (s := .t a.tr) (b := some (.tr a.tr)) rfl).set (s := .t b.tr) (b := some (.tr b.tr)) rfl).set (s := .t c.tr) (b := some (.tr c.tr)) rfl).set (s := .t d.tr) (b := some (.tr d.tr)) rfl, ?_⟩
    show (unpE [i1, i2, i3, i4] [a.tr, b.tr, c.tr, d.tr] e).bind (fun e2 => rest e2) = _
    have hl := he.len
    unfold unpE
    rw [if_pos (by omega)]
    show (unpE [i2, i3, i4] [b.tr, c.tr, d.tr] _).bind (fun e2 => rest e2) = _
    unfold unpE
    rw [if_pos (by rw [List.length_set]; omega)]
    show (unpE [i3, i4] [c.tr, d.tr] _).bind (fun e2 => rest e2) = _
    unfold unpE
    rw [if_pos (by rw [List.length_set, List.length_set]; omega)]
    show (unpE [i4] [d.tr] _).bind (fun e2 => rest e2) = _
    unfold unpE
    rw [if_pos (by rw [List.length_set, List.length_set, List.length_set]; omega)]
    rfl
  · intro e he; trivial
def cI (fa : Nat → FE) (vs : List Nat) (K : O → KC) (js : List Nat) (acc : List Tr) : KC := fun e => bndS (fLcIL fa vs js acc e) K
theorem lcI_nil : ∀ j ∈ ([] : List Nat), ∃ T, Γ[j]? = some (some (.t T)) := fun j h => nomatch h
theorem lcI_cons {j : Nat} {js : List Nat} {T : Tr} (h : Γ[j]? = some (some (.t T))) (hs : ∀ j ∈ js, ∃ T, Γ[j]? = some (some (.t T))) : ∀ j' ∈ j :: js, ∃ T, Γ[j']? = some (some (.t T)) := fun j' hj => by
  rcases List.mem_cons.mp hj with rfl | hj
  · exact ⟨_, h⟩
  · exact hs j' hj
theorem j_lcI {fa : Nat → FE} {vs js : List Nat} {iv : Nat} (hj : ∀ j ∈ js, ∃ T, Γ[j]? = some (some (.t T))) (hv : ∀ j ∈ js, j ∉ vs) (hl : js.length ≤ big) (hi : iv < Γ.length) (hd : deadOk vs Γ = true) (k : J Γ (cI fa vs K js []) m po) : J Γ (cX (fLcI iv js fa vs) K) m po := k.to fun e he => ⟨VL.forget vs e, he.forget vs hd, by
  show bndS (fLcI iv js fa vs e) K = _
  have hlen := he.len
  have h1 : js.all (fun j => (at? e j).isSome && decide (j ∉ vs)) = true := by
    rw [List.all_eq_true]
    intro j h
    obtain ⟨T, hT⟩ := hj j h
    have h2 : at? e j = some (.tr T) := he.hold j _ hT
    rw [h2]
    simpa using hv j h
  unfold fLcI
  rw [if_pos ⟨h1, hl, by omega⟩]
  rfl⟩
theorem j_lcIe {fa : Nat → FE} {vs : List Nat} {acc : List Tr} {ds : List PyData} (h : frsT acc = some ds) (k : J Γ (K (.b (bow (.list ds)))) m po) : J Γ (cI fa vs K [] acc) m po := k.eq (funext fun e => by
  show bndS ((frsT acc).map fun ds => Out.ok (O.b (.ow ds)) e) K = _
  rw [h]
  rfl)
theorem j_lcIm {c mn : Str} {fs gs : List Str} {ts : List Tr} {j : Nat} {F : Fn} {vs js : List Nat} {acc : List Tr} {p : Bool × List PyData} {m1 : R β} {xr : β → PyData} {ch : β → List (Nat × Sl)} {mk : β → R α}
    (hi : Γ[j]? = some (some (.t (.nd (.ins c gs) ts)))) (hm : fIx mn gs = none) (hR : Rcv c fs j Γ p) (hF : FnS F [.rs 9 (.tuple p.2)] m1 (fun a => .d (xr a)) ch) (hs : ∀ a, isFlat (xr a) = true) (hb : acc.length < big) (hd : deadOk vs Γ = true)
    (k : ∀ a, J Γ (cI (fun i => fMethP c mn fs i F 0 aNil) vs K js (acc ++ [.fr (xr a)])) (mk a) po) : J Γ (cI (fun i => fMethP c mn fs i F 0 aNil) vs K (j :: js) acc) (m1.calm.bind mk) po := fun e he => by
  cases m1 with
  | no => trivial
  | ex c' => trivial
  | ok a =>
    unfold FnS at hF
    obtain ⟨b, e2, q, q2, q3⟩ := hF
    have h' : b.dat = some (xr a) := q2
    have hb' := solid_fr h' (by have := hs a; cases q : xr a <;> rw [q] at this <;> first | rfl | cases this)
    subst hb'
    have h1 : at? e j = some (.tr (.nd (.ins c gs) ts)) := he.hold j _ hi
    have hI : isI c mn fs j e = true := by
      unfold isI
      rw [h1]
      simp [hm]
    have ht : told p.1 (.fr (xr a)) = true := by
      show (!p.1 || isFlat (xr a) || isRow (xr a)) = true
      rw [hs a]
      simp
    have hM : fMethP c mn fs j F 0 aNil e = some (.ok (.b (.fr (xr a))) e) := by
      unfold fMethP
      rw [if_pos hI]
      show ((recv c fs j e).bind fun p => match F (.rs 9 (.tuple p.2) :: []) with
        | some (.ret b _) => if told p.1 b = true then some (Out.ok (O.b b) e) else none
        | some (.ex x _) => some (.ex x e)
        | none => none) = _
      rw [hR e he, Option.bind_some, q]
      dsimp only
      rw [if_pos ht]
    have hL : fLcIL (fun i => fMethP c mn fs i F 0 aNil) vs (j :: js) acc e = fLcIL (fun i => fMethP c mn fs i F 0 aNil) vs js (acc ++ [.fr (xr a)]) (VL.forget vs e) := by
      rw [fLcIL]
      unfold lcTurn
      show (match fMethP c mn fs j F 0 aNil e with
        | some (.ok o e3) => (ownT e3 o).bind fun p => if acc.length < big then fLcIL (fun i => fMethP c mn fs i F 0 aNil) vs js (acc ++ [p.1]) (VL.forget vs p.2) else none
        | _ => none) = _
      rw [hM]
      show (if acc.length < big then _ else none) = _
      rw [if_pos hb]
    have := k a (VL.forget vs e) (he.forget vs hd)
    unfold cI at this ⊢
    rw [hL]
    exact this
instance : Lay (List (Option Int)) := ⟨lay_lst, by decide⟩
theorem j_lcIx {υ : Type} [DecidableEq υ] [Datum υ] {fa : Nat → FE} {vs : List Nat} {acc : List Tr} (xs : List υ) (h : frsT acc = some (xs.map toD)) (k : J Γ (K (.b (bow (toD xs)))) m po) : J Γ (cI fa vs K [] acc) m po := j_lcIe h k
end TM
set_option maxRecDepth 100000
namespace TM
open PySem L2 VL VP PySem.W PySem.SeqAt Datum
variable {Γ : Ctx} {α : Type} {po : α → PO} {f : FE} {m : R α}
theorem j_tt (k : J Γ (cX f kF) m po) : J Γ (cX tTrue fun b => match b with
  | true => cX f kF
  | false => kSkip) m po := k
/-- the pools and the place -/
abbrev Dk := List Pl × Int
def DkOk (d : Dk) : Prop := 0 < d.1.length ∧ 0 ≤ d.2
def m__law_draw (d : Dk) (many : Int) : R (Int × Dk) :=
  if drawOk d.1 d.2 many = true then ob (d.1[drawJ d.1 d.2]?) fun p => .ok ((drawP p many).1, (d.1.set (drawJ d.1 d.2) (drawP p many).2, d.2 + 1)) else .no
theorem sim__law_draw (d : Dk) (many : Int) : FnS h__law_draw [.rs 0 (encD d.1 d.2), .fr (toD many)] (m__law_draw d many) (fun a => .d (toD a.1)) (fun a => [(0, .rs 0 (encD a.2.1 a.2.2))]) := by
  have hF : h__law_draw [.rs 0 (encD d.1 d.2), .fr (toD many)] = if drawOk d.1 d.2 many = true then (d.1[drawJ d.1 d.2]?).bind fun p => some (FR.ret (.fr (.int (drawP p many).1)) [some (.rs 0 (encD (d.1.set (drawJ d.1 d.2) (drawP p many).2) (d.2 + 1)))]) else none := by
    show (match decD (encD d.1 d.2) with
      | some (ps, i) => if drawOk ps i many = true then (ps[drawJ ps i]?).bind fun p => some (FR.ret (.fr (.int (drawP p many).1)) [some (.rs 0 (encD (ps.set (drawJ ps i) (drawP p many).2) (i + 1)))]) else none
      | none => none) = _
    rw [decD_enc]
  by_cases hd : drawOk d.1 d.2 many = true
  · rw [if_pos hd] at hF
    have hm : m__law_draw d many = ob (d.1[drawJ d.1 d.2]?) fun p => .ok ((drawP p many).1, (d.1.set (drawJ d.1 d.2) (drawP p many).2, d.2 + 1)) := if_pos hd
    rw [hm]
    cases q : d.1[drawJ d.1 d.2]? with
    | none => trivial
    | some p =>
      rw [q] at hF
      exact ⟨_, _, hF, rfl, fun q hq => by
        rw [List.mem_singleton] at hq
        subst hq
        rfl⟩
  · have hm : m__law_draw d many = .no := if_neg hd
    rw [hm]
    trivial
theorem draw_spec {d : Dk} {many : Int} (h : DkOk d) (h1 : 0 < many) (h2 : many < 2 ^ 64) : ∃ v d', m__law_draw d many = .ok (v, d') ∧ 0 ≤ v ∧ v < many ∧ DkOk d' := by
  obtain ⟨hp, hi⟩ := h
  have hm := Int.emod_nonneg d.2 (b := (d.1.length : Int)) (by omega)
  have hm2 := Int.emod_lt_of_pos d.2 (b := (d.1.length : Int)) (by omega)
  have hj : drawJ d.1 d.2 < d.1.length := by unfold drawJ; omega
  obtain ⟨v1, v2⟩ := drawP_nonneg (p := d.1[drawJ d.1 d.2]) h1
  refine ⟨_, (d.1.set (drawJ d.1 d.2) (drawP d.1[drawJ d.1 d.2] many).2, d.2 + 1), ?_, v1, v2, by show 0 < (d.1.set _ _).length; rw [List.length_set]; exact hp, by show 0 ≤ d.2 + 1; omega⟩
  unfold m__law_draw
  rw [if_pos (show drawOk d.1 d.2 many = true from drawOk_iff.mpr ⟨hp, hi, h1, h2⟩), List.getElem?_eq_getElem hj]
  rfl
def deckN (ns : List Int) : Nat := max 1 (min 63 ns.length)
def m__law_deck (ns : List Int) : R Dk := .ok ((List.range (deckN ns)).foldl (fun s i => s ++ [plOf ns i]) [], 0)
theorem sim__law_deck (ns : List Int) : FnS h__law_deck [.sc ns] (m__law_deck ns) (fun a => .rs 0 (encD a.1 a.2)) (fun a => []) := by
  obtain ⟨e, h⟩ := t__law_deckX ns
  exact ⟨_, e, h, rfl, fun p hp => nomatch hp⟩
end TM
set_option maxRecDepth 100000
set_option maxHeartbeats 0
namespace TM
open PySem VL VP PySem.W.Datum PySem.SeqAt
open PySem.W (Datum Tup)
open L2 (atI ixN)
def m__law_order (deck : Dk) (n : Int) : R (((List Int) × Dk)) :=
  ob (lrg1 n) fun v1 =>
  R.bind (m__law_draw deck ((4 : Int))) fun v2 =>
  if (decide (v2.1 = (0 : Int))) = true then
  (ob (rg1 n) fun xs3 =>
  R.bind (lcS (fun (s9 : (Dk × (List Int))) (x4 : Int) => R.calm (R.bind (m__law_draw s9.1 ((s9.2.length : Int))) fun v10 =>
  ob (popI s9.2 v10.1) fun v11 =>
  .ok (some v11.1, (v10.2, v11.2)))) xs3 [] (v2.2, v1)) fun ys12 =>
  .ok ((ys12.1, ys12.2.1)))
  else
  (R.bind (if (decide (v2.1 = (1 : Int))) = true then
  (.ok ((v1.reverse)))
  else
  (.ok v1)) fun (s13 : (List Int)) =>
  R.bind (R.bind (m__law_draw v2.2 ((7 : Int))) fun v14 =>
  ob (mulI v14.1 ((b2i ((decide ((1 : Int) < n)))))) fun v15 =>
  ob (rg1 v15) fun xs16 =>
  foldM (fun (s27 : (Dk × (List Int))) (x28 : Int) =>
  R.bind (m__law_draw s27.1 ((n - (1 : Int)))) fun v29 =>
  ob (atI s27.2 ((v29.1 + (1 : Int)))) fun v30 =>
  ob (atI s27.2 v29.1) fun v31 =>
  ob (setI s27.2 v29.1 v30) fun v32 =>
  ob (setI v32 ((v29.1 + (1 : Int))) v31) fun v33 =>
  .ok ((v29.2, v33))) xs16 ((v14.2, s13))) fun (s34 : (Dk × (List Int))) =>
  .ok ((s34.2, s34.1)))
theorem sim__law_order (deck : Dk) (n : Int) : FnS h__law_order [.rs 0 (encD deck.1 deck.2), .fr (toD (n : Int))] (m__law_order deck n) (fun a : ((List Int) × Dk) => .o (toD (a.1 : (List Int)))) (fun a : ((List Int) × Dk) => [(0, (.rs 0 (encD a.2.1 a.2.2)))]) :=
  fn_mk (n := 4) (rv := fun a : ((List Int) × Dk) => .o (toD (a.1 : (List Int)))) (ss := [(.rs 0 (encD deck.1 deck.2)), (.d (toD (n : Int)))]) (Γe := fun a : ((List Int) × Dk) => [some (.rs 0 (encD a.2.1 a.2.2)), none, none, none, none, none]) rfl (.cons rfl (.cons rfl All2.nil)) rfl
  (j_own (j_lr1 (j_var rfl (j_lr1op (rd_d rfl)  fun v1 => (j_ownb (j_setO (j_asg (j_call (j_aM rfl (j_aF (j_c (j_fzb (fzb_of fz_b) (j_anil (j_callF rfl (ba_rs rfl (ba_b ba_nil)) (sim__law_draw deck ((4 : Int))) (fun _ => rfl) (fun _ => rfl) fun v2 => (j_fzb (fzb_of fz_b) (j_setD (j_if (j_test (j_bin (j_var rfl (j_c (j_op (rd_d rfl) rd_b (x_eq (τ := Int)) (j_bool rd_b (j_ite (j_ret (j_lc (j_iRg1 (j_var rfl (j_rg1 (rd_d rfl) fun xs3 => (j_lcG (Γs := fun (s9 : (Dk × (List Int))) => [some (.rs 0 (encD s9.1.1 s9.1.2)), some (.d (toD (n : Int))), some (.o (toD (s9.2 : (List Int)))), some (.d (toD (v2.1 : Int))), none, none]) (l := [1, 1, 1, 1, 0, 0]) (D := toD) (E := toD) (xr := fun a => toD a) (v2.2, v1) rfl (fun _ => rfl) (fun s9 x4 => (j_gN (j_tt (j_mth (j_chk rfl rfl (j_dcons (j_call (j_aM rfl (j_aF (j_cb (j_acons (j_var rfl (j_anil (j_cbop (ra_cons (rd_o rfl) ra_nil) (x_len (τ := Int)) (j_fzb (fzb_of fz_b) (j_anil (j_callF rfl (ba_rs rfl (ba_b ba_nil)) (sim__law_draw s9.1 ((s9.2.length : Int))) (fun _ => rfl) (fun _ => rfl) fun v10 => (j_fz fz_b (j_dnil (j_mthopR (z := fun a => .fr (toD a.1)) (es := fun a => a.2.map toD) (y := fun a => toD a.2) rfl (x_popI (τ := Int)) (fun _ => rfl) fun v11 => (j_kf (l := [1, 1, 1, 1, 0, 0]) fz_b rfl rfl))))))))))))))))))))) (fun _ => rfl) fun ys12 => (j_retb (l := [1, 0, 0, 0, 0, 0]) sl_o rfl rfl))))))) (j_seqNil (j_seq (Γs := fun (s13 : (List Int)) => [some (.rs 0 (encD v2.2.1 v2.2.2)), some (.d (toD (n : Int))), some (.o (toD (s13 : (List Int)))), some (.d (toD (v2.1 : Int))), none, none]) (j_if1 (j_test (j_bin (j_var rfl (j_c (j_op (rd_d rfl) rd_b (x_eq (τ := Int)) (j_bool rd_b (j_ite (j_last (j_own (j_un (j_var rfl (j_unop (rd_o rfl) (x_rev (τ := Int)) (j_ownb (j_setO (j_nil (l := [1, 1, 1, 1, 0, 0]) rfl rfl)))))))) (j_nil (l := [1, 1, 1, 1, 0, 0]) rfl rfl))))))))) fun s13 => (j_seq (Γs := fun (s27 : (Dk × (List Int))) => [some (.rs 0 (encD s27.1.1 s27.1.2)), some (.d (toD (n : Int))), some (.o (toD (s27.2 : (List Int)))), some (.d (toD (v2.1 : Int))), none, none]) (j_sFor (j_iRg1 (j_bin (j_call (j_aM rfl (j_aF (j_c (j_fzb (fzb_of fz_b) (j_anil (j_callF rfl (ba_rs rfl (ba_b ba_nil)) (sim__law_draw v2.2 ((7 : Int))) (fun _ => rfl) (fun _ => rfl) fun v14 => (j_cb (j_acons (j_bin (j_var rfl (j_c (j_op (rd_d rfl) rd_b x_gt (j_anil (j_cbop (ra_cons rd_b ra_nil) x_intB (j_opR rd_b rd_b x_mulR fun v15 => (j_rg1 rd_b fun xs16 => (j_for (l := [1, 1, 1, 1, 0, 0]) (D := toD) (Γs := fun (s27 : (Dk × (List Int))) => [some (.rs 0 (encD s27.1.1 s27.1.2)), some (.d (toD (n : Int))), some (.o (toD (s27.2 : (List Int)))), some (.d (toD (v2.1 : Int))), none, none]) ((v14.2, s13)) rfl (fun _ => rfl) fun s27 x28 => (j_gN (j_asg (j_call (j_aM rfl (j_aF (j_bin (j_var rfl (j_c (j_op (rd_d rfl) rd_b x_sub (j_fzb (fzb_of fz_b) (j_anil (j_callF rfl (ba_rs rfl (ba_b ba_nil)) (sim__law_draw s27.1 ((n - (1 : Int)))) (fun _ => rfl) (fun _ => rfl) fun v29 => (j_fzb (fzb_of fz_b) (j_setD (j_last (j_put2 (j_dcons (j_bin (j_var rfl (j_bin (j_var rfl (j_c (j_op (rd_d rfl) rd_b x_add (j_opR (rd_o rfl) rd_b (x_ix (τ := Int)) fun v30 => (j_fz fz_b (j_dcons (j_bin (j_var rfl (j_var rfl (j_opR (rd_o rfl) (rd_d rfl) (x_ix (τ := Int)) fun v31 => (j_fz fz_b (j_dnil (j_has rfl (j_var rfl (j_putI (y := fun a => toD a) rfl (rd_d rfl) (x_set (τ := Int) _) fun v32 => (j_has rfl (j_bin (j_var rfl (j_c (j_op (rd_d rfl) rd_b x_add (j_putI (y := fun a => toD a) rfl rd_b (x_set (τ := Int) _) fun v33 => (j_nil (l := [1, 1, 1, 1, 0, 0]) rfl rfl))))))))))))))))))))))))))))))))))))))))))))))))))))))))))))))) fun s34 => (j_last (j_ret (j_var rfl (j_rets (l := [1, 0, 0, 0, 0, 0]) rfl (fun _ => sl_id) rfl rfl))))))))))))))))))))))))))))))) (fun a p hp => by
    simp only [List.mem_cons, List.not_mem_nil, or_false] at hp
    subst hp; rfl)
def m__law_near (deck : Dk) (order : (List Int)) : R (((List Int) × Dk)) :=
  R.bind (m__law_draw deck ((5 : Int))) fun v1 =>
  if (decide (v1.1 = (0 : Int))) = true then
  (R.bind (m__law_order v1.2 ((order.length : Int))) fun v2 =>
  .ok ((v2.1, v2.2)))
  else
  (if (decide (v1.1 = (1 : Int))) = true then
  (.ok (((order.reverse), v1.2)))
  else
  (if (decide (v1.1 = (2 : Int))) = true then
  (R.bind (m__law_draw v1.2 ((order.length : Int))) fun v3 =>
  ob (popI order v3.1) fun v4 =>
  R.bind (m__law_draw v3.2 ((order.length : Int))) fun v5 =>
  ob (insL v4.2 v5.1 v4.1) fun v6 =>
  .ok ((v6, v5.2)))
  else
  (R.bind (R.bind (m__law_draw v1.2 ((5 : Int))) fun v7 =>
  ob (rg1 v7.1) fun xs8 =>
  foldM (fun (s23 : (Dk × (List Int))) (x24 : Int) =>
  R.bind (m__law_draw s23.1 ((order.length : Int))) fun v25 =>
  R.bind (m__law_draw v25.2 ((order.length : Int))) fun v26 =>
  ob (atI ([v26.1, (min2 (((order.length : Int) - (1 : Int))) ((v25.1 + (1 : Int))))]) ((v1.1 - (3 : Int)))) fun v27 =>
  ob (atI s23.2 v27) fun v28 =>
  ob (atI s23.2 v25.1) fun v29 =>
  ob (setI s23.2 v25.1 v28) fun v30 =>
  ob (setI v30 v27 v29) fun v31 =>
  .ok ((v26.2, v31))) xs8 ((v7.2, order))) fun (s32 : (Dk × (List Int))) =>
  .ok ((s32.2, s32.1)))))
theorem sim__law_near (deck : Dk) (order : (List Int)) : FnS h__law_near [.rs 0 (encD deck.1 deck.2), .fr (toD (order : (List Int)))] (m__law_near deck order) (fun a : ((List Int) × Dk) => .o (toD (a.1 : (List Int)))) (fun a : ((List Int) × Dk) => [(0, (.rs 0 (encD a.2.1 a.2.2)))]) :=
  fn_mk (n := 7) (rv := fun a : ((List Int) × Dk) => .o (toD (a.1 : (List Int)))) (ss := [(.rs 0 (encD deck.1 deck.2)), (.d (toD (order : (List Int))))]) (Γe := fun a : ((List Int) × Dk) => [some (.rs 0 (encD a.2.1 a.2.2)), none, none, none, none, none, none, none, none]) rfl (.cons rfl (.cons rfl All2.nil)) rfl
  (j_own (j_cb (j_acons (j_var rfl (j_anil (j_cbop (ra_cons (rd_d rfl) ra_nil) (x_list (τ := Int)) (j_ownb (j_setO (j_asg (j_cb (j_acons (j_var rfl (j_anil (j_cbop (ra_cons (rd_d rfl) ra_nil) (x_len (τ := Int)) (j_fzb (fzb_of fz_b) (j_setD (j_asg (j_call (j_aM rfl (j_aF (j_c (j_fzb (fzb_of fz_b) (j_anil (j_callF rfl (ba_rs rfl (ba_b ba_nil)) (sim__law_draw deck ((5 : Int))) (fun _ => rfl) (fun _ => rfl) fun v1 => (j_fzb (fzb_of fz_b) (j_setD (j_if (j_test (j_bin (j_var rfl (j_c (j_op (rd_d rfl) rd_b (x_eq (τ := Int)) (j_bool rd_b (j_ite (j_ret (j_call (j_aM rfl (j_aF (j_var rfl (j_fzb (fzb_of (fz_d rfl)) (j_anil (j_callO rfl (ba_rs rfl (ba_b ba_nil)) (sim__law_order v1.2 ((order.length : Int))) (fun _ => rfl) fun v2 => (j_retb (l := [1, 0, 0, 0, 0, 0, 0, 0, 0]) sl_o rfl rfl))))))))) (j_seqNil (j_if (j_test (j_bin (j_var rfl (j_c (j_op (rd_d rfl) rd_b (x_eq (τ := Int)) (j_bool rd_b (j_ite (j_ret (j_un (j_var rfl (j_unop (rd_o rfl) (x_rev (τ := Int)) (j_retb (l := [1, 0, 0, 0, 0, 0, 0, 0, 0]) sl_o rfl rfl))))) (j_seqNil (j_if (j_test (j_bin (j_var rfl (j_c (j_op (rd_d rfl) rd_b (x_eq (τ := Int)) (j_bool rd_b (j_ite (j_assoc (j_asg (j_mth (j_chk rfl rfl (j_dcons (j_call (j_aM rfl (j_aF (j_var rfl (j_fzb (fzb_of (fz_d rfl)) (j_anil (j_callF rfl (ba_rs rfl (ba_b ba_nil)) (sim__law_draw v1.2 ((order.length : Int))) (fun _ => rfl) (fun _ => rfl) fun v3 => (j_fz fz_b (j_dnil (j_mthopR (z := fun a => .fr (toD a.1)) (es := fun a => a.2.map toD) (y := fun a => toD a.2) rfl (x_popI (τ := Int)) (fun _ => rfl) fun v4 => (j_fzb (fzb_of fz_b) (j_setD (j_assoc (j_expr (j_mth (j_chk rfl rfl (j_dcons (j_call (j_aM rfl (j_aF (j_var rfl (j_fzb (fzb_of (fz_d rfl)) (j_anil (j_callF rfl (ba_rs rfl (ba_b ba_nil)) (sim__law_draw v3.2 ((order.length : Int))) (fun _ => rfl) (fun _ => rfl) fun v5 => (j_fz fz_b (j_dcons (j_var rfl (j_fz (fz_d rfl) (j_dnil (j_mthopR (z := fun _ => .fr .none) (es := fun a => a.map toD) (y := fun a => toD a) rfl (x_ins (τ := Int)) (fun _ => rfl) fun v6 => (j_ret (j_var rfl (j_rets (l := [1, 0, 0, 0, 0, 0, 0, 0, 0]) rfl (fun _ => sl_id) rfl rfl)))))))))))))))))))))))))))))))))))))) (j_seqNil (j_seq (Γs := fun (s23 : (Dk × (List Int))) => [some (.rs 0 (encD s23.1.1 s23.1.2)), some (.d (toD (order : (List Int)))), some (.o (toD (s23.2 : (List Int)))), some (.d (toD ((order.length : Int) : Int))), some (.d (toD (v1.1 : Int))), none, none, none, none]) (j_sFor (j_iRg1 (j_call (j_aM rfl (j_aF (j_c (j_fzb (fzb_of fz_b) (j_anil (j_callF rfl (ba_rs rfl (ba_b ba_nil)) (sim__law_draw v1.2 ((5 : Int))) (fun _ => rfl) (fun _ => rfl) fun v7 => (j_rg1 rd_b fun xs8 => (j_for (l := [1, 1, 1, 1, 1, 0, 0, 0, 0]) (D := toD) (Γs := fun (s23 : (Dk × (List Int))) => [some (.rs 0 (encD s23.1.1 s23.1.2)), some (.d (toD (order : (List Int)))), some (.o (toD (s23.2 : (List Int)))), some (.d (toD ((order.length : Int) : Int))), some (.d (toD (v1.1 : Int))), none, none, none, none]) ((v7.2, order)) rfl (fun _ => rfl) fun s23 x24 => (j_gN (j_asg (j_call (j_aM rfl (j_aF (j_var rfl (j_fzb (fzb_of (fz_d rfl)) (j_anil (j_callF rfl (ba_rs rfl (ba_b ba_nil)) (sim__law_draw s23.1 ((order.length : Int))) (fun _ => rfl) (fun _ => rfl) fun v25 => (j_fzb (fzb_of fz_b) (j_setD (j_asg (j_bin (j_lst (j_dcons (j_call (j_aM rfl (j_aF (j_var rfl (j_fzb (fzb_of (fz_d rfl)) (j_anil (j_callF rfl (ba_rs rfl (ba_b ba_nil)) (sim__law_draw v25.2 ((order.length : Int))) (fun _ => rfl) (fun _ => rfl) fun v26 => (j_fz fz_b (j_dcons (j_cb (j_acons (j_bin (j_var rfl (j_c (j_op (rd_d rfl) rd_b x_sub (j_acons (j_bin (j_var rfl (j_c (j_op (rd_d rfl) rd_b x_add (j_anil (j_cbop (ra_cons rd_b (ra_cons rd_b ra_nil)) x_min2 (j_fz fz_b (j_dnil (j_lst2 (toD ([v26.1, (min2 (((order.length : Int) - (1 : Int))) ((v25.1 + (1 : Int))))] : (List Int))) rfl rfl (j_bin (j_var rfl (j_c (j_op (rd_d rfl) rd_b x_sub (j_opR rd_w rd_b (x_ix (τ := Int)) fun v27 => (j_fzb (fzb_of fz_b) (j_setD (j_last (j_put2 (j_dcons (j_bin (j_var rfl (j_var rfl (j_opR (rd_o rfl) (rd_d rfl) (x_ix (τ := Int)) fun v28 => (j_fz fz_b (j_dcons (j_bin (j_var rfl (j_var rfl (j_opR (rd_o rfl) (rd_d rfl) (x_ix (τ := Int)) fun v29 => (j_fz fz_b (j_dnil (j_has rfl (j_var rfl (j_putI (y := fun a => toD a) rfl (rd_d rfl) (x_set (τ := Int) _) fun v30 => (j_has rfl (j_var rfl (j_putI (y := fun a => toD a) rfl (rd_d rfl) (x_set (τ := Int) _) fun v31 => (j_nil (l := [1, 1, 1, 1, 1, 0, 0, 0, 0]) rfl rfl)))))))))))))))))))))))))))))))))))))))))))))))))))))))))))))))))))))))))))))))) fun s32 => (j_last (j_ret (j_var rfl (j_rets (l := [1, 0, 0, 0, 0, 0, 0, 0, 0]) rfl (fun _ => sl_id) rfl rfl)))))))))))))))))))))))))))))))))))))))))))))))))))))))))) (fun a p hp => by
    simp only [List.mem_cons, List.not_mem_nil, or_false] at hp
    subst hp; rfl)
def m_is_whole (thing : Int) : R Bool :=
  .ok ((true && (!false)))
theorem sim_is_whole (thing : Int) : FnS h_is_whole [.fr (toD (thing : Int))] (m_is_whole thing) (fun a : Bool => .d (toD (a : Bool))) (fun a : Bool => []) :=
  fn_mk (n := 0) (rv := fun a : Bool => .d (toD (a : Bool))) (ss := [(.d (toD (thing : Int)))]) (Γe := fun a : Bool => [none]) rfl (.cons rfl All2.nil) rfl
  (j_last (j_ret (j_andVP (j_isi (j_var rfl (j_isi2 (b := true) (rd_d rfl) rfl (j_ko (l := [1]) rd_b rfl rfl)))) (j_notV (j_isi (j_var rfl (j_isi2 (b := false) (rd_d rfl) rfl (j_bool rd_b (j_kob (l := [1]) rfl rfl)))))) (j_retb (l := [0]) sl_d rfl rfl)))) (fun a p hp => nomatch hp)
def m_is_order (thing : (List Int)) : R Bool :=
  if (false || (!((decide ((1 : Int) ≤ (thing.length : Int))) && (decide ((thing.length : Int) ≤ (12 : Int)))))) = true then
  (.ok false)
  else
  (R.bind (lcM (fun (x1 : Int) => R.calm (R.bind (m_is_whole x1) fun v2 =>
  if (!v2) = true then
  (.ok (some x1))
  else
  (.ok none))) thing []) fun ys3 =>
  if (!decide (ys3 = ([] : (List Int)))) = true then
  (.ok false)
  else
  (ob (lrg1 ((thing.length : Int))) fun v4 =>
  .ok ((decide ((thing.mergeSort leI) = v4)))))
theorem sim_is_order (thing : (List Int)) : FnS h_is_order [.fr (toD (thing : (List Int)))] (m_is_order thing) (fun a : Bool => .d (toD (a : Bool))) (fun a : Bool => []) :=
  fn_mk (n := 1) (rv := fun a : Bool => .d (toD (a : Bool))) (ss := [(.d (toD (thing : (List Int))))]) (Γe := fun a : Bool => [none, none]) rfl (.cons rfl All2.nil) rfl
  (j_if (j_or (j_not (j_test (j_isi (j_var rfl (j_isi2 (b := true) (rd_d rfl) rfl (j_bool rd_b (j_kb (l := [1, 0]) rfl rfl))))))) (j_not (j_test (j_chain (j_c (j_cb (j_acons (j_var rfl (j_anil (j_cbop (ra_cons (rd_d rfl) ra_nil) (x_len (τ := Int)) (j_chain3 rd_b rd_b x_le (j_c (j_ko (l := [1, 0]) rd_b rfl rfl)) x_le (j_bool rd_b (j_kb (l := [1, 0]) rfl rfl)))))))))))) (j_ite (j_ret (j_c (j_retb (l := [0, 0]) sl_d rfl rfl))) (j_seqNil (j_if (j_test (j_bin (j_lc (j_iSeq (j_var rfl (j_it (fz_d rfl) rfl (j_lcM (Γs := [some (.d (toD (thing : (List Int)))), none]) (l := [1, 0]) (D := toD) (E := toD) (xr := fun a => toD a) rfl rfl (fun x1 => (j_gN (j_not (j_test (j_callP (j_aP (j_var rfl (j_aPs (j_anil (j_callPop rfl (la_d rfl la_nil) rfl (sim_is_whole x1) (fun _ => rfl) fun v2 => (j_bool rd_b (j_ite (j_var rfl (j_kf (l := [1, 0]) (fz_d rfl) rfl rfl)) (j_skip (l := [1, 0]) rfl rfl))))))))))))) (fun _ => rfl) fun ys3 => (j_lst (j_dnil (j_lst2 (toD (([] : (List Int)) : (List Int))) rfl rfl (j_op rd_w rd_w (x_ne (τ := (List Int))) (j_bool rd_b (j_ite (j_ret (j_c (j_retb (l := [0, 0]) sl_d rfl rfl))) (j_seqNil (j_last (j_ret (j_bin (j_cb (j_acons (j_var rfl (j_anil (j_cbop (ra_cons (rd_d rfl) ra_nil) x_sorted (j_lr1 (j_cb (j_acons (j_var rfl (j_anil (j_cbop (ra_cons (rd_d rfl) ra_nil) (x_len (τ := Int)) (j_lr1op rd_b  fun v4 => (j_op rd_w rd_w (x_eq (τ := (List Int))) (j_retb (l := [0, 0]) sl_d rfl rfl)))))))))))))))))))))))))))))))))))) (fun a p hp => nomatch hp)
def m_need_order (thing : (List Int)) : R Unit :=
  R.bind (m_is_order thing) fun v1 =>
  if (!v1) = true then
  (.ex "NoOrder")
  else
  (.ok ())
theorem sim_need_order (thing : (List Int)) : FnS h_need_order [.fr (toD (thing : (List Int)))] (m_need_order thing) (fun _ => .d .none) (fun a : Unit => []) :=
  fn_mkN (n := 0) (ss := [(.d (toD (thing : (List Int))))]) (Γe := fun a : Unit => [none]) rfl (.cons rfl All2.nil) rfl
  (j_last (j_if (j_not (j_test (j_callP (j_aP (j_var rfl (j_aPs (j_anil (j_callPop rfl (la_d rfl la_nil) rfl (sim_is_order thing) (fun _ => rfl) fun v1 => (j_bool rd_b (j_ite j_seqRaise (j_seqNil (j_nilF (l := [0]) rfl rfl)))))))))))))) (fun a p hp => nomatch hp)
def m_turned_back (order : (List Int)) : R ((List Int)) :=
  ob (mulL ([(0 : Int)]) ((order.length : Int))) fun v1 =>
  R.bind (foldM (fun (s4 : (List Int)) (x5 : (Int × Int)) =>
  ob (setI s4 x5.2 x5.1) fun v6 =>
  .ok v6) ((enumT 0 order)) v1) fun (s7 : (List Int)) =>
  .ok s7
theorem sim_turned_back (order : (List Int)) : FnS h_turned_back [.fr (toD (order : (List Int)))] (m_turned_back order) (fun a : (List Int) => .o (toD (a : (List Int)))) (fun a : (List Int) => []) :=
  fn_mk (n := 3) (rv := fun a : (List Int) => .o (toD (a : (List Int)))) (ss := [(.d (toD (order : (List Int))))]) (Γe := fun a : (List Int) => [none, none, none, none]) rfl (.cons rfl All2.nil) rfl
  (j_own (j_bin (j_lst (j_dcons (j_c (j_fz fz_b (j_dnil (j_lst2 (toD ([(0 : Int)] : (List Int))) rfl rfl (j_cb (j_acons (j_var rfl (j_anil (j_cbop (ra_cons (rd_d rfl) ra_nil) (x_len (τ := Int)) (j_opR rd_w rd_b (x_mulL (τ := Int)) fun v1 => (j_ownb (j_setO (j_seq (Γs := fun (s4 : (List Int)) => [some (.d (toD (order : (List Int)))), some (.o (toD (s4 : (List Int)))), none, none]) (j_sFor (j_iEnum (j_var rfl (j_it (fz_d rfl) (selE_map toD _) (j_for (l := [1, 1, 0, 0]) (D := toD) (Γs := fun (s4 : (List Int)) => [some (.d (toD (order : (List Int)))), some (.o (toD (s4 : (List Int)))), none, none]) v1 rfl (fun _ => rfl) fun s4 x5 => (j_gT2 (j_last (j_put (j_var rfl (j_fz (fz_d rfl) (j_has rfl (j_var rfl (j_putI (y := fun a => toD a) rfl (rd_d rfl) (x_set (τ := Int) _) fun v6 => (j_nil (l := [1, 1, 0, 0]) rfl rfl)))))))))))))) fun s7 => (j_last (j_ret (j_var rfl (j_rets (l := [0, 0, 0, 0]) rfl (fun _ => sl_id) rfl rfl))))))))))))))))))))) (fun a p hp => nomatch hp)
end TM
set_option maxRecDepth 100000
set_option maxHeartbeats 0
namespace TM
open PySem VL VP PySem.W.Datum PySem.SeqAt
open PySem.W (Datum Tup)
open L2 (atI ixN)
def m_far_by (way : Str) (one : (List Int)) (other : (List Int)) : R Int :=
  ob (eqG way (("spot" : Str))) fun v1 =>
  if v1 = true then
  (ob (rg1 ((one.length : Int))) fun xs2 =>
  R.bind (lcM (fun (x3 : Int) => R.calm (ob (atI one x3) fun v4 =>
  ob (atI other x3) fun v5 =>
  if (!decide (v4 = v5)) = true then
  (.ok (some x3))
  else
  (.ok none))) xs2 []) fun ys6 =>
  .ok ((ys6.length : Int)))
  else
  (R.bind (m_turned_back one) fun v7 =>
  R.bind (m_turned_back other) fun v8 =>
  ob (eqG way (("shift" : Str))) fun v9 =>
  if v9 = true then
  (ob (lcP (fun (x10 : (Int × Int)) => true) (fun (x10 : (Int × Int)) => ((absI ((x10.1 - x10.2))))) ((v7.zip v8))) fun ys11 =>
  ob (maxL ys11) fun v12 =>
  .ok v12)
  else
  (R.bind (ob (rg1 ((one.length : Int))) fun xs13 =>
  foldM (fun (s76 : Int) (x77 : Int) =>
  R.bind (ob (rg1 x77) fun xs78 =>
  foldM (fun (s97 : Int) (x98 : Int) =>
  R.bind (ob (atI v7 x98) fun v104 =>
  ob (atI v7 x77) fun v105 =>
  ob (atI v8 x98) fun v106 =>
  ob (atI v8 x77) fun v107 =>
  if (!decide ((decide (v104 < v105)) = (decide (v106 < v107)))) = true then
  (.ok ((s97 + (1 : Int))))
  else
  (.ok s97)) fun (s103 : Int) =>
  .ok s103) xs78 s76) fun (s108 : Int) =>
  .ok s108) xs13 ((0 : Int))) fun (s109 : Int) =>
  .ok s109))
theorem sim_far_by (way : Str) (one : (List Int)) (other : (List Int)) : FnS h_far_by [.fr (toD (way : Str)), .fr (toD (one : (List Int))), .fr (toD (other : (List Int)))] (m_far_by way one other) (fun a : Int => .d (toD (a : Int))) (fun a : Int => []) :=
  fn_mk (n := 7) (rv := fun a : Int => .d (toD (a : Int))) (ss := [(.d (toD (way : Str))), (.d (toD (one : (List Int)))), (.d (toD (other : (List Int))))]) (Γe := fun a : Int => [none, none, none, none, none, none, none, none, none, none]) rfl (.cons rfl (.cons rfl (.cons rfl All2.nil))) rfl
  (j_if (j_test (j_bin (j_var rfl (j_c (j_opR (rd_d rfl) rd_b (x_eqG (τ := Str)) fun v1 => (j_bool rd_b (j_ite (j_ret (j_cb (j_acons (j_lc (j_iRg1 (j_cb (j_acons (j_var rfl (j_anil (j_cbop (ra_cons (rd_d rfl) ra_nil) (x_len (τ := Int)) (j_rg1 rd_b fun xs2 => (j_lcM (Γs := [some (.d (toD (way : Str))), some (.d (toD (one : (List Int)))), some (.d (toD (other : (List Int)))), none, none, none, none, none, none, none]) (l := [1, 1, 1, 0, 0, 0, 0, 0, 0, 0]) (D := toD) (E := toD) (xr := fun a => toD a) rfl rfl (fun x3 => (j_gN (j_test (j_bin (j_bin (j_var rfl (j_var rfl (j_opR (rd_d rfl) (rd_d rfl) (x_ix (τ := Int)) fun v4 => (j_bin (j_var rfl (j_var rfl (j_opR (rd_d rfl) (rd_d rfl) (x_ix (τ := Int)) fun v5 => (j_op rd_b rd_b (x_ne (τ := Int)) (j_bool rd_b (j_ite (j_var rfl (j_kf (l := [1, 1, 1, 0, 0, 0, 0, 0, 0, 0]) (fz_d rfl) rfl rfl)) (j_skip (l := [1, 1, 1, 0, 0, 0, 0, 0, 0, 0]) rfl rfl)))))))))))))))) (fun _ => rfl) fun ys6 => (j_anil (j_cbop (ra_cons rd_w ra_nil) (x_len (τ := Int)) (j_retb (l := [0, 0, 0, 0, 0, 0, 0, 0, 0, 0]) sl_d rfl rfl))))))))))))))) (j_seqNil (j_asg (j_call (j_aF (j_var rfl (j_fzb (fzb_of (fz_d rfl)) (j_anil (j_callO rfl (ba_b ba_nil) (sim_turned_back one) (fun _ => rfl) fun v7 => (j_fzb (fzb_of fz_w) (j_setD (j_asg (j_call (j_aF (j_var rfl (j_fzb (fzb_of (fz_d rfl)) (j_anil (j_callO rfl (ba_b ba_nil) (sim_turned_back other) (fun _ => rfl) fun v8 => (j_fzb (fzb_of fz_w) (j_setD (j_if (j_test (j_bin (j_var rfl (j_c (j_opR (rd_d rfl) rd_b (x_eqG (τ := Str)) fun v9 => (j_bool rd_b (j_ite (j_ret (j_cb (j_acons (j_lc (j_iZip (j_var rfl (j_fz (fz_d rfl) (j_var rfl (j_zip2 (D := toD) (D2 := toD) (fz_d rfl) (j_lcP (Γs := [some (.d (toD (way : Str))), some (.d (toD (one : (List Int)))), some (.d (toD (other : (List Int)))), some (.d (toD (v7 : (List Int)))), some (.d (toD (v8 : (List Int)))), none, none, none, none, none]) (l := [1, 1, 1, 1, 1, 0, 0, 0, 0, 0]) (D := toD) (E := toD) (xr := fun a => toD a) (p := fun (x10 : (Int × Int)) => true) (q := fun (x10 : (Int × Int)) => ((absI ((x10.1 - x10.2))))) rfl rfl (fun x10 => (j_gT2 (j_tt (j_cb (j_acons (j_bin (j_var rfl (j_var rfl (j_op (rd_d rfl) (rd_d rfl) x_sub (j_anil (j_cbop (ra_cons rd_b ra_nil) x_abs (j_kf (l := [1, 1, 1, 1, 1, 0, 0, 0, 0, 0]) fz_b rfl rfl)))))))))))) (fun _ => rfl) fun ys11 => (j_anil (j_cbopR (ra_cons rd_w ra_nil) x_maxL fun v12 => (j_retb (l := [0, 0, 0, 0, 0, 0, 0, 0, 0, 0]) sl_d rfl rfl))))))))))))) (j_seqNil (j_own (j_c (j_ownb (j_setD (j_seq (Γs := fun (s76 : Int) => [some (.d (toD (way : Str))), some (.d (toD (one : (List Int)))), some (.d (toD (other : (List Int)))), some (.d (toD (v7 : (List Int)))), some (.d (toD (v8 : (List Int)))), some (.d (toD (s76 : Int))), none, none, none, none]) (j_sFor (j_iRg1 (j_cb (j_acons (j_var rfl (j_anil (j_cbop (ra_cons (rd_d rfl) ra_nil) (x_len (τ := Int)) (j_rg1 rd_b fun xs13 => (j_for (l := [1, 1, 1, 1, 1, 1, 0, 0, 0, 0]) (D := toD) (Γs := fun (s76 : Int) => [some (.d (toD (way : Str))), some (.d (toD (one : (List Int)))), some (.d (toD (other : (List Int)))), some (.d (toD (v7 : (List Int)))), some (.d (toD (v8 : (List Int)))), some (.d (toD (s76 : Int))), none, none, none, none]) ((0 : Int)) rfl (fun _ => rfl) fun s76 x77 => (j_gN (j_last (j_seq (Γs := fun (s97 : Int) => [some (.d (toD (way : Str))), some (.d (toD (one : (List Int)))), some (.d (toD (other : (List Int)))), some (.d (toD (v7 : (List Int)))), some (.d (toD (v8 : (List Int)))), some (.d (toD (s97 : Int))), some (.d (toD (x77 : Int))), none, none, none]) (j_sFor (j_iRg1 (j_var rfl (j_rg1 (rd_d rfl) fun xs78 => (j_for (l := [1, 1, 1, 1, 1, 1, 1, 0, 0, 0]) (D := toD) (Γs := fun (s97 : Int) => [some (.d (toD (way : Str))), some (.d (toD (one : (List Int)))), some (.d (toD (other : (List Int)))), some (.d (toD (v7 : (List Int)))), some (.d (toD (v8 : (List Int)))), some (.d (toD (s97 : Int))), some (.d (toD (x77 : Int))), none, none, none]) s76 rfl (fun _ => rfl) fun s97 x98 => (j_gN (j_last (j_seq (Γs := fun (s103 : Int) => [some (.d (toD (way : Str))), some (.d (toD (one : (List Int)))), some (.d (toD (other : (List Int)))), some (.d (toD (v7 : (List Int)))), some (.d (toD (v8 : (List Int)))), some (.d (toD (s103 : Int))), some (.d (toD (x77 : Int))), some (.d (toD (x98 : Int))), none, none]) (j_if1 (j_test (j_bin (j_bin (j_bin (j_var rfl (j_var rfl (j_opR (rd_d rfl) (rd_d rfl) (x_ix (τ := Int)) fun v104 => (j_bin (j_var rfl (j_var rfl (j_opR (rd_d rfl) (rd_d rfl) (x_ix (τ := Int)) fun v105 => (j_op rd_b rd_b x_lt (j_bin (j_bin (j_var rfl (j_var rfl (j_opR (rd_d rfl) (rd_d rfl) (x_ix (τ := Int)) fun v106 => (j_bin (j_var rfl (j_var rfl (j_opR (rd_d rfl) (rd_d rfl) (x_ix (τ := Int)) fun v107 => (j_op rd_b rd_b x_lt (j_op rd_b rd_b (x_ne (τ := Bool)) (j_bool rd_b (j_ite (j_last (j_aug rfl rfl (j_c (j_augop rd_b x_aug_add (j_nil (l := [1, 1, 1, 1, 1, 1, 1, 1, 0, 0]) rfl rfl))))) (j_nil (l := [1, 1, 1, 1, 1, 1, 1, 1, 0, 0]) rfl rfl))))))))))))))))))))))))))) fun s103 => (j_nil (l := [1, 1, 1, 1, 1, 1, 1, 0, 0, 0]) rfl rfl))))))))) fun s108 => (j_nil (l := [1, 1, 1, 1, 1, 1, 0, 0, 0, 0]) rfl rfl))))))))))))) fun s109 => (j_last (j_ret (j_var rfl (j_rets (l := [0, 0, 0, 0, 0, 0, 0, 0, 0, 0]) rfl (fun _ => sl_id) rfl rfl))))))))))))))))))))))))))))))))))))))))))))) (fun a p hp => nomatch hp)
def m_need_way (way : Str) : R Unit :=
  if (false || (!decide (way ∈ (["swap", "spot", "shift"] : List Str)))) = true then
  (.ex "NoWay")
  else
  (.ok ())
theorem sim_need_way (way : Str) : FnS h_need_way [.fr (toD (way : Str))] (m_need_way way) (fun _ => .d .none) (fun a : Unit => []) :=
  fn_mkN (n := 0) (ss := [(.d (toD (way : Str)))]) (Γe := fun a : Unit => [none]) rfl (.cons rfl All2.nil) rfl
  (j_last (j_if (j_or (j_not (j_test (j_isi (j_var rfl (j_isi2 (b := true) (rd_d rfl) rfl (j_bool rd_b (j_kb (l := [1]) rfl rfl))))))) (j_test (j_inT (j_var rfl (j_inT2 (rd_d rfl)  (j_bool rd_b (j_kb (l := [1]) rfl rfl)))))) (j_ite j_seqRaise (j_seqNil (j_nilF (l := [0]) rfl rfl)))))) (fun a p hp => nomatch hp)
end TM
set_option maxRecDepth 100000
set_option maxHeartbeats 0
namespace TM
open PySem VL VP PySem.W.Datum PySem.SeqAt
open PySem.W (Datum Tup)
open L2 (atI ixN)
end TM
set_option maxRecDepth 100000
set_option maxHeartbeats 0
namespace TM
open PySem VL VP PySem.W.Datum PySem.SeqAt
open PySem.W (Datum Tup T3)
open L2 (atI ixN)
end TM
set_option maxRecDepth 100000
namespace TM
open PySem VL VP PySem.SeqAt
open L2 (atI ixN)
/-- m tells some a with P a -/
def Sat {α : Type} (m : R α) (P : α → Prop) : Prop := ∃ a, m = .ok a ∧ P a
section
variable {α β σ τ υ γ : Type} {m : R α} {P Q : α → Prop}
theorem Sat.of {a : α} (h : m = .ok a) (p : P a) : Sat m P := ⟨a, h, p⟩
theorem sat_ok {a : α} (p : P a) : Sat (.ok a) P := ⟨a, rfl, p⟩
theorem Sat.mono (h : Sat m Q) (k : ∀ a, Q a → P a) : Sat m P := by
  obtain ⟨a, h1, h2⟩ := h
  exact ⟨a, h1, k a h2⟩
theorem sat_bind {k : α → R β} {P : β → Prop} (h : Sat m Q) (hk : ∀ a, Q a → Sat (k a) P) : Sat (m.bind k) P := by
  obtain ⟨a, rfl, h2⟩ := h
  exact hk a h2
theorem sat_ob {o : Option α} {a : α} {k : α → R β} {P : β → Prop} (h : o = some a) (hk : Sat (k a) P) : Sat (ob o k) P := by
  subst h
  exact hk
theorem sat_calm (h : Sat m P) : Sat m.calm P := by
  obtain ⟨a, rfl, h2⟩ := h
  exact ⟨a, rfl, h2⟩
theorem sat_iff {a : α} : Sat m (fun x => x = a) ↔ m = .ok a := ⟨fun ⟨b, h, e⟩ => e ▸ h, fun h => ⟨a, h, rfl⟩⟩
theorem Sat.eq {a : α} (h : Sat m fun x => x = a) : m = .ok a := sat_iff.mp h
theorem sat_ite {b : Bool} {m1 m2 : R α} (h1 : b = true → Sat m1 P) (h2 : b = false → Sat m2 P) : Sat (if b = true then m1 else m2) P := by
  cases b with
  | true => exact h1 rfl
  | false => exact h2 rfl
theorem sat_foldM {mb : σ → τ → R σ} (I : Nat → σ → Prop) : ∀ (xs : List τ) (k : Nat) (s : σ), I k s → (∀ i s (h : i < xs.length), I (k + i) s → Sat (mb s xs[i]) (I (k + i + 1))) → Sat (foldM mb xs s) (I (k + xs.length))
  | [], k, s, h, _ => sat_ok h
  | x :: xs, k, s, h, hb => by
    unfold foldM
    refine sat_bind (hb 0 s (by simp) h) fun s' h' => ?_
    have := sat_foldM I xs (k + 1) s' h' fun i s hi hs => by
      have := hb (i + 1) s (by simpa using hi) (by rw [show k + (i + 1) = k + 1 + i by omega]; exact hs)
      rw [show k + (i + 1) + 1 = k + 1 + i + 1 by omega] at this
      exact this
    rw [show k + (x :: xs).length = k + 1 + xs.length by rw [List.length_cons]; omega]
    exact this
theorem sat_fold {mb : σ → τ → R σ} {xs : List τ} {s : σ} (I : σ → Prop) (h : I s) (hb : ∀ s x, x ∈ xs → I s → Sat (mb s x) I) : Sat (foldM mb xs s) I :=
  sat_foldM (fun _ => I) xs 0 s h fun i s hi hs => hb s _ (List.getElem_mem hi) hs
/-- a loop that is never left before its end -/
theorem sat_loopI {mb : σ → τ → R (Fl σ γ)} (I : Nat → σ → Prop) : ∀ (xs : List τ) (k : Nat) (s : σ), I k s → (∀ i s (h : i < xs.length), I (k + i) s → Sat (mb s xs[i]) fun r => ∃ s', r = .nx s' ∧ I (k + i + 1) s') → Sat (loopM mb xs s) fun r => ∃ s', r = .nx s' ∧ I (k + xs.length) s'
  | [], k, s, h, _ => sat_ok ⟨s, rfl, h⟩
  | x :: xs, k, s, h, hb => by
    unfold loopM
    refine sat_bind (hb 0 s (by simp) h) fun r ⟨s', hr, h'⟩ => ?_
    subst hr
    have := sat_loopI I xs (k + 1) s' h' fun i s hi hs => by
      have := hb (i + 1) s (by simpa using hi) (by rw [show k + (i + 1) = k + 1 + i by omega]; exact hs)
      rw [show k + (i + 1) + 1 = k + 1 + i + 1 by omega] at this
      exact this
    rw [show k + (x :: xs).length = k + 1 + xs.length by rw [List.length_cons]; omega]
    exact this
theorem sat_loop {mb : σ → τ → R (Fl σ γ)} {xs : List τ} {s : σ} (I : σ → Prop) (h : I s) (hb : ∀ s x, x ∈ xs → I s → Sat (mb s x) fun r => ∃ s', r = .nx s' ∧ I s') : Sat (loopM mb xs s) fun r => ∃ s', r = .nx s' ∧ I s' :=
  sat_loopI (fun _ => I) xs 0 s h fun i s hi hs => hb s _ (List.getElem_mem hi) hs
/-- the loop's rest, where it is never left -/
theorem sat_out {mb : R (Fl σ γ)} {mk : σ → R γ} {I : σ → Prop} {P : γ → Prop} (h : Sat mb fun r => ∃ s', r = .nx s' ∧ I s') (hk : ∀ s, I s → Sat (mk s) P) : Sat (mb.bind (Fl.out mk)) P := by
  obtain ⟨r, rfl, s', rfl, h2⟩ := h
  exact hk s' h2
theorem sat_outF {mb : R (Fl σ γ)} {mk : σ → R (Fl β γ)} {I : σ → Prop} {P : Fl β γ → Prop} (h : Sat mb fun r => ∃ s', r = .nx s' ∧ I s') (hk : ∀ s, I s → Sat (mk s) P) : Sat (mb.bind (Fl.outF mk)) P := by
  obtain ⟨r, rfl, s', rfl, h2⟩ := h
  exact hk s' h2
theorem sat_lcS {step : σ → τ → R (Option υ × σ)} (I : Nat → List υ → σ → Prop) : ∀ (xs : List τ) (k : Nat) (acc : List υ) (s : σ), acc.length ≤ k → k + xs.length ≤ big → I k acc s → (∀ i acc s (h : i < xs.length), I (k + i) acc s → Sat (step s xs[i]) fun r => match r with
    | (none, s') => I (k + i + 1) acc s'
    | (some y, s') => I (k + i + 1) (acc ++ [y]) s') → Sat (lcS step xs acc s) fun r => I (k + xs.length) r.1 r.2
  | [], k, acc, s, _, _, h, _ => sat_ok h
  | x :: xs, k, acc, s, hl, hx, h, hb => by
    rw [List.length_cons] at hx
    have key : ∀ acc' s', acc'.length ≤ k + 1 → I (k + 1) acc' s' → Sat (lcS step xs acc' s') fun r => I (k + (x :: xs).length) r.1 r.2 := fun acc' s' hl' h' => by
      have := sat_lcS I xs (k + 1) acc' s' hl' (by omega) h' fun i acc s hi hs => by
        have := hb (i + 1) acc s (by simpa using hi) (by rw [show k + (i + 1) = k + 1 + i by omega]; exact hs)
        rw [show k + (i + 1) + 1 = k + 1 + i + 1 by omega] at this
        exact this
      rw [show k + (x :: xs).length = k + 1 + xs.length by rw [List.length_cons]; omega]
      exact this
    unfold lcS
    refine sat_bind (hb 0 acc s (by simp) h) fun r hr => ?_
    obtain ⟨y, s'⟩ := r
    cases y with
    | none => exact key acc s' (by omega) hr
    | some y =>
      show Sat (if acc.length < big then lcS step xs (acc ++ [y]) s' else .no) _
      rw [if_pos (by omega)]
      exact key _ s' (by rw [List.length_append, List.length_singleton]; omega) hr
theorem lcM_eq {step : τ → R (Option υ)} (p : τ → Bool) (f : τ → υ) {xs : List τ} (hl : xs.length ≤ big) (h : ∀ x ∈ xs, step x = .ok (if p x = true then some (f x) else none)) : lcM (fun x => (step x).calm) xs [] = .ok ((xs.filter p).map f) := by
  have key : ∀ (xs : List τ) (acc : List υ), acc.length + xs.length ≤ big → (∀ x ∈ xs, step x = .ok (if p x = true then some (f x) else none)) → lcM (fun x => (step x).calm) xs acc = .ok (acc ++ (xs.filter p).map f) := by
    intro xs
    induction xs with
    | nil => intro acc _ _; simp [lcM]
    | cons x xs ih =>
      intro acc hl h
      rw [List.length_cons] at hl
      unfold lcM
      rw [h x List.mem_cons_self]
      by_cases hp : p x = true
      · rw [if_pos hp, List.filter_cons_of_pos hp]
        show (if acc.length < big then lcM _ xs (acc ++ [f x]) else .no) = _
        rw [if_pos (by omega), ih (acc ++ [f x]) (by rw [List.length_append, List.length_singleton]; omega) fun y hy => h y (List.mem_cons_of_mem _ hy), List.map_cons, List.append_assoc]
        rfl
      · rw [if_neg hp, List.filter_cons_of_neg hp]
        exact ih acc (by omega) fun y hy => h y (List.mem_cons_of_mem _ hy)
  have := key xs [] (by simpa using hl) h
  simpa using this
/-- each item told, none left out -/
theorem lcM_map {step : τ → R (Option υ)} (f : τ → υ) {xs : List τ} (hl : xs.length ≤ big) (h : ∀ x ∈ xs, step x = .ok (some (f x))) : lcM (fun x => (step x).calm) xs [] = .ok (xs.map f) := by
  have := lcM_eq (fun _ => true) f hl h
  rwa [List.filter_eq_self.mpr fun _ _ => rfl] at this
theorem lcP_eq (p : τ → Bool) (f : τ → υ) {xs : List τ} (hl : xs.length ≤ big) : lcP p f xs = some ((xs.filter p).map f) := if_pos hl
theorem lcP_map (f : τ → υ) {xs : List τ} (hl : xs.length ≤ big) : lcP (fun _ => true) f xs = some (xs.map f) := by
  rw [lcP_eq _ _ hl, List.filter_eq_self.mpr fun _ _ => rfl]
end
theorem rngL_iota (n : Nat) : rngL 0 n = iota n := by
  unfold rngL iota
  exact List.map_congr_left fun i _ => by rw [Int.zero_add]
theorem rg1_nat {n : Nat} (h : n ≤ 1000000000) : rg1 (n : Int) = some (iota n) := by
  unfold rg1 lim
  rw [if_pos (decide_eq_true (by omega)), Int.toNat_natCast, rngL_iota]
theorem rg1_of {i : Int} (h : i.natAbs ≤ 1000000000) : rg1 i = some (iota i.toNat) := by
  unfold rg1 lim
  rw [if_pos (decide_eq_true (by omega)), rngL_iota]
theorem lrg1_of {i : Int} (h : i.natAbs ≤ 1000000) : lrg1 i = some (iota i.toNat) := by
  unfold lrg1 rgOk big
  rw [if_pos (by rw [Bool.and_eq_true, Bool.and_eq_true, decide_eq_true_eq, decide_eq_true_eq, decide_eq_true_eq]; omega), rngL_iota]
theorem lrg1_nat {n : Nat} (h : n ≤ 1000000) : lrg1 (n : Int) = some (iota n) := by
  have := lrg1_of (i := (n : Int)) (by omega)
  rwa [Int.toNat_natCast] at this
theorem iota_len (n : Nat) : (iota n).length = n := by unfold iota; rw [List.length_map, List.length_range]
theorem iota_get {n i : Nat} (h : i < (iota n).length) : (iota n)[i] = (i : Int) := by
  simp [iota]
theorem mem_iota {n : Nat} {x : Int} : x ∈ iota n ↔ 0 ≤ x ∧ x < n := by
  unfold iota
  rw [List.mem_map]
  constructor
  · rintro ⟨i, hi, rfl⟩
    have := List.mem_range.mp hi
    omega
  · intro h
    exact ⟨x.toNat, List.mem_range.mpr (by omega), by omega⟩
section
variable {τ : Type} {xs : List τ} {i : Int}
theorem ixN_of {n : Nat} {i : Int} (h0 : 0 ≤ i) (h1 : i < n) : ixN n i = some i.toNat := by
  unfold ixN
  rw [if_pos h0, if_pos h1]
theorem at_of (h0 : 0 ≤ i) (h1 : i < xs.length) : atI xs i = some (xs[i.toNat]'(by omega)) := by
  unfold atI
  rw [ixN_of h0 h1, Option.bind_some, List.getElem?_eq_getElem]
theorem at_nat {j : Nat} (h : j < xs.length) : atI xs (j : Int) = some xs[j] := by
  rw [at_of (by omega) (by omega)]
  simp
theorem setI_of {v : τ} (h0 : 0 ≤ i) (h1 : i < xs.length) : setI xs i v = some (xs.set i.toNat v) := by
  unfold setI
  rw [ixN_of h0 h1]
  rfl
theorem appL_of {v : τ} (h : xs.length < big) : appL xs v = some (xs ++ [v]) := if_pos h
theorem addL_of {ys : List τ} (h : xs.length + ys.length ≤ big) : addL xs ys = some (xs ++ ys) := if_pos h
theorem popI_of (h0 : 0 ≤ i) (h1 : i < xs.length) (hb : xs.length ≤ big) : popI xs i = some (xs[i.toNat]'(by omega), xs.eraseIdx i.toNat) := by
  unfold popI
  have hs : seqIndex? i xs.length = some i.toNat := (L2.ixN_seq (ixN_of h0 h1)).1
  have hb' : xs.length ≤ 1000000 := hb
  rw [if_pos (by unfold lim63; exact decide_eq_true (by omega)), hs, Option.bind_some, List.getElem?_eq_getElem (by omega)]
  rfl
theorem insL_of {v : τ} (h0 : 0 ≤ i) (h1 : i.natAbs ≤ 1000000) (hb : xs.length < big) : insL xs i v = some (xs.take i.toNat ++ [v] ++ xs.drop i.toNat) := by
  unfold insL
  rw [if_pos ⟨h0, by omega, hb⟩]
end
theorem modI_of {a b : Int} (h : 0 < b) : modI a b = some (a % b) := if_pos (decide_eq_true h)
theorem mulI_l {a b : Int} (h : a.natAbs < 2 ^ 64) : mulI a b = some (a * b) := by
  unfold mulI cMul
  rw [if_pos (by rw [decide_eq_true h]; rfl)]
theorem mulI_r {a b : Int} (h : b.natAbs < 2 ^ 64) : mulI a b = some (a * b) := by
  unfold mulI cMul
  rw [if_pos (by rw [decide_eq_true h, Bool.or_true])]
/-- the law's answer, by its mirror -/
theorem law_of {F : Fn} {ns : List Int} {m : R Bool} {ch : Bool → List (Nat × Sl)} (h : FnS F [.sc ns] m (fun a => .d (W.Datum.toD a)) ch) (hm : Sat m fun b => b = true) : ∃ e, F [.sc ns] = some (.ret (.fr (.bool true)) e) := by
  have := hm.eq
  subst this
  obtain ⟨b, e, h1, h2, _⟩ := h
  have := solid_fr (b := b) h2 rfl
  subst this
  exact ⟨e, h1⟩
end TM
set_option maxRecDepth 100000
namespace D
open VP (iota IsOrd)
def sm : Nat → (Nat → Nat) → Nat
  | 0, _ => 0
  | n + 1, f => sm n f + f n
def bn (b : Bool) : Nat := if b = true then 1 else 0
theorem sm_congr {f g : Nat → Nat} : ∀ {n : Nat}, (∀ i, i < n → f i = g i) → sm n f = sm n g
  | 0, _ => rfl
  | n + 1, h => by
    show sm n f + f n = sm n g + g n
    rw [sm_congr fun i hi => h i (by omega), h n (by omega)]
theorem sm_zero : ∀ (n : Nat), sm n (fun _ => 0) = 0
  | 0 => rfl
  | n + 1 => by show sm n _ + 0 = 0; rw [sm_zero n]
theorem sm_const (c : Nat) : ∀ (n : Nat), sm n (fun _ => c) = n * c
  | 0 => by simp [sm]
  | n + 1 => by show sm n _ + c = _; rw [sm_const c n, Nat.add_mul]; omega
theorem sm_add {f g : Nat → Nat} : ∀ (n : Nat), sm n (fun i => f i + g i) = sm n f + sm n g
  | 0 => rfl
  | n + 1 => by show sm n _ + (f n + g n) = sm n f + f n + (sm n g + g n); rw [sm_add n]; omega
theorem sm_le {f g : Nat → Nat} : ∀ {n : Nat}, (∀ i, i < n → f i ≤ g i) → sm n f ≤ sm n g
  | 0, _ => Nat.le_refl _
  | n + 1, h => by
    have := sm_le (n := n) fun i hi => h i (by omega)
    have := h n (by omega)
    show sm n f + f n ≤ sm n g + g n
    omega
theorem sm_pos {f : Nat → Nat} : ∀ {n : Nat} {i : Nat}, i < n → f i ≤ sm n f
  | 0, i, h => by omega
  | n + 1, i, h => by
    show f i ≤ sm n f + f n
    by_cases e : i = n
    · subst e; omega
    · have := sm_pos (f := f) (n := n) (i := i) (by omega); omega
theorem sm_eq_zero {f : Nat → Nat} {n : Nat} : sm n f = 0 ↔ ∀ i, i < n → f i = 0 := by
  constructor
  · intro h i hi
    have := sm_pos (f := f) hi
    omega
  · intro h
    rw [sm_congr h, sm_zero]
theorem sm_comm {f : Nat → Nat → Nat} (m : Nat) : ∀ (n : Nat), sm n (fun i => sm m (f i)) = sm m (fun j => sm n (fun i => f i j))
  | 0 => (sm_zero m).symm
  | n + 1 => by
    show sm n (fun i => sm m (f i)) + sm m (f n) = sm m (fun j => sm n (fun i => f i j) + f n j)
    rw [sm_add, sm_comm m n]
theorem sm_list (f : Nat → Nat) : ∀ (n : Nat), sm n f = ((List.range n).map f).sum
  | 0 => rfl
  | n + 1 => by
    show sm n f + f n = _
    rw [sm_list f n, List.range_succ, List.map_append, List.sum_append]
    simp
/-- a one-to-one change of names below n, with the way back -/
structure Bij (n : Nat) (π ρ : Nat → Nat) : Prop where
  lt : ∀ i, i < n → π i < n
  lt' : ∀ i, i < n → ρ i < n
  l : ∀ i, i < n → ρ (π i) = i
  r : ∀ i, i < n → π (ρ i) = i
theorem Bij.symm {n : Nat} {π ρ : Nat → Nat} (h : Bij n π ρ) : Bij n ρ π := ⟨h.lt', h.lt, h.r, h.l⟩
theorem Bij.perm {n : Nat} {π ρ : Nat → Nat} (h : Bij n π ρ) : ((List.range n).map π).Perm (List.range n) := by
  rw [List.perm_ext_iff_of_nodup _ List.nodup_range]
  · intro a
    rw [List.mem_map, List.mem_range]
    constructor
    · rintro ⟨i, hi, rfl⟩
      exact h.lt i (List.mem_range.mp hi)
    · intro ha
      exact ⟨ρ a, List.mem_range.mpr (h.lt' a ha), h.r a ha⟩
  · unfold List.Nodup
    rw [List.pairwise_map]
    refine (List.nodup_range (n := n)).imp_of_mem ?_
    intro a b ha hb hab e
    have := h.l a (List.mem_range.mp ha)
    have := h.l b (List.mem_range.mp hb)
    apply hab
    rw [← h.l a (List.mem_range.mp ha), e, h.l b (List.mem_range.mp hb)]
theorem sm_bij {n : Nat} {π ρ : Nat → Nat} (h : Bij n π ρ) (f : Nat → Nat) : sm n (fun i => f (π i)) = sm n f := by
  rw [sm_list, sm_list]
  have := List.Perm.sum_nat ((h.perm).map f)
  rwa [List.map_map] at this
def mx : Nat → (Nat → Nat) → Nat
  | 0, _ => 0
  | n + 1, f => max (mx n f) (f n)
theorem mx_le {f : Nat → Nat} {b : Nat} : ∀ {n : Nat}, mx n f ≤ b ↔ ∀ i, i < n → f i ≤ b
  | 0 => ⟨fun _ i hi => by omega, fun _ => Nat.zero_le _⟩
  | n + 1 => by
    show max (mx n f) (f n) ≤ b ↔ _
    rw [Nat.max_le, mx_le (n := n)]
    constructor
    · intro h i hi
      by_cases e : i = n
      · subst e; exact h.2
      · exact h.1 i (by omega)
    · intro h
      exact ⟨fun i hi => h i (by omega), h n (by omega)⟩
theorem le_mx {f : Nat → Nat} {n i : Nat} (h : i < n) : f i ≤ mx n f := mx_le.mp (Nat.le_refl _) i h
theorem mx_congr {f g : Nat → Nat} {n : Nat} (h : ∀ i, i < n → f i = g i) : mx n f = mx n g := by
  apply Nat.le_antisymm
  · exact mx_le.mpr fun i hi => by rw [h i hi]; exact le_mx hi
  · exact mx_le.mpr fun i hi => by rw [← h i hi]; exact le_mx hi
theorem mx_bij {n : Nat} {π ρ : Nat → Nat} (h : Bij n π ρ) (f : Nat → Nat) : mx n (fun i => f (π i)) = mx n f := by
  apply Nat.le_antisymm
  · exact mx_le.mpr fun i hi => le_mx (h.lt i hi)
  · exact mx_le.mpr fun i hi => by
      have : f (π (ρ i)) ≤ mx n fun i => f (π i) := le_mx (f := fun i => f (π i)) (h.lt' i hi)
      rwa [h.r i hi] at this
/-- ordered pairs that h has one way and g the other -/
def inv (n : Nat) (h g : Nat → Nat) : Nat := sm n fun a => sm n fun b => bn (decide (h a < h b) && decide (g b < g a))
theorem inv_bij {n : Nat} {π ρ h g : Nat → Nat} (hb : Bij n π ρ) : inv n (fun i => h (π i)) (fun i => g (π i)) = inv n h g := by
  unfold inv
  rw [← sm_bij hb (fun a => sm n fun b => bn (decide (h a < h b) && decide (g b < g a)))]
  refine sm_congr fun a _ => ?_
  exact sm_bij hb (fun b => bn (decide (h (π a) < h b) && decide (g b < g (π a))))
theorem inv_comm (n : Nat) (h g : Nat → Nat) : inv n h g = inv n g h := by
  unfold inv
  rw [sm_comm]
  refine sm_congr fun a _ => sm_congr fun b _ => ?_
  rw [Bool.and_comm]
theorem inv_congr {n : Nat} {h g h' g' : Nat → Nat} (e1 : ∀ i, i < n → h i = h' i) (e2 : ∀ i, i < n → g i = g' i) : inv n h g = inv n h' g' := by
  unfold inv
  refine sm_congr fun a ha => sm_congr fun b hb => ?_
  rw [e1 a ha, e1 b hb, e2 a ha, e2 b hb]
/-- by pairs that are told once: the lesser name first -/
theorem inv_half (n : Nat) (h g : Nat → Nat) (hh : ∀ a b, a < n → b < n → h a = h b → a = b) (hg : ∀ a b, a < n → b < n → g a = g b → a = b) : inv n h g = sm n fun t => sm t fun l => bn (decide (h l < h t) != decide (g l < g t)) := by
  have key : ∀ m, m ≤ n → sm m (fun a => sm m fun b => bn (decide (h a < h b) && decide (g b < g a))) = sm m fun t => sm t fun l => bn (decide (h l < h t) != decide (g l < g t)) := by
    intro m
    induction m with
    | zero => intro _; rfl
    | succ m ih =>
      intro hm
      have ih := ih (by omega)
      show sm m (fun a => sm m (fun b => bn (decide (h a < h b) && decide (g b < g a))) + bn (decide (h a < h m) && decide (g m < g a))) + (sm m (fun b => bn (decide (h m < h b) && decide (g b < g m))) + bn (decide (h m < h m) && decide (g m < g m))) = sm m (fun t => sm t fun l => bn (decide (h l < h t) != decide (g l < g t))) + sm m fun l => bn (decide (h l < h m) != decide (g l < g m))
      rw [sm_add, ih]
      have e1 : bn (decide (h m < h m) && decide (g m < g m)) = 0 := by simp [bn]
      rw [e1, Nat.add_zero, Nat.add_assoc, ← sm_add]
      congr 1
      refine sm_congr fun l hl => ?_
      have d1 : h l ≠ h m := fun q => by have := hh l m (by omega) (by omega) q; omega
      have d2 : g l ≠ g m := fun q => by have := hg l m (by omega) (by omega) q; omega
      rcases Nat.lt_or_gt_of_ne d1 with a1 | a1
      · rcases Nat.lt_or_gt_of_ne d2 with a2 | a2
        · rw [decide_eq_true a1, decide_eq_true a2, decide_eq_false (show ¬ h m < h l by omega), decide_eq_false (show ¬ g m < g l by omega)]; rfl
        · rw [decide_eq_true a1, decide_eq_true a2, decide_eq_false (show ¬ h m < h l by omega), decide_eq_false (show ¬ g l < g m by omega)]; rfl
      · rcases Nat.lt_or_gt_of_ne d2 with a2 | a2
        · rw [decide_eq_true a1, decide_eq_true a2, decide_eq_false (show ¬ h l < h m by omega), decide_eq_false (show ¬ g m < g l by omega)]; rfl
        · rw [decide_eq_true a1, decide_eq_true a2, decide_eq_false (show ¬ h l < h m by omega), decide_eq_false (show ¬ g l < g m by omega)]; rfl
  exact key n (Nat.le_refl _)
/-- the thing at a place -/
def th (xs : List Int) (p : Nat) : Nat := (xs.getD p 0).toNat
/-- the place of a thing -/
def pl (xs : List Int) (t : Nat) : Nat := xs.idxOf (t : Int)
section
variable {n : Nat} {xs ys zs : List Int}
theorem ord_nodup (h : IsOrd n xs) : xs.Nodup := by
  have : (iota n).Nodup := by
    unfold VP.iota List.Nodup
    rw [List.pairwise_map]
    exact List.nodup_range.imp fun {a b} hab e => hab (by omega)
  exact (List.Perm.nodup_iff h).mpr this
theorem ord_mem (h : IsOrd n xs) {x : Int} : x ∈ xs ↔ 0 ≤ x ∧ x < n := by
  rw [List.Perm.mem_iff h]
  unfold VP.iota
  rw [List.mem_map]
  constructor
  · rintro ⟨i, hi, rfl⟩
    have := List.mem_range.mp hi
    omega
  · intro h
    exact ⟨x.toNat, List.mem_range.mpr (by omega), by omega⟩
theorem ord_get (h : IsOrd n xs) {p : Nat} (hp : p < n) : xs[p]? = some ((th xs p : Nat) : Int) := by
  have hl : p < xs.length := by rw [h.length]; exact hp
  have hm := (ord_mem h).mp (List.getElem_mem hl)
  unfold th
  rw [List.getElem?_eq_getElem hl, List.getD_eq_getElem?_getD, List.getElem?_eq_getElem hl]
  show some xs[p] = some (((xs[p]).toNat : Nat) : Int)
  congr 1
  omega
theorem th_lt (h : IsOrd n xs) {p : Nat} (hp : p < n) : th xs p < n := by
  have hm := (ord_mem h).mp (List.mem_of_getElem? (ord_get h hp))
  omega
theorem pl_lt (h : IsOrd n xs) {t : Nat} (ht : t < n) : pl xs t < n := by
  unfold pl
  have hm : (t : Int) ∈ xs := (ord_mem h).mpr (by omega)
  have := List.idxOf_lt_length_iff.mpr hm
  rwa [h.length] at this
theorem th_pl (h : IsOrd n xs) {t : Nat} (ht : t < n) : th xs (pl xs t) = t := by
  have h1 := pl_lt h ht
  have h2 := ord_get h h1
  have h3 : pl xs t < xs.length := by rw [h.length]; exact h1
  rw [List.getElem?_eq_getElem h3] at h2
  have h4 : xs[pl xs t] = (t : Int) := List.getElem_idxOf h3
  have := Option.some.inj h2
  omega
theorem pl_th (h : IsOrd n xs) {p : Nat} (hp : p < n) : pl xs (th xs p) = p := by
  have h1 := ord_get h hp
  have hl : p < xs.length := by rw [h.length]; exact hp
  rw [List.getElem?_eq_getElem hl] at h1
  have h2 := (ord_nodup h).idxOf_getElem p hl
  rw [Option.some.inj h1] at h2
  exact h2
theorem ord_bij (h : IsOrd n xs) : Bij n (th xs) (pl xs) := ⟨fun _ => th_lt h, fun _ => pl_lt h, fun _ => pl_th h, fun _ => th_pl h⟩
theorem pl_inj (h : IsOrd n xs) {a b : Nat} (ha : a < n) (hb : b < n) (e : pl xs a = pl xs b) : a = b := by
  rw [← th_pl h ha, e, th_pl h hb]
theorem th_inj (h : IsOrd n xs) {a b : Nat} (ha : a < n) (hb : b < n) (e : th xs a = th xs b) : a = b := by
  rw [← pl_th h ha, e, pl_th h hb]
theorem ord_ext (hx : IsOrd n xs) (hy : IsOrd n ys) (h : ∀ p, p < n → th xs p = th ys p) : xs = ys := by
  apply List.ext_getElem?
  intro p
  by_cases hp : p < n
  · rw [ord_get hx hp, ord_get hy hp, h p hp]
  · rw [List.getElem?_eq_none (by rw [hx.length]; omega), List.getElem?_eq_none (by rw [hy.length]; omega)]
/-- the difference of two numbers -/
def df (a b : Nat) : Nat := (a - b) + (b - a)
def swapD (n : Nat) (xs ys : List Int) : Nat := inv n (pl xs) (pl ys)
def spotD (n : Nat) (xs ys : List Int) : Nat := sm n fun p => bn (th xs p != th ys p)
def shiftD (n : Nat) (xs ys : List Int) : Nat := mx n fun t => df (pl xs t) (pl ys t)
end
end D
set_option maxRecDepth 100000
namespace D
open VP (iota IsOrd)
variable {n : Nat} {xs ys zs : List Int}
theorem sm_succ {f : Nat → Nat} : sm (n + 1) f = sm n f + f n := rfl
theorem bn_t {b : Bool} (h : b = true) : bn b = 1 := by rw [h]; rfl
theorem sm_delta (c : Nat) : ∀ {n t : Nat}, t < n → sm n (fun a => bn (decide (a = t)) * c) = c
  | 0, t, h => by omega
  | n + 1, t, h => by
    rw [sm_succ]
    by_cases e : n = t
    · subst e
      rw [decide_eq_true rfl, sm_congr (g := fun _ => 0) (fun i hi => by rw [decide_eq_false (by omega : ¬ i = n)]; show 0 * c = 0; omega), sm_zero]
      show 0 + 1 * c = c
      omega
    · rw [decide_eq_false e, sm_delta c (by omega)]
      show c + 0 * c = c
      omega
theorem sm_below : ∀ {n k : Nat}, k ≤ n → sm n (fun p => bn (decide (p < k))) = k
  | 0, k, h => by have : k = 0 := by omega
                  subst this; rfl
  | n + 1, k, h => by
    rw [sm_succ]
    by_cases e : n < k
    · have : k = n + 1 := by omega
      subst this
      rw [decide_eq_true e, sm_congr (g := fun _ => 1) (fun i hi => by rw [decide_eq_true (by omega : i < n + 1)]; rfl), sm_const]
      show n * 1 + 1 = n + 1
      omega
    · rw [decide_eq_false e, sm_below (by omega)]
      rfl
/-- a thing's place: how many stand ahead -/
theorem pl_rank (h : IsOrd n xs) {t : Nat} (ht : t < n) : pl xs t = sm n fun s => bn (decide (pl xs s < pl xs t)) := by
  have e := sm_bij (ord_bij h) (fun s => bn (decide (pl xs s < pl xs t)))
  rw [← e, sm_congr (g := fun p => bn (decide (p < pl xs t))) fun i hi => by rw [pl_th h hi]]
  exact (sm_below (Nat.le_of_lt (pl_lt h ht))).symm
/-- whether two things stand the other way round -/
def dif (xs ys : List Int) (s t : Nat) : Bool := decide (pl xs s < pl xs t) != decide (pl ys s < pl ys t)
theorem df_le (hx : IsOrd n xs) (hy : IsOrd n ys) {t : Nat} (ht : t < n) : df (pl xs t) (pl ys t) ≤ sm n fun s => bn (dif xs ys s t) := by
  have h1 : pl xs t ≤ pl ys t + sm n fun s => bn (dif xs ys s t) := by
    rw [pl_rank hx ht, pl_rank hy ht, ← sm_add]
    refine sm_le fun s _ => ?_
    unfold dif
    cases decide (pl xs s < pl xs t) <;> cases decide (pl ys s < pl ys t) <;> decide
  have h2 : pl ys t ≤ pl xs t + sm n fun s => bn (dif xs ys s t) := by
    rw [pl_rank hx ht, pl_rank hy ht, ← sm_add]
    refine sm_le fun s _ => ?_
    unfold dif
    cases decide (pl xs s < pl xs t) <;> cases decide (pl ys s < pl ys t) <;> decide
  unfold df
  omega
theorem dif_eq (hx : IsOrd n xs) (hy : IsOrd n ys) {s t : Nat} (hs : s < n) (ht : t < n) : bn (dif xs ys s t) = bn (decide (pl xs s < pl xs t) && decide (pl ys t < pl ys s)) + bn (decide (pl xs t < pl xs s) && decide (pl ys s < pl ys t)) := by
  unfold dif
  by_cases e : s = t
  · subst e
    rw [decide_eq_false (by omega : ¬ pl xs s < pl xs s), decide_eq_false (by omega : ¬ pl ys s < pl ys s)]
    rfl
  · have d1 : pl xs s ≠ pl xs t := fun q => e (pl_inj hx hs ht q)
    have d2 : pl ys s ≠ pl ys t := fun q => e (pl_inj hy hs ht q)
    rcases Nat.lt_or_gt_of_ne d1 with a1 | a1
    · rcases Nat.lt_or_gt_of_ne d2 with a2 | a2
      · rw [decide_eq_true a1, decide_eq_true a2, decide_eq_false (show ¬ pl xs t < pl xs s by omega), decide_eq_false (show ¬ pl ys t < pl ys s by omega)]; rfl
      · rw [decide_eq_true a1, decide_eq_true a2, decide_eq_false (show ¬ pl xs t < pl xs s by omega), decide_eq_false (show ¬ pl ys s < pl ys t by omega)]; rfl
    · rcases Nat.lt_or_gt_of_ne d2 with a2 | a2
      · rw [decide_eq_true a1, decide_eq_true a2, decide_eq_false (show ¬ pl xs s < pl xs t by omega), decide_eq_false (show ¬ pl ys t < pl ys s by omega)]; rfl
      · rw [decide_eq_true a1, decide_eq_true a2, decide_eq_false (show ¬ pl xs s < pl xs t by omega), decide_eq_false (show ¬ pl ys s < pl ys t by omega)]; rfl
theorem dif_sum (hx : IsOrd n xs) (hy : IsOrd n ys) {t : Nat} (ht : t < n) : (sm n fun s => bn (dif xs ys s t)) = (sm n fun s => bn (decide (pl xs s < pl xs t) && decide (pl ys t < pl ys s))) + sm n fun s => bn (decide (pl xs t < pl xs s) && decide (pl ys s < pl ys t)) := by
  rw [← sm_add]
  exact sm_congr fun s hs => dif_eq hx hy hs ht
theorem dif_le_swap (hx : IsOrd n xs) (hy : IsOrd n ys) {t : Nat} (ht : t < n) : (sm n fun s => bn (dif xs ys s t)) ≤ swapD n xs ys := by
  rw [dif_sum hx hy ht]
  let c := sm n fun s => bn (decide (pl xs t < pl xs s) && decide (pl ys s < pl ys t))
  show _ + c ≤ _
  have hc := sm_delta c ht
  rw [← hc, ← sm_add]
  unfold swapD inv
  refine sm_le fun a ha => ?_
  by_cases e : a = t
  · subst e
    rw [decide_eq_true rfl, decide_eq_false (by omega : ¬ pl xs a < pl xs a)]
    show 0 + 1 * c ≤ c
    omega
  · rw [decide_eq_false e]
    have := sm_pos (f := fun b => bn (decide (pl xs a < pl xs b) && decide (pl ys b < pl ys a))) ht
    show _ + 0 * c ≤ _
    have h0 : 0 * c = 0 := by omega
    rw [h0]
    exact this
theorem shift_le_swap (hx : IsOrd n xs) (hy : IsOrd n ys) : shiftD n xs ys ≤ swapD n xs ys :=
  mx_le.mpr fun t ht => Nat.le_trans (df_le hx hy ht) (dif_le_swap hx hy ht)
theorem df_comm (a b : Nat) : df a b = df b a := by unfold df; omega
theorem df_zero {a b : Nat} : df a b = 0 ↔ a = b := by unfold df; omega
theorem swap_comm : swapD n xs ys = swapD n ys xs := inv_comm _ _ _
theorem spot_comm : spotD n xs ys = spotD n ys xs := by
  unfold spotD
  refine sm_congr fun p _ => ?_
  rw [bne_comm]
theorem shift_comm : shiftD n xs ys = shiftD n ys xs := mx_congr fun t _ => df_comm _ _
theorem shift_zero (hx : IsOrd n xs) (hy : IsOrd n ys) : shiftD n xs ys = 0 ↔ xs = ys := by
  constructor
  · intro h
    have h1 : ∀ t, t < n → pl xs t = pl ys t := fun t ht => df_zero.mp (by
      have : df (pl xs t) (pl ys t) ≤ shiftD n xs ys := le_mx (f := fun t => df (pl xs t) (pl ys t)) ht
      omega)
    refine ord_ext hx hy fun p hp => ?_
    have h2 := h1 (th xs p) (th_lt hx hp)
    rw [pl_th hx hp] at h2
    have h3 := th_pl hy (th_lt hx hp)
    rw [← h2] at h3
    exact h3.symm
  · intro h
    subst h
    exact Nat.le_zero.mp (mx_le.mpr fun t _ => by rw [df_zero.mpr rfl]; exact Nat.le_refl _)
theorem swap_zero (hx : IsOrd n xs) (hy : IsOrd n ys) : swapD n xs ys = 0 ↔ xs = ys := by
  constructor
  · intro h
    have := shift_le_swap hx hy
    exact (shift_zero hx hy).mp (by omega)
  · intro h
    subst h
    exact sm_eq_zero.mpr fun a _ => sm_eq_zero.mpr fun b _ => by
      by_cases q : pl xs a < pl xs b
      · rw [decide_eq_false (by omega : ¬ pl xs b < pl xs a), Bool.and_false]; rfl
      · rw [decide_eq_false q]; rfl
theorem spot_zero (hx : IsOrd n xs) (hy : IsOrd n ys) : spotD n xs ys = 0 ↔ xs = ys := by
  constructor
  · intro h
    refine ord_ext hx hy fun p hp => ?_
    have := sm_eq_zero.mp h p hp
    by_cases q : th xs p = th ys p
    · exact q
    · rw [bn_t (bne_iff_ne.mpr q)] at this; omega
  · intro h
    subst h
    exact sm_eq_zero.mpr fun p _ => by simp [bn]
end D
set_option maxRecDepth 100000
namespace D
open VP (iota IsOrd)
variable {n : Nat} {xs ys zs : List Int}
/-- the list of n numbers told by f -/
def lst (n : Nat) (f : Nat → Nat) : List Int := (List.range n).map fun i => ((f i : Nat) : Int)
theorem lst_len (f : Nat → Nat) : (lst n f).length = n := by unfold lst; rw [List.length_map, List.length_range]
theorem lst_getD {f : Nat → Nat} {p : Nat} (hp : p < n) : (lst n f).getD p 0 = (f p : Int) := by
  unfold lst
  rw [List.getD_eq_getElem?_getD, List.getElem?_map, List.getElem?_range hp]
  rfl
theorem th_lst {f : Nat → Nat} {p : Nat} (hp : p < n) : th (lst n f) p = f p := by
  unfold th
  rw [lst_getD hp]
  rfl
theorem lst_ord {π ρ : Nat → Nat} (h : Bij n π ρ) : IsOrd n (lst n π) := by
  have := (h.perm).map (fun i : Nat => (i : Int))
  rw [List.map_map] at this
  exact this
theorem pl_lst {π ρ : Nat → Nat} (h : Bij n π ρ) {t : Nat} (ht : t < n) : pl (lst n π) t = ρ t := by
  have h1 : th (lst n π) (ρ t) = t := by rw [th_lst (h.lt' t ht), h.r t ht]
  have := pl_th (lst_ord h) (h.lt' t ht)
  rw [h1] at this
  exact this
theorem iota_ord : IsOrd n (iota n) := List.Perm.refl _
theorem Bij.comp {π ρ π' ρ' : Nat → Nat} (h : Bij n π ρ) (h' : Bij n π' ρ') : Bij n (fun i => π (π' i)) fun i => ρ' (ρ i) :=
  ⟨fun i hi => h.lt _ (h'.lt i hi), fun i hi => h'.lt' _ (h.lt' i hi), fun i hi => by rw [h.l _ (h'.lt i hi), h'.l i hi], fun i hi => by rw [h'.r _ (h.lt' i hi), h.r i hi]⟩
/-- the back of an order -/
def bk (n : Nat) (xs : List Int) : List Int := lst n (pl xs)
/-- one order behind another one -/
def beh (n : Nat) (xs ys : List Int) : List Int := lst n fun p => th xs (th ys p)
theorem beh_ord (hx : IsOrd n xs) (hy : IsOrd n ys) : IsOrd n (beh n xs ys) := lst_ord ((ord_bij hx).comp (ord_bij hy))
theorem th_beh {p : Nat} (hp : p < n) : th (beh n xs ys) p = th xs (th ys p) := th_lst hp
theorem pl_beh (hx : IsOrd n xs) (hy : IsOrd n ys) {t : Nat} (ht : t < n) : pl (beh n xs ys) t = pl ys (pl xs t) := pl_lst ((ord_bij hx).comp (ord_bij hy)) ht
/-- things called otherwise -/
theorem swap_beh (hx : IsOrd n xs) (hy : IsOrd n ys) (hz : IsOrd n zs) : swapD n (beh n zs xs) (beh n zs ys) = swapD n xs ys := by
  unfold swapD
  rw [← inv_bij (ord_bij hz).symm (h := pl xs) (g := pl ys)]
  exact inv_congr (fun i hi => pl_beh hz hx hi) (fun i hi => pl_beh hz hy hi)
theorem spot_beh (hx : IsOrd n xs) (hy : IsOrd n ys) (hz : IsOrd n zs) : spotD n (beh n zs xs) (beh n zs ys) = spotD n xs ys := by
  unfold spotD
  refine sm_congr fun p hp => ?_
  rw [th_beh hp, th_beh hp]
  congr 1
  by_cases e : th xs p = th ys p
  · rw [e]; simp
  · rw [bne_iff_ne.mpr e, bne_iff_ne.mpr fun q => e (th_inj hz (th_lt hx hp) (th_lt hy hp) q)]
theorem shift_beh (hx : IsOrd n xs) (hy : IsOrd n ys) (hz : IsOrd n zs) : shiftD n (beh n zs xs) (beh n zs ys) = shiftD n xs ys := by
  unfold shiftD
  rw [← mx_bij (ord_bij hz).symm (fun t => df (pl xs t) (pl ys t))]
  exact mx_congr fun t ht => by rw [pl_beh hz hx ht, pl_beh hz hy ht]
theorem rev_bij : Bij n (fun i => n - 1 - i) fun i => n - 1 - i := ⟨fun i h => by omega, fun i h => by omega, fun i h => by omega, fun i h => by omega⟩
theorem rev_ord (h : IsOrd n xs) : IsOrd n xs.reverse := (List.reverse_perm xs).trans h
theorem th_rev (h : IsOrd n xs) {p : Nat} (hp : p < n) : th xs.reverse p = th xs (n - 1 - p) := by
  unfold th
  rw [List.getD_eq_getElem?_getD, List.getD_eq_getElem?_getD, List.getElem?_reverse (by rw [h.length]; exact hp), h.length]
theorem pl_rev (h : IsOrd n xs) {t : Nat} (ht : t < n) : pl xs.reverse t = n - 1 - pl xs t := by
  have h1 := pl_lt h ht
  have h2 : th xs.reverse (n - 1 - pl xs t) = t := by
    rw [th_rev h (by omega), show n - 1 - (n - 1 - pl xs t) = pl xs t by omega, th_pl h ht]
  have := pl_th (rev_ord h) (show n - 1 - pl xs t < n by omega)
  rw [h2] at this
  exact this
theorem swap_rev (hx : IsOrd n xs) (hy : IsOrd n ys) : swapD n xs.reverse ys.reverse = swapD n xs ys := by
  unfold swapD
  rw [inv_congr (h' := fun t => n - 1 - pl xs t) (g' := fun t => n - 1 - pl ys t) (fun i hi => pl_rev hx hi) (fun i hi => pl_rev hy hi)]
  unfold inv
  rw [sm_comm]
  refine sm_congr fun a ha => sm_congr fun b hb => ?_
  have := pl_lt hx ha
  have := pl_lt hx hb
  have := pl_lt hy ha
  have := pl_lt hy hb
  congr 1
  congr 1
  · exact decide_eq_decide.mpr (by dsimp only; omega)
  · exact decide_eq_decide.mpr (by dsimp only; omega)
theorem spot_rev (hx : IsOrd n xs) (hy : IsOrd n ys) : spotD n xs.reverse ys.reverse = spotD n xs ys := by
  unfold spotD
  rw [← sm_bij (rev_bij (n := n)) (fun p => bn (th xs p != th ys p))]
  exact sm_congr fun p hp => by rw [th_rev hx hp, th_rev hy hp]
theorem shift_rev (hx : IsOrd n xs) (hy : IsOrd n ys) : shiftD n xs.reverse ys.reverse = shiftD n xs ys := by
  unfold shiftD
  refine mx_congr fun t ht => ?_
  rw [pl_rev hx ht, pl_rev hy ht]
  have := pl_lt hx ht
  have := pl_lt hy ht
  unfold df
  omega
inductive Way where
  | swap | spot | shift
def far (w : Way) (n : Nat) (xs ys : List Int) : Nat := match w with
  | .swap => swapD n xs ys
  | .spot => spotD n xs ys
  | .shift => shiftD n xs ys
variable {w : Way}
theorem far_comm : far w n xs ys = far w n ys xs := by
  cases w
  · exact swap_comm
  · exact spot_comm
  · exact shift_comm
theorem far_zero (hx : IsOrd n xs) (hy : IsOrd n ys) : far w n xs ys = 0 ↔ xs = ys := by
  cases w
  · exact swap_zero hx hy
  · exact spot_zero hx hy
  · exact shift_zero hx hy
theorem far_self (hx : IsOrd n xs) : far w n xs xs = 0 := (far_zero hx hx).mpr rfl
theorem far_beh (hx : IsOrd n xs) (hy : IsOrd n ys) (hz : IsOrd n zs) : far w n (beh n zs xs) (beh n zs ys) = far w n xs ys := by
  cases w
  · exact swap_beh hx hy hz
  · exact spot_beh hx hy hz
  · exact shift_beh hx hy hz
theorem far_rev (hx : IsOrd n xs) (hy : IsOrd n ys) : far w n xs.reverse ys.reverse = far w n xs ys := by
  cases w
  · exact swap_rev hx hy
  · exact spot_rev hx hy
  · exact shift_rev hx hy
def most (w : Way) (n : Nat) : Nat := match w with
  | .swap => n * (n - 1) / 2
  | .spot => n
  | .shift => n - 1
end D
set_option maxRecDepth 100000
namespace TM
open PySem VL VP D PySem.SeqAt
open L2 (atI ixN)
variable {n : Nat} {xs ys zs : List Int}
theorem sort_iota (h : IsOrd n xs) : xs.mergeSort leI = iota n := sort_ord h
theorem is_order_ok (h : IsOrd n xs) (h1 : 1 ≤ n) (h2 : n ≤ 12) : m_is_order xs = .ok true := by
  have hl := h.length
  unfold m_is_order
  rw [if_neg (by rw [decide_eq_true (by omega : (1 : Int) ≤ (xs.length : Int)), decide_eq_true (by omega : (xs.length : Int) ≤ 12)]; decide)]
  have e : lcM (fun (x1 : Int) => R.calm (R.bind (m_is_whole x1) fun v2 => if (!v2) = true then (.ok (some x1)) else (.ok none))) xs [] = .ok ([] : List Int) := by
    have := lcM_eq (step := fun (x1 : Int) => (R.bind (m_is_whole x1) fun v2 => if (!v2) = true then (.ok (some x1)) else (.ok none))) (fun _ => false) (fun x => x) (xs := xs) (by unfold big; omega) (fun x _ => rfl)
    rw [this, List.filter_eq_nil_iff.mpr (fun _ _ => by decide)]
    rfl
  rw [e, bind_ok, if_neg (by decide), hl, lrg1_nat (by omega), ob_some, sort_iota h, decide_eq_true rfl]
theorem need_order_ok (h : IsOrd n xs) (h1 : 1 ≤ n) (h2 : n ≤ 12) : m_need_order xs = .ok () := by
  unfold m_need_order
  rw [is_order_ok h h1 h2]
  rfl
theorem enumT_len {τ : Type} (xs : List τ) : ∀ i, (enumT i xs).length = xs.length := by
  induction xs with
  | nil => intro i; rfl
  | cons x xs ih => intro i; show (enumT (i + 1) xs).length + 1 = _; rw [ih]; rfl
theorem enumT_get {τ : Type} : ∀ (xs : List τ) (i k : Nat) (h : k < (enumT i xs).length), (enumT i xs)[k] = (((i + k : Nat) : Int), xs[k]'(by rw [← enumT_len xs i]; exact h))
  | [], i, k, h => by simp [enumT] at h
  | x :: xs, i, 0, h => rfl
  | x :: xs, i, k + 1, h => by
    show (enumT (i + 1) xs)[k]'_ = _
    rw [enumT_get xs (i + 1) k]
    show ((((i + 1 + k : Nat)) : Int), xs[k]'_) = (((i + (k + 1) : Nat) : Int), xs[k]'_)
    rw [show i + 1 + k = i + (k + 1) by omega]
theorem mulL_zeros {n : Nat} (h : n ≤ 1000) : mulL [(0 : Int)] (n : Int) = some (List.replicate n 0) := by
  unfold mulL big
  rw [if_pos ⟨by omega, by simp; omega⟩, Int.toNat_natCast]
  congr 1
  induction n with
  | zero => rfl
  | succ n ih =>
    rw [List.replicate_succ, List.flatten_cons, ih (by omega), List.replicate_succ]
    rfl
theorem turned_back_ok (h : IsOrd n xs) (h2 : n ≤ 1000) : m_turned_back xs = .ok (bk n xs) := by
  have hl := h.length
  unfold m_turned_back
  rw [hl, mulL_zeros h2, ob_some]
  have key := sat_foldM (mb := fun (s4 : List Int) (x5 : Int × Int) => ob (setI s4 x5.2 x5.1) fun v6 => R.ok v6) (fun k s => s.length = n ∧ ∀ t, t < n → s.getD t 0 = if pl xs t < k then (pl xs t : Int) else 0) (enumT 0 xs) 0 (List.replicate n 0) ⟨List.length_replicate, fun t ht => by
      rw [if_neg (by omega), List.getD_eq_getElem?_getD, List.getElem?_replicate, if_pos ht]; rfl⟩ fun i s hi hs => by
    obtain ⟨s1, s2⟩ := hs
    rw [enumT_len] at hi
    have hin : i < n := by omega
    have hx : (enumT 0 xs)[i]'(by rw [enumT_len]; exact hi) = ((i : Int), ((th xs i : Nat) : Int)) := by
      rw [enumT_get]
      have := ord_get h hin
      rw [List.getElem?_eq_getElem hi] at this
      rw [Option.some.inj this]
      simp
    rw [hx]
    have ht := th_lt h hin
    refine sat_ob (setI_of (by omega) (by omega)) (sat_ok ⟨by rw [List.length_set]; exact s1, fun t htn => ?_⟩)
    rw [Int.toNat_natCast, List.getD_eq_getElem?_getD]
    by_cases e : th xs i = t
    · subst e
      rw [List.getElem?_set_self (by omega), pl_th h hin, if_pos (by omega)]
      rfl
    · rw [List.getElem?_set_ne e, ← List.getD_eq_getElem?_getD, s2 t htn]
      have : pl xs t ≠ i := fun z => e (by rw [← z, th_pl h htn])
      by_cases q : pl xs t < i
      · rw [if_pos (by omega), if_pos (by omega)]
      · rw [if_neg (by omega), if_neg (by omega)]
  obtain ⟨s, h1, h3, h4⟩ := key
  rw [h1, bind_ok]
  congr 1
  apply List.ext_getElem?
  intro t
  by_cases ht : t < n
  · have := h4 t ht
    rw [enumT_len, if_pos (by have := pl_lt h ht; omega), List.getD_eq_getElem?_getD, List.getElem?_eq_getElem (by omega)] at this
    have h5 := lst_getD (f := pl xs) ht
    rw [List.getD_eq_getElem?_getD, List.getElem?_eq_getElem (by rw [lst_len]; exact ht)] at h5
    rw [List.getElem?_eq_getElem (by omega)]
    unfold bk
    rw [List.getElem?_eq_getElem (by rw [lst_len]; exact ht)]
    have e1 : s[t]'(by omega) = (pl xs t : Int) := this
    have e2 : (lst n (pl xs))[t]'(by rw [lst_len]; exact ht) = (pl xs t : Int) := h5
    rw [e1, e2]
  · rw [List.getElem?_eq_none (by omega), List.getElem?_eq_none (by unfold bk; rw [lst_len]; omega)]
theorem at_ord (h : IsOrd n xs) {p : Nat} (hp : p < n) : atI xs (p : Int) = some ((th xs p : Nat) : Int) := by
  have := ord_get h hp
  rw [at_nat (by rw [h.length]; exact hp)]
  rwa [List.getElem?_eq_getElem] at this
theorem at_lst {f : Nat → Nat} {p : Nat} (hp : p < n) : atI (lst n f) (p : Int) = some ((f p : Nat) : Int) := by
  rw [at_nat (by rw [lst_len]; exact hp)]
  unfold lst
  simp
def wS : Way → Str
  | .swap => "swap"
  | .spot => "spot"
  | .shift => "shift"
theorem shaped_way (w : Way) : shaped (W.Datum.toD (wS w)) = true := by cases w <;> decide +kernel
instance : DecidableEq Way := fun a b => by cases a <;> cases b <;> first | exact isTrue rfl | exact isFalse (fun h => by cases h)
theorem eqG_way (w v : Way) : eqG (wS w) (wS v) = some (decide (w = v)) := by
  unfold eqG
  rw [if_pos (by rw [shaped_way, shaped_way]; rfl)]
  cases w <;> cases v <;> decide +kernel
theorem need_way_ok (w : Way) : m_need_way (wS w) = .ok () := by
  unfold m_need_way
  rw [if_neg (by cases w <;> decide +kernel)]
theorem countP_sm (p : Nat → Bool) : ∀ n, ((List.range n).filter p).length = sm n fun i => bn (p i)
  | 0 => rfl
  | n + 1 => by
    rw [List.range_succ, List.filter_append, List.length_append, countP_sm p n, sm_succ]
    congr 1
    cases q : p n <;> simp [q, bn]
theorem mem_iotaN {n : Nat} {x : Int} (h : x ∈ iota n) : ∃ p : Nat, p < n ∧ x = (p : Int) := by
  obtain ⟨h1, h2⟩ := mem_iota.mp h
  exact ⟨x.toNat, by omega, by omega⟩
theorem filter_iota (p : Nat → Bool) (n : Nat) : ((iota n).filter fun x => p x.toNat).length = sm n fun i => bn (p i) := by
  unfold iota
  rw [List.filter_map, List.length_map, ← countP_sm]
  rfl
theorem max_foldl : ∀ (f : Nat → Nat) (n : Nat) (a : Nat), ((List.range n).map fun i => ((f i : Nat) : Int)).foldl max (a : Int) = ((max a (mx n f) : Nat) : Int)
  | f, 0, a => by simp [mx]
  | f, n + 1, a => by
    rw [List.range_succ, List.map_append, List.foldl_append, max_foldl f n a]
    show max _ ((f n : Nat) : Int) = ((max a (max (mx n f) (f n)) : Nat) : Int)
    omega
theorem maxL_mx (f : Nat → Nat) {n : Nat} (h : 1 ≤ n) : maxL ((List.range n).map fun i => ((f i : Nat) : Int)) = some ((mx n f : Nat) : Int) := by
  obtain ⟨m, rfl⟩ : ∃ m, n = m + 1 := ⟨n - 1, by omega⟩
  rw [List.range_succ_eq_map, List.map_cons, List.map_map]
  show some (List.foldl max ((f 0 : Nat) : Int) _) = _
  have := max_foldl (fun i => f (i + 1)) m (f 0)
  congr 1
  refine Eq.trans this ?_
  congr 1
  have key : ∀ m, max (f 0) (mx m fun i => f (i + 1)) = mx (m + 1) f := by
    intro m
    induction m with
    | zero => show max (f 0) 0 = max 0 (f 0); omega
    | succ m ih =>
      show max (f 0) (max (mx m fun i => f (i + 1)) (f (m + 1))) = max (mx (m + 1) f) (f (m + 1))
      rw [← ih]
      omega
  exact key m
theorem far_by_spot (hx : IsOrd n xs) (hy : IsOrd n ys) (h2 : n ≤ 1000) : m_far_by (wS .spot) xs ys = .ok ((spotD n xs ys : Nat) : Int) := by
  unfold m_far_by
  rw [show (("spot" : Str)) = wS .spot from rfl, eqG_way, ob_some, if_pos (by decide), hx.length, rg1_nat (by omega), ob_some]
  have e := lcM_eq (step := fun (x3 : Int) => ob (atI xs x3) fun v4 => ob (atI ys x3) fun v5 => if (!decide (v4 = v5)) = true then (.ok (some x3)) else (.ok none)) (fun x => th xs x.toNat != th ys x.toNat) (fun x => x) (xs := iota n) (by rw [iota_len]; unfold big; omega) (fun x hx' => by
    obtain ⟨p, hp, rfl⟩ := mem_iotaN hx'
    rw [at_ord hx hp, ob_some, at_ord hy hp, ob_some, Int.toNat_natCast]
    by_cases q : th xs p = th ys p
    · rw [q]; simp
    · rw [decide_eq_false (by omega), bne_iff_ne.mpr q]; rfl)
  rw [e, bind_ok, List.map_id']
  have := filter_iota (fun p => th xs p != th ys p) n
  rw [this]
  rfl
theorem zip_lst (f g : Nat → Nat) : (lst n f).zip (lst n g) = (List.range n).map fun i => (((f i : Nat) : Int), ((g i : Nat) : Int)) := by
  unfold lst
  rw [List.zip_map', ]
theorem absI_df (a b : Nat) : absI ((a : Int) - (b : Int)) = ((df a b : Nat) : Int) := by
  unfold absI df
  split <;> omega
theorem far_by_shift (hx : IsOrd n xs) (hy : IsOrd n ys) (h1 : 1 ≤ n) (h2 : n ≤ 1000) : m_far_by (wS .shift) xs ys = .ok ((shiftD n xs ys : Nat) : Int) := by
  unfold m_far_by
  rw [show (("spot" : Str)) = wS .spot from rfl, show (("shift" : Str)) = wS .shift from rfl, eqG_way, ob_some, if_neg (by decide), turned_back_ok hx h2, bind_ok, turned_back_ok hy h2, bind_ok, eqG_way, ob_some, if_pos (by decide)]
  unfold bk
  rw [zip_lst, lcP_map _ (by rw [List.length_map, List.length_range]; unfold big; omega), ob_some, List.map_map]
  have : (List.range n).map ((fun x10 : Int × Int => absI (x10.1 - x10.2)) ∘ fun i => (((pl xs i : Nat) : Int), ((pl ys i : Nat) : Int))) = (List.range n).map fun i => ((df (pl xs i) (pl ys i) : Nat) : Int) := List.map_congr_left fun i _ => absI_df _ _
  rw [this, maxL_mx _ h1]
  rfl
theorem far_by_swap (hx : IsOrd n xs) (hy : IsOrd n ys) (h2 : n ≤ 1000) : m_far_by (wS .swap) xs ys = .ok ((swapD n xs ys : Nat) : Int) := by
  unfold m_far_by
  rw [show (("spot" : Str)) = wS .spot from rfl, show (("shift" : Str)) = wS .shift from rfl, eqG_way, ob_some, if_neg (by decide), turned_back_ok hx h2, bind_ok, turned_back_ok hy h2, bind_ok, eqG_way, ob_some, if_neg (by decide), hx.length, rg1_nat (by omega), ob_some]
  unfold bk
  let D := fun t => sm t fun l => bn (decide (pl xs l < pl xs t) != decide (pl ys l < pl ys t))
  have key : Sat _ _ := sat_foldM (mb := fun (s76 : Int) (x77 : Int) =>
      R.bind (ob (rg1 x77) fun xs78 =>
      foldM (fun (s97 : Int) (x98 : Int) =>
      R.bind (ob (atI (lst n (pl xs)) x98) fun v104 =>
      ob (atI (lst n (pl xs)) x77) fun v105 =>
      ob (atI (lst n (pl ys)) x98) fun v106 =>
      ob (atI (lst n (pl ys)) x77) fun v107 =>
      if (!decide ((decide (v104 < v105)) = (decide (v106 < v107)))) = true then
      (.ok ((s97 + (1 : Int))))
      else
      (.ok s97)) fun (s103 : Int) =>
      .ok s103) xs78 s76) fun (s108 : Int) =>
      R.ok s108) (fun k s => s = ((sm k D : Nat) : Int)) (iota n) 0 0 rfl fun t s ht hs => by
    rw [iota_len] at ht
    rw [iota_get, Nat.zero_add] at *
    subst hs
    rw [rg1_nat (by omega), ob_some]
    refine sat_bind (Q := fun s => s = ((sm (t + 1) D : Nat) : Int)) ?_ fun a ha => sat_ok ha
    have inner := sat_foldM (mb := fun (s97 : Int) (x98 : Int) =>
      R.bind (ob (atI (lst n (pl xs)) x98) fun v104 =>
      ob (atI (lst n (pl xs)) (t : Int)) fun v105 =>
      ob (atI (lst n (pl ys)) x98) fun v106 =>
      ob (atI (lst n (pl ys)) (t : Int)) fun v107 =>
      if (!decide ((decide (v104 < v105)) = (decide (v106 < v107)))) = true then
      (.ok ((s97 + (1 : Int))))
      else
      (.ok s97)) fun (s103 : Int) =>
      R.ok s103) (fun k s => s = ((sm t D + sm k (fun l => bn (decide (pl xs l < pl xs t) != decide (pl ys l < pl ys t))) : Nat) : Int)) (iota t) 0 ((sm t D : Nat) : Int) rfl fun l s hl hs => by
        rw [iota_len] at hl
        rw [iota_get, Nat.zero_add] at *
        subst hs
        rw [at_lst (by omega), ob_some, at_lst ht, ob_some, at_lst (by omega), ob_some, at_lst ht, ob_some]
        have e1 : decide (((pl xs l : Nat) : Int) < ((pl xs t : Nat) : Int)) = decide (pl xs l < pl xs t) := decide_eq_decide.mpr (by omega)
        have e2 : decide (((pl ys l : Nat) : Int) < ((pl ys t : Nat) : Int)) = decide (pl ys l < pl ys t) := decide_eq_decide.mpr (by omega)
        rw [e1, e2]
        rw [sm_succ]
        cases decide (pl xs l < pl xs t) <;> cases decide (pl ys l < pl ys t) <;> refine ⟨_, rfl, ?_⟩ <;> simp only [show bn (false != false) = 0 from rfl, show bn (true != true) = 0 from rfl, show bn (true != false) = 1 from rfl, show bn (false != true) = 1 from rfl] <;> omega
    rw [iota_len, Nat.zero_add] at inner
    exact inner
  rw [iota_len, Nat.zero_add] at key
  obtain ⟨s, hs, e⟩ := key
  rw [hs, bind_ok, e]
  unfold swapD
  rw [inv_half n _ _ (fun a b ha hb => pl_inj hx ha hb) (fun a b ha hb => pl_inj hy ha hb)]
theorem far_by_ok (w : Way) (hx : IsOrd n xs) (hy : IsOrd n ys) (h1 : 1 ≤ n) (h2 : n ≤ 1000) : m_far_by (wS w) xs ys = .ok ((far w n xs ys : Nat) : Int) := by
  cases w
  · exact far_by_swap hx hy h2
  · exact far_by_spot hx hy h2
  · exact far_by_shift hx hy h1 h2
theorem popI_perm {xs : List Int} {i : Int} (h0 : 0 ≤ i) (h1 : i < xs.length) (hb : xs.length ≤ big) : ∃ x ys, popI xs i = some (x, ys) ∧ (x :: ys).Perm xs ∧ ys.length + 1 = xs.length := by
  refine ⟨_, _, popI_of h0 h1 hb, ?_, ?_⟩
  · exact erase_perm (by omega)
  · rw [List.length_eraseIdx, if_pos (by omega)]; omega
theorem swap_ok {xs : List Int} {p q : Int} (h0 : 0 ≤ p) (h1 : p < xs.length) (h2 : 0 ≤ q) (h3 : q < xs.length) : ∃ a b ys zs, atI xs q = some a ∧ atI xs p = some b ∧ setI xs p a = some ys ∧ setI ys q b = some zs ∧ zs.Perm xs := by
  refine ⟨_, _, _, _, at_of h2 h3, at_of h0 h1, setI_of h0 h1, setI_of h2 (by rw [List.length_set]; exact h3), ?_⟩
  exact swap_perm (by omega) (by omega)
/-- all taken out, one after the other -/
theorem pops_ok {deck : Dk} {left : List Int} {xs3 : List Int} (hd : DkOk deck) (hl : xs3.length = left.length) (h2 : left.length ≤ 1000) :
    Sat (lcS (fun (s9 : (Dk × (List Int))) (x4 : Int) => R.calm (R.bind (m__law_draw s9.1 ((s9.2.length : Int))) fun v10 =>
    ob (popI s9.2 v10.1) fun v11 =>
    .ok (some v11.1, (v10.2, v11.2)))) xs3 [] (deck, left)) fun r => r.1.Perm left ∧ DkOk r.2.1 := by
  have := sat_lcS (step := fun (s9 : (Dk × (List Int))) (x4 : Int) => R.calm (R.bind (m__law_draw s9.1 ((s9.2.length : Int))) fun v10 =>
    ob (popI s9.2 v10.1) fun v11 =>
    R.ok (some v11.1, (v10.2, v11.2)))) (fun k acc s => DkOk s.1 ∧ (acc ++ s.2).Perm left ∧ s.2.length + k = left.length) xs3 0 [] (deck, left) (by simp) (by unfold big; omega) ⟨hd, List.Perm.refl _, by show left.length + 0 = left.length; omega⟩ fun i acc s hi hs => by
      obtain ⟨s1, s2⟩ := s
      obtain ⟨q1, q2, q3⟩ := hs
      dsimp only at q1 q2 q3 ⊢
      obtain ⟨v, d', e1, v0, v1, ok'⟩ := draw_spec (many := (s2.length : Int)) q1 (by omega) (by omega)
      obtain ⟨x, ys, e2, p1, p2⟩ := popI_perm (xs := s2) v0 (by omega) (by unfold big; omega)
      refine sat_calm ?_
      rw [e1, bind_ok, e2, ob_some]
      refine sat_ok ⟨ok', ?_, by dsimp only; omega⟩
      refine List.Perm.trans ?_ q2
      rw [List.append_assoc]
      exact List.Perm.append_left acc p1
  refine this.mono fun r ⟨h1, h3, h4⟩ => ⟨?_, h1⟩
  have h5 : r.2.2 = [] := List.eq_nil_of_length_eq_zero (by omega)
  rw [h5, List.append_nil] at h3
  exact h3
theorem order_ok {deck : Dk} (hd : DkOk deck) (h1 : 1 ≤ n) (h2 : n ≤ 12) : Sat (m__law_order deck (n : Int)) fun r => IsOrd n r.1 ∧ DkOk r.2 := by
  unfold m__law_order
  obtain ⟨v, d1, e1, v0, v1, ok1⟩ := draw_spec (many := 4) hd (by decide) (by decide)
  rw [lrg1_nat (by omega), ob_some, e1, bind_ok]
  refine sat_ite (fun _ => ?_) fun _ => ?_
  · rw [rg1_nat (by omega), ob_some]
    exact sat_bind (pops_ok ok1 rfl (by rw [iota_len]; omega)) fun r hr => sat_ok hr
  · refine sat_bind (Q := fun s => IsOrd n s) ?_ fun s hs => ?_
    · refine sat_ite (fun _ => sat_ok (rev_ord iota_ord)) fun _ => sat_ok iota_ord
    obtain ⟨u, d2, e2, u0, u1, ok2⟩ := draw_spec (many := 7) ok1 (by decide) (by decide)
    refine sat_bind (Q := fun (s : Dk × List Int) => IsOrd n s.2 ∧ DkOk s.1) ?_ fun s h => sat_ok h
    rw [e2, bind_ok, mulI_l (by omega), ob_some]
    have hb : 0 ≤ b2i (decide ((1 : Int) < n)) ∧ b2i (decide ((1 : Int) < n)) ≤ 1 := by unfold b2i; split <;> omega
    have hm : (u * b2i (decide ((1 : Int) < n))).natAbs ≤ 1000000000 := by
      have h3 : b2i (decide ((1 : Int) < n)) = 0 ∨ b2i (decide ((1 : Int) < n)) = 1 := by omega
      rcases h3 with h3 | h3 <;> rw [h3] <;> omega
    rw [rg1_of hm, ob_some]
    by_cases hn : n = 1
    · subst hn
      have : u * b2i (decide ((1 : Int) < ((1 : Nat) : Int))) = 0 := by rw [show b2i (decide ((1 : Int) < ((1 : Nat) : Int))) = 0 by decide]; omega
      rw [this]
      exact sat_ok ⟨hs, ok2⟩
    · refine sat_fold (fun (s : Dk × List Int) => IsOrd n s.2 ∧ DkOk s.1) ⟨hs, ok2⟩ fun s x _ ⟨q1, q2⟩ => ?_
      obtain ⟨v, d', e3, v0, v1, ok3⟩ := draw_spec (many := (n : Int) - 1) q2 (by omega) (by omega)
      rw [e3, bind_ok]
      have hl := q1.length
      obtain ⟨a, b, ys, zs, g1, g2, g3, g4, g5⟩ := swap_ok (xs := s.2) (p := v) (q := v + 1) v0 (by omega) (by omega) (by omega)
      dsimp only
      rw [g1, ob_some, g2, ob_some, g3, ob_some, g4, ob_some]
      exact sat_ok ⟨g5.trans q1, ok3⟩
theorem near_ok {deck : Dk} (hd : DkOk deck) (hx : IsOrd n xs) (h1 : 1 ≤ n) (h2 : n ≤ 12) : Sat (m__law_near deck xs) fun r => IsOrd n r.1 ∧ DkOk r.2 := by
  unfold m__law_near
  have hl := hx.length
  obtain ⟨v, d1, e1, v0, v1, ok1⟩ := draw_spec (many := 5) hd (by decide) (by decide)
  rw [e1, bind_ok]
  refine sat_ite (fun _ => ?_) fun w0 => ?_
  · rw [hl]
    exact sat_bind (order_ok ok1 h1 h2) fun r hr => sat_ok hr
  refine sat_ite (fun _ => sat_ok ⟨rev_ord hx, ok1⟩) fun w1 => ?_
  refine sat_ite (fun _ => ?_) fun w2 => ?_
  · obtain ⟨u, d2, e2, u0, u1, ok2⟩ := draw_spec (many := (xs.length : Int)) ok1 (by omega) (by omega)
    obtain ⟨x, ys, e3, p1, p2⟩ := popI_perm (xs := xs) u0 (by omega) (by unfold big; omega)
    obtain ⟨t, d3, e4, t0, t1, ok3⟩ := draw_spec (many := (xs.length : Int)) ok2 (by omega) (by omega)
    rw [e2, bind_ok, e3, ob_some, e4, bind_ok]
    dsimp only
    rw [insL_of t0 (by omega) (by unfold big; omega), ob_some]
    refine sat_ok ⟨?_, ok3⟩
    refine List.Perm.trans ?_ (p1.trans hx)
    rw [List.append_assoc]
    refine List.Perm.trans List.perm_middle ?_
    exact List.Perm.cons x (by show (List.take t.toNat ys ++ List.drop t.toNat ys).Perm ys; rw [List.take_append_drop])
  · obtain ⟨u, d2, e2, u0, u1, ok2⟩ := draw_spec (many := 5) ok1 (by decide) (by decide)
    refine sat_bind (Q := fun (s : Dk × List Int) => IsOrd n s.2 ∧ DkOk s.1) ?_ fun s h => sat_ok h
    rw [e2, bind_ok, rg1_of (by omega), ob_some]
    refine sat_fold (fun (s : Dk × List Int) => IsOrd n s.2 ∧ DkOk s.1) ⟨hx, ok2⟩ fun s x _ ⟨q1, q2⟩ => ?_
    obtain ⟨p, d3, e3, p0, p1, ok3⟩ := draw_spec (many := (xs.length : Int)) q2 (by omega) (by omega)
    obtain ⟨q, d4, e4, r0, r1, ok4⟩ := draw_spec (many := (xs.length : Int)) ok3 (by omega) (by omega)
    have hl2 := q1.length
    have w0' := of_decide_eq_false w0
    have w1' := of_decide_eq_false w1
    have w2' := of_decide_eq_false w2
    dsimp only at w0' w1' w2'
    rw [e3, bind_ok, e4, bind_ok, at_of (by dsimp only; omega) (by dsimp only [List.length_cons, List.length_nil]; omega), ob_some]
    have hq : ∃ r : Int, 0 ≤ r ∧ r < s.2.length ∧ ([q, min2 ((xs.length : Int) - 1) (p + 1)] : List Int)[(v - 3).toNat]'(by dsimp only [List.length_cons, List.length_nil]; omega) = r := by
      have : v = 3 ∨ v = 4 := by omega
      rcases this with rfl | rfl
      · exact ⟨q, r0, by omega, rfl⟩
      · refine ⟨min2 ((xs.length : Int) - 1) (p + 1), ?_, ?_, rfl⟩ <;> unfold min2 <;> split <;> omega
    obtain ⟨r, r2, r3, r4⟩ := hq
    dsimp only
    rw [r4]
    obtain ⟨a, b, ys, zs, g1, g2, g3, g4, g5⟩ := swap_ok (xs := s.2) (p := p) (q := r) p0 (by omega) r2 r3
    rw [g1, ob_some, g2, ob_some, g3, ob_some, g4, ob_some]
    exact sat_ok ⟨g5.trans q1, ok4⟩
end TM
set_option maxRecDepth 100000
namespace D
open VP (iota IsOrd)
end D
set_option maxRecDepth 100000
namespace TM
open PySem VL VP D PySem.SeqAt
open L2 (atI ixN)
end TM
set_option maxRecDepth 100000
namespace TM
open PySem VL VP D PySem.SeqAt
open L2 (atI ixN)
variable {n : Nat} {xs ys zs : List Int} {τ κ υ : Type}
theorem cut_take (l : List τ) {i : Int} (h : 0 ≤ i) : cutD l none (some i) = l.take i.toNat := by
  obtain ⟨k, rfl⟩ : ∃ k : Nat, i = (k : Int) := ⟨i.toNat, by omega⟩
  unfold cutD
  have h1 : HT.sIx l.length l.length (some (k : Int)) = min k l.length := HT.sIx_nat l.length l.length k
  have h2 : HT.sIx l.length 0 none = 0 := HT.sIx_none _ _
  rw [h1, h2, Int.toNat_natCast, Nat.sub_zero, List.drop_zero]
  by_cases hk : k ≤ l.length
  · rw [Nat.min_eq_left hk]
  · rw [Nat.min_eq_right (by omega), List.take_of_length_le (Nat.le_refl _), List.take_of_length_le (by omega)]
end TM
set_option maxRecDepth 100000
namespace D
open VP (iota IsOrd)
variable {n : Nat} {xs ys zs : List Int}
def sw (p i : Nat) : Nat := if i = p then p + 1 else if i = p + 1 then p else i
/-- the first place from p on, of at most k, that stands behind its next -/
def fdn (g : Nat → Nat) : Nat → Nat → Nat
  | 0, p => p
  | k + 1, p => if g p < g (p + 1) then fdn g k (p + 1) else p
/-- the walk: k times the first place that stands behind its next -/
def W (n : Nat) : Nat → (Nat → Nat) → List Int
  | 0, _ => []
  | k + 1, g => ((fdn g (n - 1) 0 : Nat) : Int) :: W n k fun i => g (sw (fdn g (n - 1) 0) i)
/-- how many pairs stand wrong -/
def iv (n : Nat) (g : Nat → Nat) : Nat := inv n (fun i => i) g
end D
set_option maxRecDepth 100000
set_option maxHeartbeats 0
namespace K76
open PySem PySem.Spec PyProof.Rows L2 VL VP
def top (i : Nat) : Stmt := PySem.Challenge.pw_farorders_k76_whole_listers_otherwise.main.body.getD i (.Pass ⟨0, 0, 0, 0⟩)
abbrev s_is_whole : Stmt := top 11
abbrev s_need_way : Stmt := top 14
abbrev s_Lister___init__ : Stmt := inCls (top 20) 0
abbrev s_turned_back : Stmt := top 15
abbrev s_far_by : Stmt := top 16
abbrev s_Lister_nearer_than : Stmt := inCls (top 20) 1
abbrev s_is_order : Stmt := top 12
abbrev s_need_order : Stmt := top 13
abbrev s_Lister_come : Stmt := inCls (top 20) 2
abbrev s_Lister_least_apart : Stmt := inCls (top 20) 6
abbrev s_Lister_orders : Stmt := inCls (top 20) 5
abbrev s_Lister_undo : Stmt := inCls (top 20) 4
abbrev s__law_cell_at : Stmt := top 27
abbrev s__law_stir : Stmt := top 28
abbrev s__law_deck : Stmt := top 29
abbrev s_Lister_drop : Stmt := inCls (top 20) 3
abbrev s__law_next : Stmt := top 30
abbrev s__law_dropped_right : Stmt := top 36
abbrev s__law_near : Stmt := top 32
abbrev s__law_order : Stmt := top 31
abbrev s__law_free : Stmt := top 33
abbrev s_need_list : Stmt := top 23
abbrev s_need_asked : Stmt := top 24
abbrev s_nearest_of : Stmt := top 25
abbrev s__law_told_right : Stmt := top 35
abbrev s__law_turned : Stmt := top 34
abbrev s_law : Stmt := top 37
/-- what the module holds -/
structure Fc (K : PySem.W.Frag) (mg : Str → Option Value) : Prop where
  c_Lister : ClsG K mg "Lister"
  x_NoFit : XC K mg "NoFit"
  x_NoNumber : XC K mg "NoNumber"
  x_NoOrder : XC K mg "NoOrder"
  x_NoWay : XC K mg "NoWay"
  x_TooMany : XC K mg "TooMany"
  n_Lister_deeds : Fld K mg "Lister" "deeds"
  n_Lister_far : Fld K mg "Lister" "far"
  n_Lister_held : Fld K mg "Lister" "held"
  n_Lister_things : Fld K mg "Lister" "things"
  n_Lister_way : Fld K mg "Lister" "way"
  f_abs : mg "abs" = none
  f_bool : mg "bool" = none
  f_enumerate : mg "enumerate" = none
  f_int : mg "int" = none
  f_isinstance : mg "isinstance" = none
  f_len : mg "len" = none
  f_list : mg "list" = none
  f_max : mg "max" = none
  f_min : mg "min" = none
  f_range : mg "range" = none
  f_set : mg "set" = none
  f_sorted : mg "sorted" = none
  f_str : mg "str" = none
  f_tuple : mg "tuple" = none
  f_zip : mg "zip" = none
  i_MOST_HELD : ∃ t, mg "MOST_HELD" = some (.int 120 t)
  i_MOST_ORDERS : ∃ t, mg "MOST_ORDERS" = some (.int 120 t)
  i_MOST_THINGS : ∃ t, mg "MOST_THINGS" = some (.int 12 t)
  i_MOST_THINGS_KEPT : ∃ t, mg "MOST_THINGS_KEPT" = some (.int 8 t)
  m_Lister_come : Meth K (He.ga K "Lister") "come" (He.ma K (He.ga K "Lister") "come")
  m_Lister_drop : Meth K (He.ga K "Lister") "drop" (He.ma K (He.ga K "Lister") "drop")
  m_Lister_least_apart : Meth K (He.ga K "Lister") "least_apart" (He.ma K (He.ga K "Lister") "least_apart")
  m_Lister_nearer_than : Meth K (He.ga K "Lister") "nearer_than" (He.ma K (He.ga K "Lister") "nearer_than")
  m_Lister_orders : Meth K (He.ga K "Lister") "orders" (He.ma K (He.ga K "Lister") "orders")
  m_Lister_undo : Meth K (He.ga K "Lister") "undo" (He.ma K (He.ga K "Lister") "undo")
  k_Lister : Mk K (He.ga K "Lister") (He.ma K (He.ga K "Lister") "__init__")
  t_WAYS : TupG K mg "WAYS" ["swap", "spot", "shift"]
/-- 0: self, 1: way, 2: n, 3: d -/
def b_Lister___init__ : FS :=
  (sSeq (sExpr (fCallP h_need_way 1 (aP (fVar 1) aNil)))
  (sSeq (sIf (tOr (tNot (fTest (fCallP h_is_whole 1 (aP (fVar 2) aNil)))) (tOr (tNot (fTest (fChain oLe oLe (fC (.int 1)) (fVar 2) (fC (.int 8))))) (tOr (tNot (fTest (fCallP h_is_whole 1 (aP (fVar 3) aNil)))) (fTest (fBin oLt (fVar 3) (fC (.int 1))))))) (sRaise "NoNumber") sNil)
  (sSeq (sFldSet "Lister" "way" 0 (fVar 1))
  (sSeq (sFldSet "Lister" "things" 0 (fVar 2))
  (sSeq (sFldSet "Lister" "far" 0 (fVar 3))
  (sSeq (sFldSet "Lister" "held" 0 (fLst dNil))
  (sFldSet "Lister" "deeds" 0 (fLst dNil))))))))
def h_Lister___init__ : Fn := runF b_Lister___init__ 4
/-- 0: self, 1: order, 2: one -/
def b_Lister_nearer_than : FS :=
  (sRetO (fCB gSortedL (aCons (fLc (iSeq (fFld 0 3)) (gN 2) (fTest (fBin oLt (fCallP h_far_by 3 (aP (fFld 0 0) (aP (fVar 2) (aP (fVar 1) aNil)))) (fFld 0 2))) (fVar 2) [2]) aNil)))
def h_Lister_nearer_than : Fn := runF b_Lister_nearer_than 3
/-- 0: self, 1: order, 2: found, 3: one -/
def b_Lister_come : FS :=
  (sSeq (sExpr (fCallP h_need_order 1 (aP (fVar 1) aNil)))
  (sSeq (sIf (tLendS "Lister" lsF (fTest (fBin oNe (fCB gLen (aCons (fVar 1) aNil)) (fFld 0 1)))) (sRaise "NoFit") sNil)
  (sSeq (sIf (tLendS "Lister" lsF (fTest (fBin oEq (fCB gLen (aCons (fFld 0 3) aNil)) (fC (.int 120))))) (sRaise "TooMany") sNil)
  (sSeq (sAsg 2 (fMethP "Lister" "nearer_than" lsF 0 h_Lister_nearer_than 1 (aF (fVar 1) aNil)))
  (sSeq (sIf (fTest (fBin oEq (fVar 2) (fLst dNil))) (sSeq (sExpr (fFMth "Lister" "held" 0 mAppend (dCons (fCB gList (aCons (fVar 1) aNil)) dNil)))
  (sExpr (fFMth "Lister" "deeds" 0 mAppend (dCons (fTup (dCons (fC (.bool true)) (dCons (fCB gList (aCons (fVar 1) aNil)) dNil))) dNil)))) sNil)
  (sRetO (fLc (iSeq (fVar 2)) (gN 3) tTrue (fCB gList (aCons (fVar 3) aNil)) [3])))))))
def h_Lister_come : Fn := runF b_Lister_come 4
/-- 0: self, 1: some, 2: at, 3: one, 4: other -/
def b_Lister_least_apart : FS :=
  (sSeq (sOwn 1 (fLst dNil))
  (sSeq (sFor (iEnumr (fFld 0 3)) (gT2 2 3) (sExpr (fMth 1 mExtend (dCons (fLc (iSeq (fSl (fFld 0 3) oNo (oSome (fVar 2)))) (gN 4) tTrue (fCallP h_far_by 3 (aP (fFld 0 0) (aP (fVar 3) (aP (fVar 4) aNil)))) [4]) dNil))) [2, 3])
  (sRetO (fIf (fTest (fBin oNe (fVar 1) (fLst dNil))) (fCB gMin (aCons (fVar 1) aNil)) (fC .none)))))
def h_Lister_least_apart : Fn := runF b_Lister_least_apart 5
/-- 0: self, 1: one -/
def b_Lister_orders : FS :=
  (sRetO (fLc (iSeq (fCB gSortedL (aCons (fFld 0 3) aNil))) (gN 1) tTrue (fCB gList (aCons (fVar 1) aNil)) [1]))
def h_Lister_orders : Fn := runF b_Lister_orders 2
/-- 0: self, 1: taken, 2: order -/
def b_Lister_undo : FS :=
  (sSeq (sIf (tLendS "Lister" lsF (fTest (fBin oEq (fFld 0 4) (fLst dNil)))) (sRaise "NoNumber") sNil)
  (sSeq (sTgt (gT2 1 2) (fFMth "Lister" "deeds" 0 mPop dNil))
  (sIf (fTest (fVar 1)) (sExpr (fFMth "Lister" "held" 0 mRemove (dCons (fVar 2) dNil))) (sExpr (fFMth "Lister" "held" 0 mAppend (dCons (fVar 2) dNil))))))
def h_Lister_undo : Fn := runF b_Lister_undo 3
/-- 0: script, 1: k -/
def b__law_cell_at : FS :=
  (sSeq (sIf (fTest (fBin oLt (fVar 1) (fScLen (fVar 0)))) (sRetO (fScIx (fVar 0) (fVar 1))) sNil)
  (sRetO (fC (.int 0))))
def h__law_cell_at : Fn := runF b__law_cell_at 2
/-- 0: cell, 1: k, 2: one -/
def b__law_stir : FS :=
  (sSeq (sAsg 2 (fBin oMod (fBin oMul (fBin oAdd (fBin oAdd (fBin oMod (fVar 0) (fC (.int 2147483629))) (fBin oMul (fC (.int 9973)) (fVar 1))) (fC (.int 5))) (fC (.int 48271))) (fC (.int 2147483647))))
  (sSeq (sAsg 2 (fBin oMod (fBin oMul (fVar 2) (fVar 2)) (fC (.int 2147483587))))
  (sRetO (fBin (opI cFdiv fun i j => i / j) (fBin oMod (fBin oMul (fBin oAdd (fVar 2) (fBin oMul (fC (.int 7919)) (fVar 1))) (fC (.int 16807))) (fC (.int 2147483563))) (fC (.int 8))))))
def h__law_stir : Fn := runF b__law_stir 3
/-- 0: cell, 1: many, 2: found, 3: digits, 4: k, 5: number -/
def b__law_deck : FS :=
  (sSeq (sOwn 2 (fLst dNil))
  (sSeq (sAsg 3 (fVar 0))
  (sSeq (sFor (iRange1 (fVar 1)) (gN 4) (sSeq (sAsg 5 (fCallP h__law_stir 2 (aP (fVar 0) (aP (fVar 4) aNil))))
  (sSeq (sIf (fTest (fBin oGe (fVar 0) (fBin oPow (fC (.int 10)) (fC (.int 18))))) (sAsg 5 (fBin oMod (fVar 3) (fC (.int 720720)))) sNil)
  (sSeq (sAsg 3 (fBin (opI cFdiv fun i j => i / j) (fVar 3) (fC (.int 720720))))
  (sExpr (fMth 2 mAppend (dCons (fVar 5) dNil)))))) [4, 5])
  (sRetO (fUn oRev (fVar 2))))))
def h__law_deck : Fn := runF b__law_deck 6
/-- 0: self, 1: order -/
def b_Lister_drop : FS :=
  (sSeq (sExpr (fCallP h_need_order 1 (aP (fVar 1) aNil)))
  (sSeq (sIf (tLendS "Lister" lsF (fTest (fBin oNotIn (fVar 1) (fFld 0 3)))) (sRaise "NoFit") sNil)
  (sSeq (sExpr (fFMth "Lister" "held" 0 mRemove (dCons (fVar 1) dNil)))
  (sExpr (fFMth "Lister" "deeds" 0 mAppend (dCons (fTup (dCons (fC (.bool false)) (dCons (fCB gList (aCons (fVar 1) aNil)) dNil))) dNil))))))
def h_Lister_drop : Fn := runF b_Lister_drop 2
/-- 0: deck -/
def b__law_next : FS :=
  (sSeq (sIf (fTest (fBin oEq (fCB gLen (aCons (fVar 0) aNil)) (fC (.int 1)))) (sExpr (fMth 0 mInsert (dCons (fC (.int 0)) (dCons (fBin oMul (fCallP h__law_stir 2 (aP (fBin oIx (fVar 0) (fC (.int 0))) (aP (fC (.int 7)) aNil))) (fCB gInt (aCons (fBin oGt (fBin oIx (fVar 0) (fC (.int 0))) (fC (.int 0))) aNil))) dNil)))) sNil)
  (sRetO (fMth 0 mPop dNil)))
def h__law_next : Fn := runF b__law_next 1
/-- 0: deck, 1: busy, 2: one -/
def b__law_dropped_right : FS :=
  (sSeq (sIf (tOr (fTest (fBin oEq (fMethP "Lister" "orders" lsF 1 h_Lister_orders 0 aNil) (fLst dNil))) (fTest (fBin oEq (fBin oMod (fCall h__law_next 1 [(0, 0)] (aM 0 aNil)) (fC (.int 2))) (fC (.int 1))))) (sRetO (fC (.bool true))) sNil)
  (sSeq (sAsg 2 (fBin oIx (fMethP "Lister" "orders" lsF 1 h_Lister_orders 0 aNil) (fBin oMod (fCall h__law_next 1 [(0, 0)] (aM 0 aNil)) (fCB gLen (aCons (fMethP "Lister" "orders" lsF 1 h_Lister_orders 0 aNil) aNil)))))
  (sSeq (sExpr (fMeth "Lister" "drop" lsF 1 h_Lister_drop 2 [(0, 1)] (aF (fVar 2) aNil)))
  (sSeq (sIf (fTest (fBin oEq (fBin oMod (fCall h__law_next 1 [(0, 0)] (aM 0 aNil)) (fC (.int 2))) (fC (.int 0)))) (sRetO (fBin oIs (fMeth "Lister" "undo" lsF 1 h_Lister_undo 1 [(0, 1)] aNil) (fC .none))) sNil)
  (sRetO (fBin oEq (fMeth "Lister" "come" lsF 1 h_Lister_come 2 [(0, 1)] (aF (fVar 2) aNil)) (fLst dNil)))))))
def h__law_dropped_right : Fn := runF b__law_dropped_right 3
/-- 0: deck, 1: order, 2: found, 3: way, 4: turn, 5: p, 6: q -/
def b__law_near : FS :=
  (sSeq (sOwn 2 (fCB gList (aCons (fVar 1) aNil)))
  (sSeq (sAsg 3 (fBin oMod (fCall h__law_next 1 [(0, 0)] (aM 0 aNil)) (fC (.int 3))))
  (sSeq (sFor (iRange1 (fBin oMul (fBin oIx (fLst (dCons (fC (.int 1)) (dCons (fC (.int 1)) (dCons (fC (.int 2)) (dCons (fC (.int 4)) dNil))))) (fBin oMod (fCall h__law_next 1 [(0, 0)] (aM 0 aNil)) (fC (.int 4)))) (fCB gInt (aCons (fBin oGt (fCB gLen (aCons (fVar 2) aNil)) (fC (.int 1))) aNil)))) (gN 4) (sSeq (sAsg 5 (fBin oMod (fCall h__law_next 1 [(0, 0)] (aM 0 aNil)) (fBin oSub (fCB gLen (aCons (fVar 2) aNil)) (fC (.int 1)))))
  (sSeq (sAsg 6 (fBin oIx (fLst (dCons (fBin oAdd (fVar 5) (fC (.int 1))) (dCons (fBin oMod (fCall h__law_next 1 [(0, 0)] (aM 0 aNil)) (fCB gLen (aCons (fVar 2) aNil))) (dCons (fBin oAdd (fVar 5) (fC (.int 1))) dNil)))) (fVar 3)))
  (sIf (fTest (fBin oLt (fVar 3) (fC (.int 2)))) (sPut2 2 (fVar 5) 2 (fVar 6) (dCons (fBin oIx (fVar 2) (fVar 6)) (dCons (fBin oIx (fVar 2) (fVar 5)) dNil))) (sExpr (fMth 2 mInsert (dCons (fBin oMod (fCall h__law_next 1 [(0, 0)] (aM 0 aNil)) (fCB gLen (aCons (fVar 2) aNil))) (dCons (fMth 2 mPop (dCons (fVar 5) dNil)) dNil))))))) [4, 5, 6])
  (sRetO (fVar 2)))))
def h__law_near : Fn := runF b__law_near 7
/-- 0: deck, 1: n, 2: left, 3: thing -/
def b__law_order : FS :=
  (sSeq (sOwn 2 (fListRg1 (fVar 1)))
  (sRetO (fLc (iRange1 (fVar 1)) (gN 3) tTrue (fMth 2 mPop (dCons (fBin oMod (fCall h__law_next 1 [(0, 0)] (aM 0 aNil)) (fCB gLen (aCons (fVar 2) aNil))) dNil)) [3])))
def h__law_order : Fn := runF b__law_order 4
/-- 0: deck, 1: way, 2: n, 3: d, 4: held, 5: kind, 6: order -/
def b__law_free : FS :=
  (sSeq (sAsg 5 (fBin oMod (fCall h__law_next 1 [(0, 0)] (aM 0 aNil)) (fC (.int 4))))
  (sSeq (sOwn 6 (fCall h__law_order 2 [(0, 0)] (aM 0 (aF (fVar 2) aNil))))
  (sSeq (sIf (tAnd (fTest (fBin oNe (fVar 4) (fLst dNil))) (fTest (fBin oGt (fVar 5) (fC (.int 1))))) (sSeq (sOwn 6 (fCB gList (aCons (fBin oIx (fVar 4) (fBin oMod (fCall h__law_next 1 [(0, 0)] (aM 0 aNil)) (fCB gLen (aCons (fVar 4) aNil)))) aNil)))
  (sIf (fTest (fBin oEq (fVar 5) (fC (.int 2)))) (sOwn 6 (fCall h__law_near 2 [(0, 0)] (aM 0 (aF (fVar 6) aNil)))) sNil)) sNil)
  (sRetO (fVar 6)))))
def h__law_free : Fn := runF b__law_free 7
/-- 0: orders, 1: one -/
def b_need_list : FS :=
  (sSeq (sIf (tOr (tNot (fTest (fIsi .list (fVar 0)))) (tNot (fTest (fChain oLe oLe (fC (.int 1)) (fCB gLen (aCons (fVar 0) aNil)) (fC (.int 120)))))) (sRaise "NoOrder") sNil)
  (sSeq (sIf (fTest (fBin oNe (fLc (iSeq (fVar 0)) (gN 1) (tNot (fTest (fCallP h_is_order 1 (aP (fVar 1) aNil)))) (fVar 1) [1]) (fLst dNil))) (sRaise "NoOrder") sNil)
  (sSeq (sIf (fTest (fBin oNe (fLc (iSeq (fVar 0)) (gN 1) (fTest (fBin oNe (fCB gLen (aCons (fVar 1) aNil)) (fCB gLen (aCons (fBin oIx (fVar 0) (fC (.int 0))) aNil)))) (fVar 1) [1]) (fLst dNil))) (sRaise "NoOrder") sNil)
  (sIf (fTest (fBin oLt (fUn oLenSet (fLc (iSeq (fVar 0)) (gN 1) tTrue (fCB gTuple (aCons (fVar 1) aNil)) [1])) (fCB gLen (aCons (fVar 0) aNil)))) (sRaise "NoOrder") sNil))))
def h_need_list : Fn := runF b_need_list 2
/-- 0: way, 1: order, 2: orders -/
def b_need_asked : FS :=
  (sSeq (sExpr (fCallP h_need_order 1 (aP (fVar 1) aNil)))
  (sSeq (sExpr (fCallP h_need_list 1 (aP (fVar 2) aNil)))
  (sSeq (sExpr (fCallP h_need_way 1 (aP (fVar 0) aNil)))
  (sIf (fTest (fBin oNe (fCB gLen (aCons (fVar 1) aNil)) (fCB gLen (aCons (fBin oIx (fVar 2) (fC (.int 0))) aNil)))) (sRaise "NoFit") sNil))))
def h_need_asked : Fn := runF b_need_asked 3
/-- 0: way, 1: order, 2: orders, 3: fars, 4: least, 5: one, 6: far -/
def b_nearest_of : FS :=
  (sSeq (sExpr (fCallP h_need_asked 3 (aP (fVar 0) (aP (fVar 1) (aP (fVar 2) aNil)))))
  (sSeq (sAsg 3 (fLc (iSeq (fVar 2)) (gN 5) tTrue (fCallP h_far_by 3 (aP (fVar 0) (aP (fVar 1) (aP (fVar 5) aNil)))) [5]))
  (sSeq (sAsg 4 (fCB gMin (aCons (fVar 3) aNil)))
  (sRetO (fTup (dCons (fVar 4) (dCons (fLc (iZipp (fVar 2) (fVar 3)) (gT2 5 6) (fTest (fBin oEq (fVar 6) (fVar 4))) (fCB gList (aCons (fVar 5) aNil)) [5, 6]) dNil)))))))
def h_nearest_of : Fn := runF b_nearest_of 7
/-- 0: way, 1: d, 2: ahead, 3: order, 4: told, 5: far, 6: some, 7: one -/
def b__law_told_right : FS :=
  (sSeq (sIf (fTest (fBin oEq (fVar 2) (fLst dNil))) (sRetO (fBin oEq (fVar 4) (fLst dNil))) sNil)
  (sSeq (sTgt (gT2 5 6) (fCall h_nearest_of 3 [] (aF (fVar 0) (aF (fVar 3) (aF (fVar 2) aNil)))))
  (sSeq (sIf (fTest (fBin oNe (fBin oLt (fVar 5) (fVar 1)) (fBin oNe (fVar 4) (fLst dNil)))) (sRetO (fC (.bool false))) sNil)
  (sRetO (fOrV (fBin oEq (fVar 4) (fLst dNil)) (fBin oEq (fLc (iSeq (fVar 6)) (gN 7) (fTest (fBin oNotIn (fVar 7) (fVar 4))) (fVar 7) [7]) (fLst dNil)))))))
def h__law_told_right : Fn := runF b__law_told_right 8
/-- 0: orders, 1: names, 2: order, 3: thing -/
def b__law_turned : FS :=
  (sRetO (fCB gSortedL (aCons (fLc (iSeq (fVar 0)) (gN 2) tTrue (fLc (iSeq (fVar 2)) (gN 3) tTrue (fBin oIx (fVar 1) (fVar 3)) [3]) [2]) aNil)))
def h__law_turned : Fn := runF b__law_turned 4
/-- 0: script, 1: k, 2: deck, 3: way, 4: n, 5: d, 6: names, 7: plain, 8: called, 9: behind, 10: busy, 11: turn, 12: ahead, 13: order, 14: told, 15: orders, 16: least, 17: thing, 18: one -/
def b_law : FS :=
  (sSeq (sFor (iRange1 (fCB gMax (aCons (fC (.int 1)) (aCons (fCB gMin (aCons (fScLen (fVar 0)) (aCons (fC (.int 3)) aNil))) aNil)))) (gN 1) (sSeq (sOwn 2 (fCall h__law_deck 2 [] (aF (fCall h__law_cell_at 2 [] (aF (fVar 0) (aF (fVar 1) aNil))) (aF (fC (.int 500)) aNil))))
  (sSeq (sAsg 3 (fBin oIx (fLst (dCons (fC (.str "swap")) (dCons (fC (.str "spot")) (dCons (fC (.str "shift")) dNil)))) (fBin oMod (fCall h__law_next 1 [(0, 2)] (aM 2 aNil)) (fC (.int 3)))))
  (sSeq (sAsg 4 (fBin oAdd (fC (.int 2)) (fBin oMod (fCall h__law_next 1 [(0, 2)] (aM 2 aNil)) (fC (.int 7)))))
  (sSeq (sAsg 5 (fBin oAdd (fC (.int 1)) (fBin oMod (fCall h__law_next 1 [(0, 2)] (aM 2 aNil)) (fC (.int 5)))))
  (sSeq (sAsg 6 (fCall h__law_order 2 [(0, 2)] (aM 2 (aF (fVar 4) aNil))))
  (sSeq (sUnp [7, 8, 9, 10] (fLcT (iRange1 (fC (.int 4))) (gN 11) tTrue (fMake "Lister" h_Lister___init__ 3 (aF (fVar 3) (aF (fVar 4) (aF (fVar 5) aNil)))) [11]))
  (sSeq (sFor (iRange1 (fBin oAdd (fC (.int 1)) (fBin oMod (fCall h__law_next 1 [(0, 2)] (aM 2 aNil)) (fC (.int 14))))) (gN 11) (sSeq (sAsg 12 (fMethP "Lister" "orders" lsF 7 h_Lister_orders 0 aNil))
  (sSeq (sAsg 13 (fCall h__law_free 5 [(0, 2)] (aM 2 (aF (fVar 3) (aF (fVar 4) (aF (fVar 5) (aF (fVar 12) aNil)))))))
  (sSeq (sAsg 14 (fMeth "Lister" "come" lsF 7 h_Lister_come 2 [(0, 7)] (aF (fVar 13) aNil)))
  (sSeq (sIf (tNot (fTest (fCallP h__law_told_right 5 (aP (fVar 3) (aP (fVar 5) (aP (fVar 12) (aP (fVar 13) (aP (fVar 14) aNil)))))))) (sRetO (fC (.bool false))) sNil)
  (sSeq (sIf (fTest (fBin oNe (fMeth "Lister" "come" lsF 8 h_Lister_come 2 [(0, 8)] (aF (fLc (iSeq (fVar 13)) (gN 17) tTrue (fBin oIx (fVar 6) (fVar 17)) [17]) aNil)) (fCall h__law_turned 2 [] (aF (fVar 14) (aF (fVar 6) aNil))))) (sRetO (fC (.bool false))) sNil)
  (sSeq (sIf (fTest (fBin oNe (fMeth "Lister" "come" lsF 9 h_Lister_come 2 [(0, 9)] (aF (fUn oRev (fVar 13)) aNil)) (fCB gSortedL (aCons (fLc (iSeq (fVar 14)) (gN 18) tTrue (fUn oRev (fVar 18)) [18]) aNil)))) (sRetO (fC (.bool false))) sNil)
  (sSeq (sIf (tOr (tNot (fTest (fCall h__law_dropped_right 2 [(0, 2), (1, 10)] (aM 2 (aM 10 aNil))))) (tOr (fTest (fBin oNe (fMeth "Lister" "come" lsF 10 h_Lister_come 2 [(0, 10)] (aF (fVar 13) aNil)) (fVar 14))) (fTest (fBin oNe (fMethP "Lister" "orders" lsF 10 h_Lister_orders 0 aNil) (fMethP "Lister" "orders" lsF 7 h_Lister_orders 0 aNil))))) (sRetO (fC (.bool false))) sNil)
  (sIf (tAnd (fTest (fBin oEq (fVar 14) (fLst dNil))) (fTest (fBin oEq (fBin oMod (fCall h__law_next 1 [(0, 2)] (aM 2 aNil)) (fC (.int 3))) (fC (.int 0))))) (sSeq (sExpr (fMeth "Lister" "undo" lsF 10 h_Lister_undo 1 [(0, 10)] aNil))
  (sIf (tOr (fTest (fBin oNe (fMethP "Lister" "orders" lsF 10 h_Lister_orders 0 aNil) (fVar 12))) (fTest (fBin oNe (fMeth "Lister" "come" lsF 10 h_Lister_come 2 [(0, 10)] (aF (fVar 13) aNil)) (fLst dNil)))) (sRetO (fC (.bool false))) sNil)) sNil)))))))) [11, 12, 13, 14])
  (sSeq (sAsg 15 (fMethP "Lister" "orders" lsF 7 h_Lister_orders 0 aNil))
  (sSeq (sIf (tOr (fTest (fBin oNe (fMethP "Lister" "orders" lsF 8 h_Lister_orders 0 aNil) (fCall h__law_turned 2 [] (aF (fVar 15) (aF (fVar 6) aNil))))) (fTest (fBin oNe (fMethP "Lister" "orders" lsF 9 h_Lister_orders 0 aNil) (fCB gSortedL (aCons (fLc (iSeq (fVar 15)) (gN 18) tTrue (fUn oRev (fVar 18)) [18]) aNil))))) (sRetO (fC (.bool false))) sNil)
  (sSeq (sAsg 16 (fMethP "Lister" "least_apart" lsF 7 h_Lister_least_apart 0 aNil))
  (sIf (tOr (fTest (fBin oNe (fLcI 18 [8, 9, 10] (fun i => fMethP "Lister" "least_apart" lsF i h_Lister_least_apart 0 aNil) [18]) (fBin oMul (fLst (dCons (fVar 16) dNil)) (fC (.int 3))))) (tAnd (fTest (fBin oIsNot (fVar 16) (fC .none))) (fTest (fBin oLt (fVar 16) (fVar 5))))) (sRetO (fC (.bool false))) sNil))))))))))) [1, 2, 3, 4, 5, 6, 7, 8, 9, 10, 11, 12, 13, 14, 15, 16])
  (sRetO (fC (.bool true))))
def h_law : Fn := runF b_law 19
end K76
set_option maxRecDepth 100000
set_option maxHeartbeats 0
namespace K76
open PySem VL VP TM PySem.W.Datum PySem.SeqAt
open PySem.W (Datum Tup T3)
open L2 (atI ixN)
def m_Lister___init__ (way : Str) (n : Int) (d : Int) : R ((Unit × Ls)) :=
  R.bind (m_need_way way) fun v1 =>
  R.bind (R.bind (m_is_whole n) fun v8 =>
  if (!v8) = true then
  (.ok true)
  else
  (if (!((decide ((1 : Int) ≤ n)) && (decide (n ≤ (8 : Int))))) = true then
  (.ok true)
  else
  (R.bind (m_is_whole d) fun v9 =>
  if (!v9) = true then
  (.ok true)
  else
  (.ok ((decide (d < (1 : Int)))))))) fun b7 =>
  if b7 = true then
  (.ex "NoNumber")
  else
  (.ok ((), (Ls.mk way n d (([] : (List (List Int)))) (([] : (List (Bool × (List Int))))))))
theorem sim_Lister___init__ (way : Str) (n : Int) (d : Int) : FnS h_Lister___init__ [.tr (.nd (.ins "Lister" []) []), .fr (toD (way : Str)), .fr (toD (n : Int)), .fr (toD (d : Int))] (m_Lister___init__ way n d) (fun _ => .d .none) (fun a : (Unit × Ls) => [(0, (.t (Ls.tr a.2)))]) :=
  fn_mkN (n := 0) (ss := [(.t (.nd (.ins "Lister" []) [])), (.d (toD (way : Str))), (.d (toD (n : Int))), (.d (toD (d : Int)))]) (Γe := fun a : (Unit × Ls) => [some (.t (Ls.tr a.2)), none, none, none]) rfl (.cons rfl (.cons rfl (.cons rfl (.cons rfl All2.nil)))) rfl
  (j_expr (j_callP (j_aP (j_var rfl (j_aPs (j_anil (j_callPop rfl (la_d rfl la_nil) rfl (sim_need_way way) (fun _ => rfl) fun v1 => (j_if (j_sub (bv := fun b7 : Bool => b7) (Γ1 := fun b7 : Bool => [some (.t (.nd (.ins "Lister" []) [])), some (.d (toD (way : Str))), some (.d (toD (n : Int))), some (.d (toD (d : Int)))]) (j_orC (j_not (j_test (j_callP (j_aP (j_var rfl (j_aPs (j_anil (j_callPop rfl (la_d rfl la_nil) rfl (sim_is_whole n) (fun _ => rfl) fun v8 => (j_bool rd_b (j_ite (j_kb (l := [1, 1, 1, 1]) rfl rfl) (j_orC (j_not (j_test (j_chain (j_c (j_var rfl (j_chain3 rd_b (rd_d rfl) x_le (j_c (j_ko (l := [1, 1, 1, 1]) rd_b rfl rfl)) x_le (j_bool rd_b (j_ite (j_kb (l := [1, 1, 1, 1]) rfl rfl) (j_orC (j_not (j_test (j_callP (j_aP (j_var rfl (j_aPs (j_anil (j_callPop rfl (la_d rfl la_nil) rfl (sim_is_whole d) (fun _ => rfl) fun v9 => (j_bool rd_b (j_ite (j_kb (l := [1, 1, 1, 1]) rfl rfl) (j_test (j_bin (j_var rfl (j_c (j_op (rd_d rfl) rd_b x_lt (j_bool rd_b (j_kb (l := [1, 1, 1, 1]) rfl rfl)))))))))))))))))))))))))))))))))))))) fun b7 => (j_ite j_seqRaise (j_seqNil (j_fldset (j_var rfl (j_fldsetD rfl rfl rfl (by decide) (j_fldset (j_var rfl (j_fldsetD rfl rfl rfl (by decide) (j_fldset (j_var rfl (j_fldsetD rfl rfl rfl (by decide) (j_fldset (j_lst (j_dnil (j_lst2 (toD (([] : (List (List Int))) : (List (List Int)))) rfl rfl (j_fldsetB rfl rfl (by decide) (j_last (j_fldset (j_lst (j_dnil (j_lst2 (toD (([] : (List (Bool × (List Int)))) : (List (Bool × (List Int))))) rfl rfl (j_fldsetB rfl rfl (by decide) (j_nilF (l := [1, 0, 0, 0]) rfl rfl)))))))))))))))))))))))))))))))) (fun a p hp => by
    simp only [List.mem_cons, List.not_mem_nil, or_false] at hp
    subst hp; rfl)
def m_Lister_nearer_than (self : Ls) (order : (List Int)) : R ((List (List Int))) :=
  R.bind (lcM (fun (x1 : (List Int)) => R.calm (R.bind (m_far_by self.way x1 order) fun v2 =>
  if (decide (v2 < self.far)) = true then
  (.ok (some x1))
  else
  (.ok none))) self.held []) fun ys3 =>
  .ok ((ys3.mergeSort leL))
theorem sim_Lister_nearer_than (self : Ls) (order : (List Int)) : FnS h_Lister_nearer_than [.rs 9 (.tuple (Ls.ds self)), .fr (toD (order : (List Int)))] (m_Lister_nearer_than self order) (fun a : (List (List Int)) => .o (toD (a : (List (List Int))))) (fun a : (List (List Int)) => []) :=
  fn_mk (n := 1) (rv := fun a : (List (List Int)) => .o (toD (a : (List (List Int))))) (ss := [(.rs 9 (.tuple (Ls.ds self))), (.d (toD (order : (List Int))))]) (Γe := fun a : (List (List Int)) => [none, none, none]) rfl (.cons rfl (.cons rfl All2.nil)) rfl
  (j_last (j_ret (j_cb (j_acons (j_lc (j_iSeq (j_fld rfl rfl (j_it fz_b rfl (j_lcM (Γs := [some (.rs 9 (.tuple (Ls.ds self))), some (.d (toD (order : (List Int)))), none]) (l := [1, 1, 0]) (D := toD) (E := toD) (xr := fun a => toD a) rfl rfl (fun x1 => (j_gN (j_test (j_bin (j_callP (j_aP (j_fld rfl rfl (j_aPb (j_aP (j_var rfl (j_aPs (j_aP (j_var rfl (j_aPs (j_anil (j_callPop rfl (la_b (la_d rfl (la_d rfl la_nil))) rfl (sim_far_by self.way x1 order) (fun _ => rfl) fun v2 => (j_fld rfl rfl (j_op rd_b rd_b x_lt (j_bool rd_b (j_ite (j_var rfl (j_kf (l := [1, 1, 0]) (fz_d rfl) rfl rfl)) (j_skip (l := [1, 1, 0]) rfl rfl))))))))))))))))))))) (fun _ => rfl) fun ys3 => (j_anil (j_cbop (ra_cons rd_w ra_nil) x_sortedL (j_retb (l := [0, 0, 0]) sl_o rfl rfl)))))))))))) (fun a p hp => nomatch hp)
def m_Lister_come (self : Ls) (order : (List Int)) : R (((List (List Int)) × Ls)) :=
  R.bind (m_need_order order) fun v1 =>
  if (!decide ((order.length : Int) = self.things)) = true then
  (.ex "NoFit")
  else
  (if (decide ((self.held.length : Int) = (120 : Int))) = true then
  (.ex "TooMany")
  else
  (R.bind (m_Lister_nearer_than self order) fun v2 =>
  ob (rowsG v2) fun _ =>
  R.bind (if (decide (v2 = ([] : (List (List Int))))) = true then
  (ob (appL self.held order) fun v6 =>
  ob (appL self.deeds ((true, order))) fun v7 =>
  .ok ((Ls.mk self.way self.things self.far v6 v7)))
  else
  (.ok self)) fun (s5 : Ls) =>
  ob (lcP (fun (x8 : (List Int)) => true) (fun (x8 : (List Int)) => x8) v2) fun ys9 =>
  .ok ((ys9, s5))))
theorem sim_Lister_come (self : Ls) (order : (List Int)) : FnS h_Lister_come [.tr (Ls.tr self), .fr (toD (order : (List Int)))] (m_Lister_come self order) (fun a : ((List (List Int)) × Ls) => .o (toD (a.1 : (List (List Int))))) (fun a : ((List (List Int)) × Ls) => [(0, (.t (Ls.tr a.2)))]) :=
  fn_mk (n := 2) (rv := fun a : ((List (List Int)) × Ls) => .o (toD (a.1 : (List (List Int))))) (ss := [(.t (Ls.tr self)), (.d (toD (order : (List Int))))]) (Γe := fun a : ((List (List Int)) × Ls) => [some (.t (Ls.tr a.2)), none, none, none]) rfl (.cons rfl (.cons rfl All2.nil)) rfl
  (j_expr (j_callP (j_aP (j_var rfl (j_aPs (j_anil (j_callPop rfl (la_d rfl la_nil) rfl (sim_need_order order) (fun _ => rfl) fun v1 => (j_if (j_tlendSB (LdS.mk (ls_dats _) (LdC.d (LdC.no (LdC.no LdC.nil)))) (j_test (j_bin (j_cb (j_acons (j_var rfl (j_anil (j_cbop (ra_cons (rd_d rfl) ra_nil) (x_len (τ := Int)) (j_fld rfl rfl (j_op rd_b rd_b (x_ne (τ := Int)) (j_bool rd_b (j_kb (l := [1, 1, 0, 0]) rfl rfl))))))))))) (j_ite j_seqRaise (j_seqNil (j_if (j_tlendSB (LdS.mk (ls_dats _) (LdC.d (LdC.no (LdC.no LdC.nil)))) (j_test (j_bin (j_cb (j_acons (j_fld rfl rfl (j_anil (j_cbop (ra_cons rd_b ra_nil) (x_len (τ := (List Int))) (j_c (j_op rd_b rd_b (x_eq (τ := Int)) (j_bool rd_b (j_kb (l := [1, 1, 0, 0]) rfl rfl))))))))))) (j_ite j_seqRaise (j_seqNil (j_asg (j_methP rfl (by decide) (j_aF (j_var rfl (j_fzb (fzb_of (fz_d rfl)) (j_anil (j_methPO rfl (ba_b ba_nil) (rcv_t rfl (ls_dats _) (ls_rows _)) (sim_Lister_nearer_than self order) fun v2 => (j_fzb (fzb_of fz_w) (j_setD (j_seq (Γs := fun (s5 : Ls) => [some (.t (Ls.tr s5)), some (.d (toD (order : (List Int)))), some (.d (toD (v2 : (List (List Int))))), none]) (j_if1 (j_test (j_bin (j_var rfl (j_lst (j_dnil (j_lst2 (toD (([] : (List (List Int))) : (List (List Int)))) rfl rfl (j_op (rd_d rfl) rd_w (x_eq (τ := (List (List Int)))) (j_bool rd_b (j_ite (j_expr (j_fmth rfl rfl rfl (frsT_fr _) (j_dcons (j_cb (j_acons (j_var rfl (j_anil (j_cbop (ra_cons (rd_d rfl) ra_nil) (x_list (τ := Int)) (j_fz fz_w (j_dnil (j_fmthop (z := fun _ => .fr .none) (es := fun a => a.map toD) (y := fun v6 => Ls.tr (Ls.mk self.way self.things self.far v6 self.deeds)) rfl (x_app (τ := (List Int))) (fun _ => rfl) fun v6 => (j_last (j_expr (j_fmth rfl rfl rfl (frsT_fr _) (j_dcons (j_tup (j_dcons (j_c (j_fz fz_b (j_dcons (j_cb (j_acons (j_var rfl (j_anil (j_cbop (ra_cons (rd_d rfl) ra_nil) (x_list (τ := Int)) (j_fz fz_w (j_dnil (j_tup2 (toD ((true, order) : (Bool × (List Int)))) rfl rfl (j_fz fz_b (j_dnil (j_fmthop (z := fun _ => .fr .none) (es := fun a => a.map toD) (y := fun v7 => Ls.tr (Ls.mk self.way self.things self.far v6 v7)) rfl (x_app (τ := (Bool × (List Int)))) (fun _ => rfl) fun v7 => (j_nil (l := [1, 1, 1, 0]) rfl rfl)))))))))))))))))))))))))))))))) (j_nil (l := [1, 1, 1, 0]) rfl rfl))))))))))) fun s5 => (j_last (j_ret (j_lc (j_iSeq (j_var rfl (j_it (fz_d rfl) rfl (j_lcP (Γs := [some (.t (Ls.tr s5)), some (.d (toD (order : (List Int)))), some (.d (toD (v2 : (List (List Int))))), none]) (l := [1, 1, 1, 0]) (D := toD) (E := toD) (xr := fun a => toD a) (p := fun (x8 : (List Int)) => true) (q := fun (x8 : (List Int)) => x8) rfl rfl (fun x8 => (j_gN (j_tt (j_cb (j_acons (j_var rfl (j_anil (j_cbop (ra_cons (rd_d rfl) ra_nil) (x_list (τ := Int)) (j_kf (l := [1, 1, 1, 0]) fz_w rfl rfl))))))))) (fun _ => rfl) fun ys9 => (j_retb (l := [1, 0, 0, 0]) sl_o rfl rfl))))))))))))))))))))))))))))))))) (fun a p hp => by
    simp only [List.mem_cons, List.not_mem_nil, or_false] at hp
    subst hp; rfl)
def m_Lister_least_apart (self : Ls) : R ((Option Int)) :=
  R.bind (foldM (fun (s9 : (List Int)) (x10 : (Int × (List Int))) =>
  R.bind (lcM (fun (x11 : (List Int)) => R.calm (R.bind (m_far_by self.way x10.2 x11) fun v12 =>
  .ok (some v12))) ((cutD self.held none (some x10.1))) []) fun ys13 =>
  ob (addL s9 ys13) fun v14 =>
  .ok v14) ((enumT 0 self.held)) (([] : (List Int)))) fun (s15 : (List Int)) =>
  if (!decide (s15 = ([] : (List Int)))) = true then
  (ob (minL s15) fun v16 =>
  .ok ((some v16)))
  else
  (.ok ((none : (Option Int))))
theorem sim_Lister_least_apart (self : Ls) : FnS h_Lister_least_apart [.rs 9 (.tuple (Ls.ds self))] (m_Lister_least_apart self) (fun a : (Option Int) => .d (toD (a : (Option Int)))) (fun a : (Option Int) => []) :=
  fn_mk (n := 4) (rv := fun a : (Option Int) => .d (toD (a : (Option Int)))) (ss := [(.rs 9 (.tuple (Ls.ds self)))]) (Γe := fun a : (Option Int) => [none, none, none, none, none]) rfl (.cons rfl All2.nil) rfl
  (j_own (j_lst (j_dnil (j_lst2 (toD (([] : (List Int)) : (List Int))) rfl rfl (j_ownb (j_setO (j_seq (Γs := fun (s9 : (List Int)) => [some (.rs 9 (.tuple (Ls.ds self))), some (.o (toD (s9 : (List Int)))), none, none, none]) (j_sFor (j_iEnum (j_fld rfl rfl (j_it fz_b (selE_map toD _) (j_for (l := [1, 1, 0, 0, 0]) (D := toD) (Γs := fun (s9 : (List Int)) => [some (.rs 9 (.tuple (Ls.ds self))), some (.o (toD (s9 : (List Int)))), none, none, none]) (([] : (List Int))) rfl (fun _ => rfl) fun s9 x10 => (j_gT2e rfl (j_last (j_expr (j_mth (j_chk rfl rfl (j_dcons (j_lc (j_iSeq (j_sl (j_fld rfl rfl (j_ono (j_osome (j_var rfl (j_int (rd_d rfl) (j_slop rd_b (x_sl (τ := (List Int))) (j_it fz_w rfl (j_lcM (Γs := [some (.rs 9 (.tuple (Ls.ds self))), some (.o (toD (s9 : (List Int)))), some (.d (toD (x10.1 : Int))), some (.d (toD (x10.2 : (List Int)))), none]) (l := [1, 1, 1, 1, 0]) (D := toD) (E := toD) (xr := fun a => toD a) rfl rfl (fun x11 => (j_gN (j_tt (j_callP (j_aP (j_fld rfl rfl (j_aPb (j_aP (j_var rfl (j_aPs (j_aP (j_var rfl (j_aPs (j_anil (j_callPop rfl (la_b (la_d rfl (la_d rfl la_nil))) rfl (sim_far_by self.way x10.2 x11) (fun _ => rfl) fun v12 => (j_kf (l := [1, 1, 1, 1, 0]) fz_b rfl rfl)))))))))))))))) (fun _ => rfl) fun ys13 => (j_fz fz_w (j_dnil (j_mthopR (z := fun _ => .fr .none) (es := fun a => a.map toD) (y := fun a => toD a) rfl (x_ext (τ := Int)) (fun _ => rfl) fun v14 => (j_nil (l := [1, 1, 0, 0, 0]) rfl rfl)))))))))))))))))))))))))) fun s15 => (j_last (j_ret (j_fIf (j_test (j_bin (j_var rfl (j_lst (j_dnil (j_lst2 (toD (([] : (List Int)) : (List Int))) rfl rfl (j_op (rd_o rfl) rd_w (x_ne (τ := (List Int))) (j_bool rd_b (j_ite (j_cb (j_acons (j_var rfl (j_anil (j_cbopR (ra_cons (rd_o rfl) ra_nil) x_minL fun v16 => (j_retb (l := [0, 0, 0, 0, 0]) sl_d rfl rfl)))))) (j_c (j_retb (l := [0, 0, 0, 0, 0]) sl_d rfl rfl))))))))))))))))))))) (fun a p hp => nomatch hp)
def m_Lister_orders (self : Ls) : R ((List (List Int))) :=
  ob (lcP (fun (x1 : (List Int)) => true) (fun (x1 : (List Int)) => x1) ((self.held.mergeSort leL))) fun ys2 =>
  .ok ys2
theorem sim_Lister_orders (self : Ls) : FnS h_Lister_orders [.rs 9 (.tuple (Ls.ds self))] (m_Lister_orders self) (fun a : (List (List Int)) => .o (toD (a : (List (List Int))))) (fun a : (List (List Int)) => []) :=
  fn_mk (n := 1) (rv := fun a : (List (List Int)) => .o (toD (a : (List (List Int))))) (ss := [(.rs 9 (.tuple (Ls.ds self)))]) (Γe := fun a : (List (List Int)) => [none, none]) rfl (.cons rfl All2.nil) rfl
  (j_last (j_ret (j_lc (j_iSeq (j_cb (j_acons (j_fld rfl rfl (j_anil (j_cbop (ra_cons rd_b ra_nil) x_sortedL (j_it fz_w rfl (j_lcP (Γs := [some (.rs 9 (.tuple (Ls.ds self))), none]) (l := [1, 0]) (D := toD) (E := toD) (xr := fun a => toD a) (p := fun (x1 : (List Int)) => true) (q := fun (x1 : (List Int)) => x1) rfl rfl (fun x1 => (j_gN (j_tt (j_cb (j_acons (j_var rfl (j_anil (j_cbop (ra_cons (rd_d rfl) ra_nil) (x_list (τ := Int)) (j_kf (l := [1, 0]) fz_w rfl rfl))))))))) (fun _ => rfl) fun ys2 => (j_retb (l := [0, 0]) sl_o rfl rfl)))))))))))) (fun a p hp => nomatch hp)
def m_Lister_undo (self : Ls) : R ((Unit × Ls)) :=
  if (decide (self.deeds = ([] : (List (Bool × (List Int)))))) = true then
  (.ex "NoNumber")
  else
  (ob (popL self.deeds) fun v1 =>
  R.bind (if v1.1.1 = true then
  (ob (remL self.held v1.1.2) fun v5 =>
  .ok ((Ls.mk self.way self.things self.far v5 v1.2)))
  else
  (ob (appL self.held v1.1.2) fun v6 =>
  .ok ((Ls.mk self.way self.things self.far v6 v1.2)))) fun (s4 : Ls) =>
  .ok ((), s4))
theorem sim_Lister_undo (self : Ls) : FnS h_Lister_undo [.tr (Ls.tr self)] (m_Lister_undo self) (fun _ => .d .none) (fun a : (Unit × Ls) => [(0, (.t (Ls.tr a.2)))]) :=
  fn_mkN (n := 2) (ss := [(.t (Ls.tr self))]) (Γe := fun a : (Unit × Ls) => [some (.t (Ls.tr a.2)), none, none]) rfl (.cons rfl All2.nil) rfl
  (j_if (j_tlendSB (LdS.mk (ls_dats _) (LdC.no (LdC.no LdC.nil))) (j_test (j_bin (j_fld rfl rfl (j_lst (j_dnil (j_lst2 (toD (([] : (List (Bool × (List Int)))) : (List (Bool × (List Int))))) rfl rfl (j_op rd_b rd_w (x_eq (τ := (List (Bool × (List Int))))) (j_bool rd_b (j_kb (l := [1, 0, 0]) rfl rfl))))))))) (j_ite j_seqRaise (j_seqNil (j_tgt (j_fmth rfl rfl rfl (frsT_fr _) (j_dnil (j_fmthop (z := fun a => .fr (toD a.1)) (es := fun a => a.2.map toD) (y := fun v1 => Ls.tr (Ls.mk self.way self.things self.far self.held v1.2)) rfl (x_pop (τ := (Bool × (List Int)))) (fun _ => rfl) fun v1 => (j_fz fz_b (j_gT2e rfl (j_last (j_seq (Γs := fun (s4 : Ls) => [some (.t (Ls.tr s4)), some (.d (toD (v1.1.1 : Bool))), some (.d (toD (v1.1.2 : (List Int))))]) (j_if1 (j_test (j_var rfl (j_bool (rd_d rfl) (j_ite (j_last (j_expr (j_fmth rfl rfl rfl (frsT_fr _) (j_dcons (j_var rfl (j_fz (fz_d rfl) (j_dnil (j_fmthop (z := fun _ => .fr .none) (es := fun a => a.map toD) (y := fun v5 => Ls.tr (Ls.mk self.way self.things self.far v5 v1.2)) rfl (x_rem (τ := (List Int))) (fun _ => rfl) fun v5 => (j_nil (l := [1, 1, 1]) rfl rfl))))))))) (j_last (j_expr (j_fmth rfl rfl rfl (frsT_fr _) (j_dcons (j_var rfl (j_fz (fz_d rfl) (j_dnil (j_fmthop (z := fun _ => .fr .none) (es := fun a => a.map toD) (y := fun v6 => Ls.tr (Ls.mk self.way self.things self.far v6 v1.2)) rfl (x_app (τ := (List Int))) (fun _ => rfl) fun v6 => (j_nil (l := [1, 1, 1]) rfl rfl)))))))))))))) fun s4 => (j_nilF (l := [1, 0, 0]) rfl rfl))))))))))))) (fun a p hp => by
    simp only [List.mem_cons, List.not_mem_nil, or_false] at hp
    subst hp; rfl)
def m__law_cell_at (script : (List Int)) (k : Int) : R Int :=
  if (decide (k < (script.length : Int))) = true then
  (ob (atI script k) fun v1 =>
  .ok v1)
  else
  (.ok ((0 : Int)))
theorem sim__law_cell_at (script : (List Int)) (k : Int) : FnS h__law_cell_at [.sc script, .fr (toD (k : Int))] (m__law_cell_at script k) (fun a : Int => .d (toD (a : Int))) (fun a : Int => []) :=
  fn_mk (n := 0) (rv := fun a : Int => .d (toD (a : Int))) (ss := [.sc script, (.d (toD (k : Int)))]) (Γe := fun a : Int => [none, none]) rfl (.cons rfl (.cons rfl All2.nil)) rfl
  (j_if (j_test (j_bin (j_var rfl (j_scLen (j_var rfl (j_scLen2  rfl (j_op (rd_d rfl) rd_b x_lt (j_bool rd_b (j_ite (j_ret (j_scIx (j_var rfl (j_var rfl (j_scIx2 rfl (rd_d rfl) fun v1 => (j_retb (l := [0, 0]) sl_d rfl rfl)))))) (j_seqNil (j_last (j_ret (j_c (j_retb (l := [0, 0]) sl_d rfl rfl))))))))))))))) (fun a p hp => nomatch hp)
def m__law_stir (cell : Int) (k : Int) : R Int :=
  ob (mulI ((((((cell % (2147483629 : Int)) + ((9973 : Int) * k)) + (5 : Int)) * (48271 : Int)) % (2147483647 : Int))) ((((((cell % (2147483629 : Int)) + ((9973 : Int) * k)) + (5 : Int)) * (48271 : Int)) % (2147483647 : Int)))) fun v1 =>
  .ok ((((((v1 % (2147483587 : Int)) + ((7919 : Int) * k)) * (16807 : Int)) % (2147483563 : Int)) / (8 : Int)))
theorem sim__law_stir (cell : Int) (k : Int) : FnS h__law_stir [.fr (toD (cell : Int)), .fr (toD (k : Int))] (m__law_stir cell k) (fun a : Int => .d (toD (a : Int))) (fun a : Int => []) :=
  fn_mk (n := 1) (rv := fun a : Int => .d (toD (a : Int))) (ss := [(.d (toD (cell : Int))), (.d (toD (k : Int)))]) (Γe := fun a : Int => [none, none, none]) rfl (.cons rfl (.cons rfl All2.nil)) rfl
  (j_asg (j_bin (j_bin (j_bin (j_bin (j_bin (j_var rfl (j_c (j_op (rd_d rfl) rd_b (x_mod (by decide)) (j_bin (j_c (j_var rfl (j_op rd_b (rd_d rfl) (x_mul (cmul_l (by decide))) (j_op rd_b rd_b x_add (j_c (j_op rd_b rd_b x_add (j_c (j_op rd_b rd_b (x_mul (cmul_r (by decide))) (j_c (j_op rd_b rd_b (x_mod (by decide)) (j_fzb (fzb_of fz_b) (j_setD (j_asg (j_bin (j_bin (j_var rfl (j_var rfl (j_opR (rd_d rfl) (rd_d rfl) x_mulR fun v1 => (j_c (j_op rd_b rd_b (x_mod (by decide)) (j_fzb (fzb_of fz_b) (j_setD (j_last (j_ret (j_bin (j_bin (j_bin (j_bin (j_var rfl (j_bin (j_c (j_var rfl (j_op rd_b (rd_d rfl) (x_mul (cmul_l (by decide))) (j_op (rd_d rfl) rd_b x_add (j_c (j_op rd_b rd_b (x_mul (cmul_r (by decide))) (j_c (j_op rd_b rd_b (x_mod (by decide)) (j_c (j_op rd_b rd_b (x_fdiv (cfdiv_r (by decide))) (j_retb (l := [0, 0, 0]) sl_d rfl rfl))))))))))))))))))))))))))))))))))))))))))))))))))) (fun a p hp => nomatch hp)
def m__law_deck (cell : Int) (many : Int) : R ((List Int)) :=
  R.bind (ob (rg1 many) fun xs1 =>
  foldM (fun (s8 : ((List Int) × Int)) (x9 : Int) =>
  R.bind (m__law_stir cell x9) fun v10 =>
  R.bind (if (decide (((10 : Int) ^ ((18 : Int)).toNat) ≤ cell)) = true then
  (.ok ((s8.2 % (720720 : Int))))
  else
  (.ok v10)) fun (s11 : Int) =>
  ob (appL s8.1 s11) fun v12 =>
  .ok ((v12, (s8.2 / (720720 : Int))))) xs1 ((([] : (List Int)), cell))) fun (s13 : ((List Int) × Int)) =>
  .ok ((s13.1.reverse))
theorem sim__law_deck (cell : Int) (many : Int) : FnS h__law_deck [.fr (toD (cell : Int)), .fr (toD (many : Int))] (m__law_deck cell many) (fun a : (List Int) => .o (toD (a : (List Int)))) (fun a : (List Int) => []) :=
  fn_mk (n := 4) (rv := fun a : (List Int) => .o (toD (a : (List Int)))) (ss := [(.d (toD (cell : Int))), (.d (toD (many : Int)))]) (Γe := fun a : (List Int) => [none, none, none, none, none, none]) rfl (.cons rfl (.cons rfl All2.nil)) rfl
  (j_re (Γ' := [some (.d (toD (cell : Int))), some (.d (toD (many : Int))), none, none, none, none]) rfl (j_own (j_lst (j_dnil (j_lst2 (toD (([] : (List Int)) : (List Int))) rfl rfl (j_ownb (j_setO (j_re (Γ' := [some (.d (toD (cell : Int))), some (.d (toD (many : Int))), some (.o (toD (([] : (List Int)) : (List Int)))), none, none, none]) rfl (j_asg (j_var rfl (j_fzb (fzb_of (fz_d rfl)) (j_setD (j_re (Γ' := [some (.d (toD (cell : Int))), some (.d (toD (many : Int))), some (.o (toD (([] : (List Int)) : (List Int)))), some (.d (toD (cell : Int))), none, none]) rfl (j_seq (Γs := fun (s8 : ((List Int) × Int)) => [some (.d (toD (cell : Int))), some (.d (toD (many : Int))), some (.o (toD (s8.1 : (List Int)))), some (.d (toD (s8.2 : Int))), none, none]) (j_sFor (j_iRg1 (j_var rfl (j_rg1 (rd_d rfl) fun xs1 => (j_for (l := [1, 1, 1, 1, 0, 0]) (D := toD) (Γs := fun (s8 : ((List Int) × Int)) => [some (.d (toD (cell : Int))), some (.d (toD (many : Int))), some (.o (toD (s8.1 : (List Int)))), some (.d (toD (s8.2 : Int))), none, none]) ((([] : (List Int)), cell)) rfl (fun _ => rfl) fun s8 x9 => (j_gN (j_re (Γ' := [some (.d (toD (cell : Int))), some (.d (toD (many : Int))), some (.o (toD (s8.1 : (List Int)))), some (.d (toD (s8.2 : Int))), some (.d (toD (x9 : Int))), none]) rfl (j_asg (j_callP (j_aP (j_var rfl (j_aPs (j_aP (j_var rfl (j_aPs (j_anil (j_callPop rfl (la_d rfl (la_d rfl la_nil)) rfl (sim__law_stir cell x9) (fun _ => rfl) fun v10 => (j_fzb (fzb_of fz_b) (j_setD (j_re (Γ' := [some (.d (toD (cell : Int))), some (.d (toD (many : Int))), some (.o (toD (s8.1 : (List Int)))), some (.d (toD (s8.2 : Int))), some (.d (toD (x9 : Int))), some (.d (toD (v10 : Int)))]) rfl (j_seq (Γs := fun (s11 : Int) => [some (.d (toD (cell : Int))), some (.d (toD (many : Int))), some (.o (toD (s8.1 : (List Int)))), some (.d (toD (s8.2 : Int))), some (.d (toD (x9 : Int))), some (.d (toD (s11 : Int)))]) (j_if1 (j_test (j_bin (j_var rfl (j_bin (j_c (j_c (j_op rd_b rd_b (x_pow (by decide)) (j_op (rd_d rfl) rd_b x_ge (j_bool rd_b (j_ite (j_last (j_re (Γ' := [some (.d (toD (cell : Int))), some (.d (toD (many : Int))), some (.o (toD (s8.1 : (List Int)))), some (.d (toD (s8.2 : Int))), some (.d (toD (x9 : Int))), some (.d (toD (v10 : Int)))]) rfl (j_asg (j_bin (j_var rfl (j_c (j_op (rd_d rfl) rd_b (x_mod (by decide)) (j_fzb (fzb_of fz_b) (j_setD (j_nil (l := [1, 1, 1, 1, 1, 1]) rfl rfl)))))))))) (j_nil (l := [1, 1, 1, 1, 1, 1]) rfl rfl)))))))))))) fun s11 => (j_re (Γ' := [some (.d (toD (cell : Int))), some (.d (toD (many : Int))), some (.o (toD (s8.1 : (List Int)))), some (.d (toD (s8.2 : Int))), some (.d (toD (x9 : Int))), some (.d (toD (s11 : Int)))]) rfl (j_asg (j_bin (j_var rfl (j_c (j_op (rd_d rfl) rd_b (x_fdiv (cfdiv_r (by decide))) (j_fzb (fzb_of fz_b) (j_setD (j_last (j_re (Γ' := [some (.d (toD (cell : Int))), some (.d (toD (many : Int))), some (.o (toD (s8.1 : (List Int)))), some (.d (toD ((s8.2 / (720720 : Int)) : Int))), some (.d (toD (x9 : Int))), some (.d (toD (s11 : Int)))]) rfl (j_expr (j_mth (j_chk rfl rfl (j_dcons (j_var rfl (j_fz (fz_d rfl) (j_dnil (j_mthopR (z := fun _ => .fr .none) (es := fun a => a.map toD) (y := fun a => toD a) rfl (x_app (τ := Int)) (fun _ => rfl) fun v12 => (j_nil (l := [1, 1, 1, 1, 0, 0]) rfl rfl)))))))))))))))))))))))))))))))))))))))) fun s13 => (j_last (j_re (Γ' := [some (.d (toD (cell : Int))), some (.d (toD (many : Int))), some (.o (toD (s13.1 : (List Int)))), some (.d (toD (s13.2 : Int))), none, none]) rfl (j_ret (j_un (j_var rfl (j_unop (rd_o rfl) (x_rev (τ := Int)) (j_retb (l := [0, 0, 0, 0, 0, 0]) sl_o rfl rfl))))))))))))))))))))) (fun a p hp => nomatch hp)
def m_Lister_drop (self : Ls) (order : (List Int)) : R ((Unit × Ls)) :=
  R.bind (m_need_order order) fun v1 =>
  if (!memT order self.held) = true then
  (.ex "NoFit")
  else
  (ob (remL self.held order) fun v2 =>
  ob (appL self.deeds ((false, order))) fun v3 =>
  .ok ((), (Ls.mk self.way self.things self.far v2 v3)))
theorem sim_Lister_drop (self : Ls) (order : (List Int)) : FnS h_Lister_drop [.tr (Ls.tr self), .fr (toD (order : (List Int)))] (m_Lister_drop self order) (fun _ => .d .none) (fun a : (Unit × Ls) => [(0, (.t (Ls.tr a.2)))]) :=
  fn_mkN (n := 0) (ss := [(.t (Ls.tr self)), (.d (toD (order : (List Int))))]) (Γe := fun a : (Unit × Ls) => [some (.t (Ls.tr a.2)), none]) rfl (.cons rfl (.cons rfl All2.nil)) rfl
  (j_expr (j_callP (j_aP (j_var rfl (j_aPs (j_anil (j_callPop rfl (la_d rfl la_nil) rfl (sim_need_order order) (fun _ => rfl) fun v1 => (j_if (j_tlendSB (LdS.mk (ls_dats _) (LdC.d LdC.nil)) (j_test (j_bin (j_var rfl (j_fld rfl rfl (j_op (rd_d rfl) rd_b (x_notInM (τ := (List Int))) (j_bool rd_b (j_kb (l := [1, 1]) rfl rfl))))))) (j_ite j_seqRaise (j_seqNil (j_expr (j_fmth rfl rfl rfl (frsT_fr _) (j_dcons (j_var rfl (j_fz (fz_d rfl) (j_dnil (j_fmthop (z := fun _ => .fr .none) (es := fun a => a.map toD) (y := fun v2 => Ls.tr (Ls.mk self.way self.things self.far v2 self.deeds)) rfl (x_rem (τ := (List Int))) (fun _ => rfl) fun v2 => (j_last (j_expr (j_fmth rfl rfl rfl (frsT_fr _) (j_dcons (j_tup (j_dcons (j_c (j_fz fz_b (j_dcons (j_cb (j_acons (j_var rfl (j_anil (j_cbop (ra_cons (rd_d rfl) ra_nil) (x_list (τ := Int)) (j_fz fz_w (j_dnil (j_tup2 (toD ((false, order) : (Bool × (List Int)))) rfl rfl (j_fz fz_b (j_dnil (j_fmthop (z := fun _ => .fr .none) (es := fun a => a.map toD) (y := fun v3 => Ls.tr (Ls.mk self.way self.things self.far v2 v3)) rfl (x_app (τ := (Bool × (List Int)))) (fun _ => rfl) fun v3 => (j_nilF (l := [1, 0]) rfl rfl))))))))))))))))))))))))))))))))))))))) (fun a p hp => by
    simp only [List.mem_cons, List.not_mem_nil, or_false] at hp
    subst hp; rfl)
def m__law_next (deck : (List Int)) : R ((Int × (List Int))) :=
  R.bind (if (decide ((deck.length : Int) = (1 : Int))) = true then
  (ob (atI deck ((0 : Int))) fun v7 =>
  R.bind (m__law_stir v7 ((7 : Int))) fun v8 =>
  ob (atI deck ((0 : Int))) fun v9 =>
  ob (mulI v8 ((b2i ((decide ((0 : Int) < v9)))))) fun v10 =>
  ob (insL deck ((0 : Int)) v10) fun v11 =>
  .ok v11)
  else
  (.ok deck)) fun (s6 : (List Int)) =>
  ob (popL s6) fun v12 =>
  .ok ((v12.1, v12.2))
theorem sim__law_next (deck : (List Int)) : FnS h__law_next [bow (toD (deck : (List Int)))] (m__law_next deck) (fun a : (Int × (List Int)) => .d (toD (a.1 : Int))) (fun a : (Int × (List Int)) => [(0, (.o (toD (a.2 : (List Int)))))]) :=
  fn_mk (n := 0) (rv := fun a : (Int × (List Int)) => .d (toD (a.1 : Int))) (ss := [(.o (toD (deck : (List Int))))]) (Γe := fun a : (Int × (List Int)) => [some (.o (toD (a.2 : (List Int))))]) rfl (.cons sl_o All2.nil) rfl
  (j_seq (Γs := fun (s6 : (List Int)) => [some (.o (toD (s6 : (List Int))))]) (j_if1 (j_test (j_bin (j_cb (j_acons (j_var rfl (j_anil (j_cbop (ra_cons (rd_o rfl) ra_nil) (x_len (τ := Int)) (j_c (j_op rd_b rd_b (x_eq (τ := Int)) (j_bool rd_b (j_ite (j_last (j_expr (j_mth (j_chk rfl rfl (j_dcons (j_c (j_fz fz_b (j_dcons (j_bin (j_callP (j_aP (j_bin (j_var rfl (j_c (j_opR (rd_o rfl) rd_b (x_ix (τ := Int)) fun v7 => (j_aPb (j_aP (j_c (j_aPb (j_anil (j_callPop rfl (la_b (la_b la_nil)) rfl (sim__law_stir v7 ((7 : Int))) (fun _ => rfl) fun v8 => (j_cb (j_acons (j_bin (j_bin (j_var rfl (j_c (j_opR (rd_o rfl) rd_b (x_ix (τ := Int)) fun v9 => (j_c (j_op rd_b rd_b x_gt (j_anil (j_cbop (ra_cons rd_b ra_nil) x_intB (j_opR rd_b rd_b x_mulR fun v10 => (j_fz fz_b (j_dnil (j_mthopR (z := fun _ => .fr .none) (es := fun a => a.map toD) (y := fun a => toD a) rfl (x_ins (τ := Int)) (fun _ => rfl) fun v11 => (j_nil (l := [1]) rfl rfl))))))))))))))))))))))))))))))))))))) (j_nil (l := [1]) rfl rfl))))))))))))) fun s6 => (j_last (j_ret (j_mth (j_chk rfl rfl (j_dnil (j_mthopR (z := fun a => .fr (toD a.1)) (es := fun a => a.2.map toD) (y := fun a => toD a.2) rfl (x_pop (τ := Int)) (fun _ => rfl) fun v12 => (j_retb (l := [1]) sl_d rfl rfl)))))))) (fun a p hp => by
    simp only [List.mem_cons, List.not_mem_nil, or_false] at hp
    subst hp; rfl)
def m__law_dropped_right (deck : (List Int)) (busy : Ls) : R ((Bool × (List Int) × Ls)) :=
  R.bind (R.bind (m_Lister_orders busy) fun v7 =>
  ob (rowsG v7) fun _ =>
  if (decide (v7 = ([] : (List (List Int))))) = true then
  (.ok (true, deck))
  else
  (R.bind (m__law_next deck) fun v8 =>
  .ok ((decide ((v8.1 % (2 : Int)) = (1 : Int))), v8.2))) fun b6 =>
  if b6.1 = true then
  (.ok ((true, b6.2, busy)))
  else
  (R.bind (m_Lister_orders busy) fun v9 =>
  ob (rowsG v9) fun _ =>
  R.bind (m__law_next b6.2) fun v10 =>
  R.bind (m_Lister_orders busy) fun v11 =>
  ob (rowsG v11) fun _ =>
  ob (modI v10.1 ((v11.length : Int))) fun v12 =>
  ob (atI v9 v12) fun v13 =>
  R.bind (m_Lister_drop busy v13) fun v14 =>
  R.bind (m__law_next v10.2) fun v15 =>
  if (decide ((v15.1 % (2 : Int)) = (0 : Int))) = true then
  (R.bind (m_Lister_undo v14.2) fun v16 =>
  .ok ((true, v15.2, v16.2)))
  else
  (R.bind (m_Lister_come v14.2 v13) fun v17 =>
  .ok (((decide (v17.1 = ([] : (List (List Int))))), v15.2, v17.2))))
theorem sim__law_dropped_right (deck : (List Int)) (busy : Ls) : FnS h__law_dropped_right [bow (toD (deck : (List Int))), .tr (Ls.tr busy)] (m__law_dropped_right deck busy) (fun a : (Bool × (List Int) × Ls) => .d (toD (a.1 : Bool))) (fun a : (Bool × (List Int) × Ls) => [(0, (.o (toD (a.2.1 : (List Int))))), (1, (.t (Ls.tr a.2.2)))]) :=
  fn_mk (n := 1) (rv := fun a : (Bool × (List Int) × Ls) => .d (toD (a.1 : Bool))) (ss := [(.o (toD (deck : (List Int)))), (.t (Ls.tr busy))]) (Γe := fun a : (Bool × (List Int) × Ls) => [some (.o (toD (a.2.1 : (List Int)))), some (.t (Ls.tr a.2.2)), none]) rfl (.cons sl_o (.cons rfl All2.nil)) rfl
  (j_if (j_sub (bv := fun b6 : (Bool × (List Int)) => b6.1) (Γ1 := fun b6 : (Bool × (List Int)) => [some (.o (toD (b6.2 : (List Int)))), some (.t (Ls.tr busy)), none]) (j_orC (j_test (j_bin (j_methP rfl (by decide) (j_anil (j_methPO rfl ba_nil (rcv_t rfl (ls_dats _) (ls_rows _)) (sim_Lister_orders busy) fun v7 => (j_lst (j_dnil (j_lst2 (toD (([] : (List (List Int))) : (List (List Int)))) rfl rfl (j_op rd_w rd_w (x_eq (τ := (List (List Int)))) (j_bool rd_b (j_ite (j_kb (l := [1, 1, 0]) rfl rfl) (j_test (j_bin (j_bin (j_call (j_aM rfl (j_anil (j_callF rfl (ba_o rfl ba_nil) (sim__law_next deck) (fun _ => rfl) (fun _ => rfl) fun v8 => (j_c (j_op rd_b rd_b (x_mod (by decide)) (j_c (j_op rd_b rd_b (x_eq (τ := Int)) (j_bool rd_b (j_kb (l := [1, 1, 0]) rfl rfl))))))))))))))))))))))))) fun b6 => (j_ite (j_ret (j_c (j_retb (l := [1, 1, 0]) sl_d rfl rfl))) (j_seqNil (j_asg (j_bin (j_methP rfl (by decide) (j_anil (j_methPO rfl ba_nil (rcv_t rfl (ls_dats _) (ls_rows _)) (sim_Lister_orders busy) fun v9 => (j_bin (j_call (j_aM rfl (j_anil (j_callF rfl (ba_o rfl ba_nil) (sim__law_next b6.2) (fun _ => rfl) (fun _ => rfl) fun v10 => (j_cb (j_acons (j_methP rfl (by decide) (j_anil (j_methPO rfl ba_nil (rcv_t rfl (ls_dats _) (ls_rows _)) (sim_Lister_orders busy) fun v11 => (j_anil (j_cbop (ra_cons rd_w ra_nil) (x_len (τ := (List Int))) (j_opR rd_b rd_b x_modR fun v12 => (j_opR rd_w rd_b (x_ix (τ := (List Int))) fun v13 => (j_fzb (fzb_of fz_b) (j_setD (j_expr (j_meth rfl (by decide) (j_call (j_aM rfl (j_aF (j_var rfl (j_fzb (fzb_of (fz_d rfl)) (j_anil (j_callF rfl (ba_t rfl (ba_b (b := .fr (toD (v13 : (List Int)))) ba_nil)) (sim_Lister_drop busy v13) (fun _ => rfl) (fun _ => rfl) fun v14 => (j_if (j_test (j_bin (j_bin (j_call (j_aM rfl (j_anil (j_callF rfl (ba_o rfl ba_nil) (sim__law_next v10.2) (fun _ => rfl) (fun _ => rfl) fun v15 => (j_c (j_op rd_b rd_b (x_mod (by decide)) (j_c (j_op rd_b rd_b (x_eq (τ := Int)) (j_bool rd_b (j_ite (j_ret (j_bin (j_meth rfl (by decide) (j_call (j_aM rfl (j_anil (j_callF rfl (ba_t rfl ba_nil) (sim_Lister_undo v14.2) (fun _ => rfl) (fun _ => rfl) fun v16 => (j_c (j_op rd_b rd_b rfl (j_retb (l := [1, 1, 0]) sl_d rfl rfl)))))))))) (j_seqNil (j_last (j_ret (j_bin (j_meth rfl (by decide) (j_call (j_aM rfl (j_aF (j_var rfl (j_fzb (fzb_of (fz_d rfl)) (j_anil (j_callO rfl (ba_t rfl (ba_b (b := .fr (toD (v13 : (List Int)))) ba_nil)) (sim_Lister_come v14.2 v13) (fun _ => rfl) fun v17 => (j_lst (j_dnil (j_lst2 (toD (([] : (List (List Int))) : (List (List Int)))) rfl rfl (j_op rd_w rd_w (x_eq (τ := (List (List Int)))) (j_retb (l := [1, 1, 0]) sl_d rfl rfl))))))))))))))))))))))))))))))))))))))))))))))))))))))))))))))))) (fun a p hp => by
    simp only [List.mem_cons, List.not_mem_nil, or_false] at hp
    rcases hp with rfl | rfl <;> rfl)
def m__law_near (deck : (List Int)) (order : (List Int)) : R (((List Int) × (List Int))) :=
  R.bind (m__law_next deck) fun v1 =>
  R.bind (R.bind (m__law_next v1.2) fun v2 =>
  ob (atI ([(1 : Int), (1 : Int), (2 : Int), (4 : Int)]) ((v2.1 % (4 : Int)))) fun v3 =>
  ob (mulI v3 ((b2i ((decide ((1 : Int) < (order.length : Int))))))) fun v4 =>
  ob (rg1 v4) fun xs5 =>
  foldM (fun (s50 : ((List Int) × (List Int))) (x51 : Int) =>
  R.bind (m__law_next s50.1) fun v52 =>
  ob (modI v52.1 (((s50.2.length : Int) - (1 : Int)))) fun v53 =>
  R.bind (m__law_next v52.2) fun v54 =>
  ob (modI v54.1 ((s50.2.length : Int))) fun v55 =>
  ob (atI ([(v53 + (1 : Int)), v55, (v53 + (1 : Int))]) ((v1.1 % (3 : Int)))) fun v56 =>
  R.bind (if (decide ((v1.1 % (3 : Int)) < (2 : Int))) = true then
  (ob (atI s50.2 v56) fun v66 =>
  ob (atI s50.2 v53) fun v67 =>
  ob (setI s50.2 v53 v66) fun v68 =>
  ob (setI v68 v56 v67) fun v69 =>
  .ok ((v54.2, v69)))
  else
  (R.bind (m__law_next v54.2) fun v70 =>
  ob (modI v70.1 ((s50.2.length : Int))) fun v71 =>
  ob (popI s50.2 v53) fun v72 =>
  ob (insL v72.2 v71 v72.1) fun v73 =>
  .ok ((v70.2, v73)))) fun (s65 : ((List Int) × (List Int))) =>
  .ok ((s65.1, s65.2))) xs5 ((v2.2, order))) fun (s74 : ((List Int) × (List Int))) =>
  .ok ((s74.2, s74.1))
theorem sim__law_near (deck : (List Int)) (order : (List Int)) : FnS h__law_near [bow (toD (deck : (List Int))), .fr (toD (order : (List Int)))] (m__law_near deck order) (fun a : ((List Int) × (List Int)) => .o (toD (a.1 : (List Int)))) (fun a : ((List Int) × (List Int)) => [(0, (.o (toD (a.2 : (List Int)))))]) :=
  fn_mk (n := 5) (rv := fun a : ((List Int) × (List Int)) => .o (toD (a.1 : (List Int)))) (ss := [(.o (toD (deck : (List Int)))), (.d (toD (order : (List Int))))]) (Γe := fun a : ((List Int) × (List Int)) => [some (.o (toD (a.2 : (List Int)))), none, none, none, none, none, none]) rfl (.cons sl_o (.cons rfl All2.nil)) rfl
  (j_re (Γ' := [some (.o (toD (deck : (List Int)))), some (.d (toD (order : (List Int)))), none, none, none, none, none]) rfl (j_own (j_cb (j_acons (j_var rfl (j_anil (j_cbop (ra_cons (rd_d rfl) ra_nil) (x_list (τ := Int)) (j_ownb (j_setO (j_re (Γ' := [some (.o (toD (deck : (List Int)))), some (.d (toD (order : (List Int)))), some (.o (toD (order : (List Int)))), none, none, none, none]) rfl (j_asg (j_bin (j_call (j_aM rfl (j_anil (j_callF rfl (ba_o rfl ba_nil) (sim__law_next deck) (fun _ => rfl) (fun _ => rfl) fun v1 => (j_c (j_op rd_b rd_b (x_mod (by decide)) (j_fzb (fzb_of fz_b) (j_setD (j_re (Γ' := [some (.o (toD (v1.2 : (List Int)))), some (.d (toD (order : (List Int)))), some (.o (toD (order : (List Int)))), some (.d (toD ((v1.1 % (3 : Int)) : Int))), none, none, none]) rfl (j_seq (Γs := fun (s50 : ((List Int) × (List Int))) => [some (.o (toD (s50.1 : (List Int)))), some (.d (toD (order : (List Int)))), some (.o (toD (s50.2 : (List Int)))), some (.d (toD ((v1.1 % (3 : Int)) : Int))), none, none, none]) (j_sFor (j_iRg1 (j_bin (j_bin (j_lst (j_dcons (j_c (j_fz fz_b (j_dcons (j_c (j_fz fz_b (j_dcons (j_c (j_fz fz_b (j_dcons (j_c (j_fz fz_b (j_dnil (j_lst2 (toD ([(1 : Int), (1 : Int), (2 : Int), (4 : Int)] : (List Int))) rfl rfl (j_bin (j_call (j_aM rfl (j_anil (j_callF rfl (ba_o rfl ba_nil) (sim__law_next v1.2) (fun _ => rfl) (fun _ => rfl) fun v2 => (j_c (j_op rd_b rd_b (x_mod (by decide)) (j_opR rd_w rd_b (x_ix (τ := Int)) fun v3 => (j_cb (j_acons (j_bin (j_cb (j_acons (j_var rfl (j_anil (j_cbop (ra_cons (rd_o rfl) ra_nil) (x_len (τ := Int)) (j_c (j_op rd_b rd_b x_gt (j_anil (j_cbop (ra_cons rd_b ra_nil) x_intB (j_opR rd_b rd_b x_mulR fun v4 => (j_rg1 rd_b fun xs5 => (j_for (l := [1, 1, 1, 1, 0, 0, 0]) (D := toD) (Γs := fun (s50 : ((List Int) × (List Int))) => [some (.o (toD (s50.1 : (List Int)))), some (.d (toD (order : (List Int)))), some (.o (toD (s50.2 : (List Int)))), some (.d (toD ((v1.1 % (3 : Int)) : Int))), none, none, none]) ((v2.2, order)) rfl (fun _ => rfl) fun s50 x51 => (j_gN (j_re (Γ' := [some (.o (toD (s50.1 : (List Int)))), some (.d (toD (order : (List Int)))), some (.o (toD (s50.2 : (List Int)))), some (.d (toD ((v1.1 % (3 : Int)) : Int))), some (.d (toD (x51 : Int))), none, none]) rfl (j_asg (j_bin (j_call (j_aM rfl (j_anil (j_callF rfl (ba_o rfl ba_nil) (sim__law_next s50.1) (fun _ => rfl) (fun _ => rfl) fun v52 => (j_bin (j_cb (j_acons (j_var rfl (j_anil (j_cbop (ra_cons (rd_o rfl) ra_nil) (x_len (τ := Int)) (j_c (j_op rd_b rd_b x_sub (j_opR rd_b rd_b x_modR fun v53 => (j_fzb (fzb_of fz_b) (j_setD (j_re (Γ' := [some (.o (toD (v52.2 : (List Int)))), some (.d (toD (order : (List Int)))), some (.o (toD (s50.2 : (List Int)))), some (.d (toD ((v1.1 % (3 : Int)) : Int))), some (.d (toD (x51 : Int))), some (.d (toD (v53 : Int))), none]) rfl (j_asg (j_bin (j_lst (j_dcons (j_bin (j_var rfl (j_c (j_op (rd_d rfl) rd_b x_add (j_fz fz_b (j_dcons (j_bin (j_call (j_aM rfl (j_anil (j_callF rfl (ba_o rfl ba_nil) (sim__law_next v52.2) (fun _ => rfl) (fun _ => rfl) fun v54 => (j_cb (j_acons (j_var rfl (j_anil (j_cbop (ra_cons (rd_o rfl) ra_nil) (x_len (τ := Int)) (j_opR rd_b rd_b x_modR fun v55 => (j_fz fz_b (j_dcons (j_bin (j_var rfl (j_c (j_op (rd_d rfl) rd_b x_add (j_fz fz_b (j_dnil (j_lst2 (toD ([(v53 + (1 : Int)), v55, (v53 + (1 : Int))] : (List Int))) rfl rfl (j_var rfl (j_opR rd_w (rd_d rfl) (x_ix (τ := Int)) fun v56 => (j_fzb (fzb_of fz_b) (j_setD (j_last (j_re (Γ' := [some (.o (toD (v54.2 : (List Int)))), some (.d (toD (order : (List Int)))), some (.o (toD (s50.2 : (List Int)))), some (.d (toD ((v1.1 % (3 : Int)) : Int))), some (.d (toD (x51 : Int))), some (.d (toD (v53 : Int))), some (.d (toD (v56 : Int)))]) rfl (j_seq (Γs := fun (s65 : ((List Int) × (List Int))) => [some (.o (toD (s65.1 : (List Int)))), some (.d (toD (order : (List Int)))), some (.o (toD (s65.2 : (List Int)))), some (.d (toD ((v1.1 % (3 : Int)) : Int))), some (.d (toD (x51 : Int))), some (.d (toD (v53 : Int))), some (.d (toD (v56 : Int)))]) (j_if1 (j_test (j_bin (j_var rfl (j_c (j_op (rd_d rfl) rd_b x_lt (j_bool rd_b (j_ite (j_last (j_re (Γ' := [some (.o (toD (v54.2 : (List Int)))), some (.d (toD (order : (List Int)))), some (.o (toD (s50.2 : (List Int)))), some (.d (toD ((v1.1 % (3 : Int)) : Int))), some (.d (toD (x51 : Int))), some (.d (toD (v53 : Int))), some (.d (toD (v56 : Int)))]) rfl (j_put2 (j_dcons (j_bin (j_var rfl (j_var rfl (j_opR (rd_o rfl) (rd_d rfl) (x_ix (τ := Int)) fun v66 => (j_fz fz_b (j_dcons (j_bin (j_var rfl (j_var rfl (j_opR (rd_o rfl) (rd_d rfl) (x_ix (τ := Int)) fun v67 => (j_fz fz_b (j_dnil (j_has rfl (j_var rfl (j_putI (y := fun a => toD a) rfl (rd_d rfl) (x_set (τ := Int) _) fun v68 => (j_has rfl (j_var rfl (j_putI (y := fun a => toD a) rfl (rd_d rfl) (x_set (τ := Int) _) fun v69 => (j_nil (l := [1, 1, 1, 1, 1, 1, 1]) rfl rfl))))))))))))))))))))))) (j_last (j_re (Γ' := [some (.o (toD (v54.2 : (List Int)))), some (.d (toD (order : (List Int)))), some (.o (toD (s50.2 : (List Int)))), some (.d (toD ((v1.1 % (3 : Int)) : Int))), some (.d (toD (x51 : Int))), some (.d (toD (v53 : Int))), some (.d (toD (v56 : Int)))]) rfl (j_expr (j_mth (j_chk rfl rfl (j_dcons (j_bin (j_call (j_aM rfl (j_anil (j_callF rfl (ba_o rfl ba_nil) (sim__law_next v54.2) (fun _ => rfl) (fun _ => rfl) fun v70 => (j_cb (j_acons (j_var rfl (j_anil (j_cbop (ra_cons (rd_o rfl) ra_nil) (x_len (τ := Int)) (j_opR rd_b rd_b x_modR fun v71 => (j_fz fz_b (j_dcons (j_mth (j_chk rfl rfl (j_dcons (j_var rfl (j_fz (fz_d rfl) (j_dnil (j_mthopR (z := fun a => .fr (toD a.1)) (es := fun a => a.2.map toD) (y := fun a => toD a.2) rfl (x_popI (τ := Int)) (fun _ => rfl) fun v72 => (j_fz fz_b (j_dnil (j_mthopR (z := fun _ => .fr .none) (es := fun a => a.map toD) (y := fun a => toD a) rfl (x_ins (τ := Int)) (fun _ => rfl) fun v73 => (j_nil (l := [1, 1, 1, 1, 1, 1, 1]) rfl rfl)))))))))))))))))))))))))))))))))))))) fun s65 => (j_nil (l := [1, 1, 1, 1, 0, 0, 0]) rfl rfl)))))))))))))))))))))))))))))))))))))))))))))))))))))))))))))))))))))))))))))))))))))))))))))))))))) fun s74 => (j_last (j_re (Γ' := [some (.o (toD (s74.1 : (List Int)))), some (.d (toD (order : (List Int)))), some (.o (toD (s74.2 : (List Int)))), some (.d (toD ((v1.1 % (3 : Int)) : Int))), none, none, none]) rfl (j_ret (j_var rfl (j_rets (l := [1, 0, 0, 0, 0, 0, 0]) rfl (fun _ => sl_id) rfl rfl))))))))))))))))))))))))))) (fun a p hp => by
    simp only [List.mem_cons, List.not_mem_nil, or_false] at hp
    subst hp; rfl)
def m__law_order (deck : (List Int)) (n : Int) : R (((List Int) × (List Int))) :=
  ob (lrg1 n) fun v1 =>
  ob (rg1 n) fun xs2 =>
  R.bind (lcS (fun (s10 : ((List Int) × (List Int))) (x3 : Int) => R.calm (R.bind (m__law_next s10.1) fun v11 =>
  ob (modI v11.1 ((s10.2.length : Int))) fun v12 =>
  ob (popI s10.2 v12) fun v13 =>
  .ok (some v13.1, (v11.2, v13.2)))) xs2 [] (deck, v1)) fun ys14 =>
  .ok ((ys14.1, ys14.2.1))
theorem sim__law_order (deck : (List Int)) (n : Int) : FnS h__law_order [bow (toD (deck : (List Int))), .fr (toD (n : Int))] (m__law_order deck n) (fun a : ((List Int) × (List Int)) => .o (toD (a.1 : (List Int)))) (fun a : ((List Int) × (List Int)) => [(0, (.o (toD (a.2 : (List Int)))))]) :=
  fn_mk (n := 2) (rv := fun a : ((List Int) × (List Int)) => .o (toD (a.1 : (List Int)))) (ss := [(.o (toD (deck : (List Int)))), (.d (toD (n : Int)))]) (Γe := fun a : ((List Int) × (List Int)) => [some (.o (toD (a.2 : (List Int)))), none, none, none]) rfl (.cons sl_o (.cons rfl All2.nil)) rfl
  (j_own (j_lr1 (j_var rfl (j_lr1op (rd_d rfl)  fun v1 => (j_ownb (j_setO (j_last (j_ret (j_lc (j_iRg1 (j_var rfl (j_rg1 (rd_d rfl) fun xs2 => (j_lcG (Γs := fun (s10 : ((List Int) × (List Int))) => [some (.o (toD (s10.1 : (List Int)))), some (.d (toD (n : Int))), some (.o (toD (s10.2 : (List Int)))), none]) (l := [1, 1, 1, 0]) (D := toD) (E := toD) (xr := fun a => toD a) (deck, v1) rfl (fun _ => rfl) (fun s10 x3 => (j_gN (j_tt (j_mth (j_chk rfl rfl (j_dcons (j_bin (j_call (j_aM rfl (j_anil (j_callF rfl (ba_o rfl ba_nil) (sim__law_next s10.1) (fun _ => rfl) (fun _ => rfl) fun v11 => (j_cb (j_acons (j_var rfl (j_anil (j_cbop (ra_cons (rd_o rfl) ra_nil) (x_len (τ := Int)) (j_opR rd_b rd_b x_modR fun v12 => (j_fz fz_b (j_dnil (j_mthopR (z := fun a => .fr (toD a.1)) (es := fun a => a.2.map toD) (y := fun a => toD a.2) rfl (x_popI (τ := Int)) (fun _ => rfl) fun v13 => (j_kf (l := [1, 1, 1, 0]) fz_b rfl rfl))))))))))))))))))))) (fun _ => rfl) fun ys14 => (j_retb (l := [1, 0, 0, 0]) sl_o rfl rfl)))))))))))))) (fun a p hp => by
    simp only [List.mem_cons, List.not_mem_nil, or_false] at hp
    subst hp; rfl)
def m__law_free (deck : (List Int)) (way : Str) (n : Int) (d : Int) (held : (List (List Int))) : R (((List Int) × (List Int))) :=
  R.bind (m__law_next deck) fun v1 =>
  R.bind (m__law_order v1.2 n) fun v2 =>
  R.bind (if ((!decide (held = ([] : (List (List Int))))) && (decide ((1 : Int) < (v1.1 % (4 : Int))))) = true then
  (R.bind (m__law_next v2.2) fun v10 =>
  ob (modI v10.1 ((held.length : Int))) fun v11 =>
  ob (atI held v11) fun v12 =>
  R.bind (if (decide ((v1.1 % (4 : Int)) = (2 : Int))) = true then
  (R.bind (m__law_near v10.2 v12) fun v15 =>
  .ok ((v15.2, v15.1)))
  else
  (.ok ((v10.2, v12)))) fun (s14 : ((List Int) × (List Int))) =>
  .ok ((s14.1, s14.2)))
  else
  (.ok ((v2.2, v2.1)))) fun (s9 : ((List Int) × (List Int))) =>
  .ok ((s9.2, s9.1))
theorem sim__law_free (deck : (List Int)) (way : Str) (n : Int) (d : Int) (held : (List (List Int))) : FnS h__law_free [bow (toD (deck : (List Int))), .fr (toD (way : Str)), .fr (toD (n : Int)), .fr (toD (d : Int)), .fr (toD (held : (List (List Int))))] (m__law_free deck way n d held) (fun a : ((List Int) × (List Int)) => .o (toD (a.1 : (List Int)))) (fun a : ((List Int) × (List Int)) => [(0, (.o (toD (a.2 : (List Int)))))]) :=
  fn_mk (n := 2) (rv := fun a : ((List Int) × (List Int)) => .o (toD (a.1 : (List Int)))) (ss := [(.o (toD (deck : (List Int)))), (.d (toD (way : Str))), (.d (toD (n : Int))), (.d (toD (d : Int))), (.d (toD (held : (List (List Int)))))]) (Γe := fun a : ((List Int) × (List Int)) => [some (.o (toD (a.2 : (List Int)))), none, none, none, none, none, none]) rfl (.cons sl_o (.cons rfl (.cons rfl (.cons rfl (.cons rfl All2.nil))))) rfl
  (j_re (Γ' := [some (.o (toD (deck : (List Int)))), some (.d (toD (way : Str))), some (.d (toD (n : Int))), some (.d (toD (d : Int))), some (.d (toD (held : (List (List Int))))), none, none]) rfl (j_asg (j_bin (j_call (j_aM rfl (j_anil (j_callF rfl (ba_o rfl ba_nil) (sim__law_next deck) (fun _ => rfl) (fun _ => rfl) fun v1 => (j_c (j_op rd_b rd_b (x_mod (by decide)) (j_fzb (fzb_of fz_b) (j_setD (j_re (Γ' := [some (.o (toD (v1.2 : (List Int)))), some (.d (toD (way : Str))), some (.d (toD (n : Int))), some (.d (toD (d : Int))), some (.d (toD (held : (List (List Int))))), some (.d (toD ((v1.1 % (4 : Int)) : Int))), none]) rfl (j_own (j_call (j_aM rfl (j_aF (j_var rfl (j_fzb (fzb_of (fz_d rfl)) (j_anil (j_callO rfl (ba_o rfl (ba_b ba_nil)) (sim__law_order v1.2 n) (fun _ => rfl) fun v2 => (j_ownb (j_setO (j_re (Γ' := [some (.o (toD (v2.2 : (List Int)))), some (.d (toD (way : Str))), some (.d (toD (n : Int))), some (.d (toD (d : Int))), some (.d (toD (held : (List (List Int))))), some (.d (toD ((v1.1 % (4 : Int)) : Int))), some (.o (toD (v2.1 : (List Int))))]) rfl (j_seq (Γs := fun (s9 : ((List Int) × (List Int))) => [some (.o (toD (s9.1 : (List Int)))), some (.d (toD (way : Str))), some (.d (toD (n : Int))), some (.d (toD (d : Int))), some (.d (toD (held : (List (List Int))))), some (.d (toD ((v1.1 % (4 : Int)) : Int))), some (.o (toD (s9.2 : (List Int))))]) (j_if1 (j_and (j_test (j_bin (j_var rfl (j_lst (j_dnil (j_lst2 (toD (([] : (List (List Int))) : (List (List Int)))) rfl rfl (j_op (rd_d rfl) rd_w (x_ne (τ := (List (List Int)))) (j_bool rd_b (j_kb (l := [1, 1, 1, 1, 1, 1, 1]) rfl rfl))))))))) (j_test (j_bin (j_var rfl (j_c (j_op (rd_d rfl) rd_b x_gt (j_bool rd_b (j_kb (l := [1, 1, 1, 1, 1, 1, 1]) rfl rfl))))))) (j_ite (j_re (Γ' := [some (.o (toD (v2.2 : (List Int)))), some (.d (toD (way : Str))), some (.d (toD (n : Int))), some (.d (toD (d : Int))), some (.d (toD (held : (List (List Int))))), some (.d (toD ((v1.1 % (4 : Int)) : Int))), some (.o (toD (v2.1 : (List Int))))]) rfl (j_own (j_cb (j_acons (j_bin (j_var rfl (j_bin (j_call (j_aM rfl (j_anil (j_callF rfl (ba_o rfl ba_nil) (sim__law_next v2.2) (fun _ => rfl) (fun _ => rfl) fun v10 => (j_cb (j_acons (j_var rfl (j_anil (j_cbop (ra_cons (rd_d rfl) ra_nil) (x_len (τ := (List Int))) (j_opR rd_b rd_b x_modR fun v11 => (j_opR (rd_d rfl) rd_b (x_ix (τ := (List Int))) fun v12 => (j_anil (j_cbop (ra_cons rd_b ra_nil) (x_list (τ := Int)) (j_ownb (j_setO (j_last (j_re (Γ' := [some (.o (toD (v10.2 : (List Int)))), some (.d (toD (way : Str))), some (.d (toD (n : Int))), some (.d (toD (d : Int))), some (.d (toD (held : (List (List Int))))), some (.d (toD ((v1.1 % (4 : Int)) : Int))), some (.o (toD (v12 : (List Int))))]) rfl (j_seq (Γs := fun (s14 : ((List Int) × (List Int))) => [some (.o (toD (s14.1 : (List Int)))), some (.d (toD (way : Str))), some (.d (toD (n : Int))), some (.d (toD (d : Int))), some (.d (toD (held : (List (List Int))))), some (.d (toD ((v1.1 % (4 : Int)) : Int))), some (.o (toD (s14.2 : (List Int))))]) (j_if1 (j_test (j_bin (j_var rfl (j_c (j_op (rd_d rfl) rd_b (x_eq (τ := Int)) (j_bool rd_b (j_ite (j_last (j_re (Γ' := [some (.o (toD (v10.2 : (List Int)))), some (.d (toD (way : Str))), some (.d (toD (n : Int))), some (.d (toD (d : Int))), some (.d (toD (held : (List (List Int))))), some (.d (toD ((v1.1 % (4 : Int)) : Int))), some (.o (toD (v12 : (List Int))))]) rfl (j_own (j_call (j_aM rfl (j_aF (j_var rfl (j_fzb (fzb_of (fz_o rfl)) (j_anil (j_callO rfl (ba_o rfl (ba_b ba_nil)) (sim__law_near v10.2 v12) (fun _ => rfl) fun v15 => (j_ownb (j_setO (j_nil (l := [1, 1, 1, 1, 1, 1, 1]) rfl rfl))))))))))))) (j_nil (l := [1, 1, 1, 1, 1, 1, 1]) rfl rfl))))))))) fun s14 => (j_nil (l := [1, 1, 1, 1, 1, 1, 1]) rfl rfl)))))))))))))))))))))))))) (j_nil (l := [1, 1, 1, 1, 1, 1, 1]) rfl rfl)))) fun s9 => (j_last (j_re (Γ' := [some (.o (toD (s9.1 : (List Int)))), some (.d (toD (way : Str))), some (.d (toD (n : Int))), some (.d (toD (d : Int))), some (.d (toD (held : (List (List Int))))), some (.d (toD ((v1.1 % (4 : Int)) : Int))), some (.o (toD (s9.2 : (List Int))))]) rfl (j_ret (j_var rfl (j_rets (l := [1, 0, 0, 0, 0, 0, 0]) rfl (fun _ => sl_id) rfl rfl))))))))))))))))))))))))))))) (fun a p hp => by
    simp only [List.mem_cons, List.not_mem_nil, or_false] at hp
    subst hp; rfl)
def m_need_list (orders : (List (List Int))) : R Unit :=
  if (false || (!((decide ((1 : Int) ≤ (orders.length : Int))) && (decide ((orders.length : Int) ≤ (120 : Int)))))) = true then
  (.ex "NoOrder")
  else
  (R.bind (lcM (fun (x1 : (List Int)) => R.calm (R.bind (m_is_order x1) fun v2 =>
  if (!v2) = true then
  (.ok (some x1))
  else
  (.ok none))) orders []) fun ys3 =>
  if (!decide (ys3 = ([] : (List (List Int))))) = true then
  (.ex "NoOrder")
  else
  (R.bind (lcM (fun (x4 : (List Int)) => R.calm (ob (atI orders ((0 : Int))) fun v5 =>
  if (!decide ((x4.length : Int) = (v5.length : Int))) = true then
  (.ok (some x4))
  else
  (.ok none))) orders []) fun ys6 =>
  if (!decide (ys6 = ([] : (List (List Int))))) = true then
  (.ex "NoOrder")
  else
  (ob (lcP (fun (x7 : (List Int)) => true) (fun (x7 : (List Int)) => ((Tup.mk x7))) orders) fun ys8 =>
  ob (lenSetT ys8) fun v9 =>
  if (decide (v9 < (orders.length : Int))) = true then
  (.ex "NoOrder")
  else
  (.ok ()))))
theorem sim_need_list (orders : (List (List Int))) : FnS h_need_list [.fr (toD (orders : (List (List Int))))] (m_need_list orders) (fun _ => .d .none) (fun a : Unit => []) :=
  fn_mkN (n := 1) (ss := [(.d (toD (orders : (List (List Int)))))]) (Γe := fun a : Unit => [none, none]) rfl (.cons rfl All2.nil) rfl
  (j_if (j_or (j_not (j_test (j_isi (j_var rfl (j_isi2 (b := true) (rd_d rfl) rfl (j_bool rd_b (j_kb (l := [1, 0]) rfl rfl))))))) (j_not (j_test (j_chain (j_c (j_cb (j_acons (j_var rfl (j_anil (j_cbop (ra_cons (rd_d rfl) ra_nil) (x_len (τ := (List Int))) (j_chain3 rd_b rd_b x_le (j_c (j_ko (l := [1, 0]) rd_b rfl rfl)) x_le (j_bool rd_b (j_kb (l := [1, 0]) rfl rfl)))))))))))) (j_ite j_seqRaise (j_seqNil (j_if (j_test (j_bin (j_lc (j_iSeq (j_var rfl (j_it (fz_d rfl) rfl (j_lcM (Γs := [some (.d (toD (orders : (List (List Int))))), none]) (l := [1, 0]) (D := toD) (E := toD) (xr := fun a => toD a) rfl rfl (fun x1 => (j_gN (j_not (j_test (j_callP (j_aP (j_var rfl (j_aPs (j_anil (j_callPop rfl (la_d rfl la_nil) rfl (sim_is_order x1) (fun _ => rfl) fun v2 => (j_bool rd_b (j_ite (j_var rfl (j_kf (l := [1, 0]) (fz_d rfl) rfl rfl)) (j_skip (l := [1, 0]) rfl rfl))))))))))))) (fun _ => rfl) fun ys3 => (j_lst (j_dnil (j_lst2 (toD (([] : (List (List Int))) : (List (List Int)))) rfl rfl (j_op rd_w rd_w (x_ne (τ := (List (List Int)))) (j_bool rd_b (j_ite j_seqRaise (j_seqNil (j_if (j_test (j_bin (j_lc (j_iSeq (j_var rfl (j_it (fz_d rfl) rfl (j_lcM (Γs := [some (.d (toD (orders : (List (List Int))))), none]) (l := [1, 0]) (D := toD) (E := toD) (xr := fun a => toD a) rfl rfl (fun x4 => (j_gN (j_test (j_bin (j_cb (j_acons (j_var rfl (j_anil (j_cbop (ra_cons (rd_d rfl) ra_nil) (x_len (τ := Int)) (j_cb (j_acons (j_bin (j_var rfl (j_c (j_opR (rd_d rfl) rd_b (x_ix (τ := (List Int))) fun v5 => (j_anil (j_cbop (ra_cons rd_b ra_nil) (x_len (τ := Int)) (j_op rd_b rd_b (x_ne (τ := Int)) (j_bool rd_b (j_ite (j_var rfl (j_kf (l := [1, 0]) (fz_d rfl) rfl rfl)) (j_skip (l := [1, 0]) rfl rfl))))))))))))))))))))) (fun _ => rfl) fun ys6 => (j_lst (j_dnil (j_lst2 (toD (([] : (List (List Int))) : (List (List Int)))) rfl rfl (j_op rd_w rd_w (x_ne (τ := (List (List Int)))) (j_bool rd_b (j_ite j_seqRaise (j_seqNil (j_last (j_if (j_test (j_bin (j_un (j_lc (j_iSeq (j_var rfl (j_it (fz_d rfl) rfl (j_lcP (Γs := [some (.d (toD (orders : (List (List Int))))), none]) (l := [1, 0]) (D := toD) (E := toD) (xr := fun a => toD a) (p := fun (x7 : (List Int)) => true) (q := fun (x7 : (List Int)) => ((Tup.mk x7))) rfl rfl (fun x7 => (j_gN (j_tt (j_cb (j_acons (j_var rfl (j_anil (j_cbop (ra_cons (rd_d rfl) ra_nil) (x_tuple (τ := Int)) (j_kf (l := [1, 0]) fz_b rfl rfl))))))))) (fun _ => rfl) fun ys8 => (j_unopR (z := fun a => .fr (toD a)) rd_w x_lenSet fun v9 => (j_cb (j_acons (j_var rfl (j_anil (j_cbop (ra_cons (rd_d rfl) ra_nil) (x_len (τ := (List Int))) (j_op rd_b rd_b x_lt (j_bool rd_b (j_ite j_seqRaise (j_seqNil (j_nilF (l := [0, 0]) rfl rfl))))))))))))))))))))))))))))))))))))))))))))))))))))))) (fun a p hp => nomatch hp)
def m_need_asked (way : Str) (order : (List Int)) (orders : (List (List Int))) : R Unit :=
  R.bind (m_need_order order) fun v1 =>
  R.bind (m_need_list orders) fun v2 =>
  R.bind (m_need_way way) fun v3 =>
  ob (atI orders ((0 : Int))) fun v4 =>
  if (!decide ((order.length : Int) = (v4.length : Int))) = true then
  (.ex "NoFit")
  else
  (.ok ())
theorem sim_need_asked (way : Str) (order : (List Int)) (orders : (List (List Int))) : FnS h_need_asked [.fr (toD (way : Str)), .fr (toD (order : (List Int))), .fr (toD (orders : (List (List Int))))] (m_need_asked way order orders) (fun _ => .d .none) (fun a : Unit => []) :=
  fn_mkN (n := 0) (ss := [(.d (toD (way : Str))), (.d (toD (order : (List Int)))), (.d (toD (orders : (List (List Int)))))]) (Γe := fun a : Unit => [none, none, none]) rfl (.cons rfl (.cons rfl (.cons rfl All2.nil))) rfl
  (j_expr (j_callP (j_aP (j_var rfl (j_aPs (j_anil (j_callPop rfl (la_d rfl la_nil) rfl (sim_need_order order) (fun _ => rfl) fun v1 => (j_expr (j_callP (j_aP (j_var rfl (j_aPs (j_anil (j_callPop rfl (la_d rfl la_nil) rfl (sim_need_list orders) (fun _ => rfl) fun v2 => (j_expr (j_callP (j_aP (j_var rfl (j_aPs (j_anil (j_callPop rfl (la_d rfl la_nil) rfl (sim_need_way way) (fun _ => rfl) fun v3 => (j_last (j_if (j_test (j_bin (j_cb (j_acons (j_var rfl (j_anil (j_cbop (ra_cons (rd_d rfl) ra_nil) (x_len (τ := Int)) (j_cb (j_acons (j_bin (j_var rfl (j_c (j_opR (rd_d rfl) rd_b (x_ix (τ := (List Int))) fun v4 => (j_anil (j_cbop (ra_cons rd_b ra_nil) (x_len (τ := Int)) (j_op rd_b rd_b (x_ne (τ := Int)) (j_bool rd_b (j_ite j_seqRaise (j_seqNil (j_nilF (l := [0, 0, 0]) rfl rfl))))))))))))))))))))))))))))))))))))))))))) (fun a p hp => nomatch hp)
def m_nearest_of (way : Str) (order : (List Int)) (orders : (List (List Int))) : R ((Int × (List (List Int)))) :=
  R.bind (m_need_asked way order orders) fun v1 =>
  R.bind (lcM (fun (x2 : (List Int)) => R.calm (R.bind (m_far_by way order x2) fun v3 =>
  .ok (some v3))) orders []) fun ys4 =>
  ob (minL ys4) fun v5 =>
  ob (lcP (fun (x6 : ((List Int) × Int)) => (decide (x6.2 = v5))) (fun (x6 : ((List Int) × Int)) => x6.1) ((orders.zip ys4))) fun ys7 =>
  .ok ((v5, ys7))
theorem sim_nearest_of (way : Str) (order : (List Int)) (orders : (List (List Int))) : FnS h_nearest_of [.fr (toD (way : Str)), .fr (toD (order : (List Int))), .fr (toD (orders : (List (List Int))))] (m_nearest_of way order orders) (fun a : (Int × (List (List Int))) => .d (toD (a : (Int × (List (List Int)))))) (fun a : (Int × (List (List Int))) => []) :=
  fn_mk (n := 4) (rv := fun a : (Int × (List (List Int))) => .d (toD (a : (Int × (List (List Int)))))) (ss := [(.d (toD (way : Str))), (.d (toD (order : (List Int)))), (.d (toD (orders : (List (List Int)))))]) (Γe := fun a : (Int × (List (List Int))) => [none, none, none, none, none, none, none]) rfl (.cons rfl (.cons rfl (.cons rfl All2.nil))) rfl
  (j_re (Γ' := [some (.d (toD (way : Str))), some (.d (toD (order : (List Int)))), some (.d (toD (orders : (List (List Int))))), none, none, none, none]) rfl (j_expr (j_callP (j_aP (j_var rfl (j_aPs (j_aP (j_var rfl (j_aPs (j_aP (j_var rfl (j_aPs (j_anil (j_callPop rfl (la_d rfl (la_d rfl (la_d rfl la_nil))) rfl (sim_need_asked way order orders) (fun _ => rfl) fun v1 => (j_re (Γ' := [some (.d (toD (way : Str))), some (.d (toD (order : (List Int)))), some (.d (toD (orders : (List (List Int))))), none, none, none, none]) rfl (j_asg (j_lc (j_iSeq (j_var rfl (j_it (fz_d rfl) rfl (j_lcM (Γs := [some (.d (toD (way : Str))), some (.d (toD (order : (List Int)))), some (.d (toD (orders : (List (List Int))))), none, none, none, none]) (l := [1, 1, 1, 0, 0, 0, 0]) (D := toD) (E := toD) (xr := fun a => toD a) rfl rfl (fun x2 => (j_gN (j_tt (j_callP (j_aP (j_var rfl (j_aPs (j_aP (j_var rfl (j_aPs (j_aP (j_var rfl (j_aPs (j_anil (j_callPop rfl (la_d rfl (la_d rfl (la_d rfl la_nil))) rfl (sim_far_by way order x2) (fun _ => rfl) fun v3 => (j_kf (l := [1, 1, 1, 0, 0, 0, 0]) fz_b rfl rfl)))))))))))))))) (fun _ => rfl) fun ys4 => (j_fzb (fzb_of fz_w) (j_setD (j_re (Γ' := [some (.d (toD (way : Str))), some (.d (toD (order : (List Int)))), some (.d (toD (orders : (List (List Int))))), some (.d (toD (ys4 : (List Int)))), none, none, none]) rfl (j_asg (j_cb (j_acons (j_var rfl (j_anil (j_cbopR (ra_cons (rd_d rfl) ra_nil) x_minL fun v5 => (j_fzb (fzb_of fz_b) (j_setD (j_last (j_re (Γ' := [some (.d (toD (way : Str))), some (.d (toD (order : (List Int)))), some (.d (toD (orders : (List (List Int))))), some (.d (toD (ys4 : (List Int)))), some (.d (toD (v5 : Int))), none, none]) rfl (j_ret (j_tup (j_dcons (j_var rfl (j_fz (fz_d rfl) (j_dcons (j_lc (j_iZip (j_var rfl (j_fz (fz_d rfl) (j_var rfl (j_zip2 (D := toD) (D2 := toD) (fz_d rfl) (j_lcP (Γs := [some (.d (toD (way : Str))), some (.d (toD (order : (List Int)))), some (.d (toD (orders : (List (List Int))))), some (.d (toD (ys4 : (List Int)))), some (.d (toD (v5 : Int))), none, none]) (l := [1, 1, 1, 1, 1, 0, 0]) (D := toD) (E := toD) (xr := fun a => toD a) (p := fun (x6 : ((List Int) × Int)) => (decide (x6.2 = v5))) (q := fun (x6 : ((List Int) × Int)) => x6.1) rfl rfl (fun x6 => (j_gT2 (j_test (j_bin (j_var rfl (j_var rfl (j_op (rd_d rfl) (rd_d rfl) (x_eq (τ := Int)) (j_bool rd_b (j_ite (j_cb (j_acons (j_var rfl (j_anil (j_cbop (ra_cons (rd_d rfl) ra_nil) (x_list (τ := Int)) (j_kf (l := [1, 1, 1, 1, 1, 0, 0]) fz_w rfl rfl)))))) (j_skip (l := [1, 1, 1, 1, 1, 0, 0]) rfl rfl)))))))))) (fun _ => rfl) fun ys7 => (j_fz fz_w (j_dnil (j_tup2 (toD ((v5, ys7) : (Int × (List (List Int))))) rfl rfl (j_retb (l := [0, 0, 0, 0, 0, 0, 0]) sl_d rfl rfl))))))))))))))))))))))))))))))))))))))))))))))))))) (fun a p hp => nomatch hp)
def m__law_told_right (way : Str) (d : Int) (ahead : (List (List Int))) (order : (List Int)) (told : (List (List Int))) : R Bool :=
  if (decide (ahead = ([] : (List (List Int))))) = true then
  (.ok ((decide (told = ([] : (List (List Int)))))))
  else
  (R.bind (m_nearest_of way order ahead) fun v1 =>
  if (!decide ((decide (v1.1 < d)) = (!decide (told = ([] : (List (List Int))))))) = true then
  (.ok false)
  else
  (if (decide (told = ([] : (List (List Int))))) = true then (.ok true) else
  (ob (lcP (fun (x4 : (List Int)) => (!memT x4 told)) (fun (x4 : (List Int)) => x4) v1.2) fun ys5 =>
  .ok ((decide (ys5 = ([] : (List (List Int)))))))))
theorem sim__law_told_right (way : Str) (d : Int) (ahead : (List (List Int))) (order : (List Int)) (told : (List (List Int))) : FnS h__law_told_right [.fr (toD (way : Str)), .fr (toD (d : Int)), .fr (toD (ahead : (List (List Int)))), .fr (toD (order : (List Int))), .fr (toD (told : (List (List Int))))] (m__law_told_right way d ahead order told) (fun a : Bool => .d (toD (a : Bool))) (fun a : Bool => []) :=
  fn_mk (n := 3) (rv := fun a : Bool => .d (toD (a : Bool))) (ss := [(.d (toD (way : Str))), (.d (toD (d : Int))), (.d (toD (ahead : (List (List Int))))), (.d (toD (order : (List Int)))), (.d (toD (told : (List (List Int)))))]) (Γe := fun a : Bool => [none, none, none, none, none, none, none, none]) rfl (.cons rfl (.cons rfl (.cons rfl (.cons rfl (.cons rfl All2.nil))))) rfl
  (j_re (Γ' := [some (.d (toD (way : Str))), some (.d (toD (d : Int))), some (.d (toD (ahead : (List (List Int))))), some (.d (toD (order : (List Int)))), some (.d (toD (told : (List (List Int))))), none, none, none]) rfl (j_if (j_test (j_bin (j_var rfl (j_lst (j_dnil (j_lst2 (toD (([] : (List (List Int))) : (List (List Int)))) rfl rfl (j_op (rd_d rfl) rd_w (x_eq (τ := (List (List Int)))) (j_bool rd_b (j_ite (j_re (Γ' := [some (.d (toD (way : Str))), some (.d (toD (d : Int))), some (.d (toD (ahead : (List (List Int))))), some (.d (toD (order : (List Int)))), some (.d (toD (told : (List (List Int))))), none, none, none]) rfl (j_ret (j_bin (j_var rfl (j_lst (j_dnil (j_lst2 (toD (([] : (List (List Int))) : (List (List Int)))) rfl rfl (j_op (rd_d rfl) rd_w (x_eq (τ := (List (List Int)))) (j_retb (l := [0, 0, 0, 0, 0, 0, 0, 0]) sl_d rfl rfl))))))))) (j_seqNil (j_re (Γ' := [some (.d (toD (way : Str))), some (.d (toD (d : Int))), some (.d (toD (ahead : (List (List Int))))), some (.d (toD (order : (List Int)))), some (.d (toD (told : (List (List Int))))), none, none, none]) rfl (j_tgt (j_call (j_aF (j_var rfl (j_fzb (fzb_of (fz_d rfl)) (j_aF (j_var rfl (j_fzb (fzb_of (fz_d rfl)) (j_aF (j_var rfl (j_fzb (fzb_of (fz_d rfl)) (j_anil (j_callF rfl (ba_b (ba_b (ba_b ba_nil))) (sim_nearest_of way order ahead) (fun _ => rfl) (fun _ => rfl) fun v1 => (j_fz fz_b (j_gT2 (j_re (Γ' := [some (.d (toD (way : Str))), some (.d (toD (d : Int))), some (.d (toD (ahead : (List (List Int))))), some (.d (toD (order : (List Int)))), some (.d (toD (told : (List (List Int))))), some (.d (toD (v1.1 : Int))), some (.d (toD (v1.2 : (List (List Int))))), none]) rfl (j_if (j_test (j_bin (j_bin (j_var rfl (j_var rfl (j_op (rd_d rfl) (rd_d rfl) x_lt (j_bin (j_var rfl (j_lst (j_dnil (j_lst2 (toD (([] : (List (List Int))) : (List (List Int)))) rfl rfl (j_op (rd_d rfl) rd_w (x_ne (τ := (List (List Int)))) (j_op rd_b rd_b (x_ne (τ := Bool)) (j_bool rd_b (j_ite (j_re (Γ' := [some (.d (toD (way : Str))), some (.d (toD (d : Int))), some (.d (toD (ahead : (List (List Int))))), some (.d (toD (order : (List Int)))), some (.d (toD (told : (List (List Int))))), some (.d (toD (v1.1 : Int))), some (.d (toD (v1.2 : (List (List Int))))), none]) rfl (j_ret (j_c (j_retb (l := [0, 0, 0, 0, 0, 0, 0, 0]) sl_d rfl rfl)))) (j_seqNil (j_last (j_re (Γ' := [some (.d (toD (way : Str))), some (.d (toD (d : Int))), some (.d (toD (ahead : (List (List Int))))), some (.d (toD (order : (List Int)))), some (.d (toD (told : (List (List Int))))), some (.d (toD (v1.1 : Int))), some (.d (toD (v1.2 : (List (List Int))))), none]) rfl (j_ret (j_orVC (j_bin (j_var rfl (j_lst (j_dnil (j_lst2 (toD (([] : (List (List Int))) : (List (List Int)))) rfl rfl (j_op (rd_d rfl) rd_w (x_eq (τ := (List (List Int)))) (j_orV2 rd_b (j_bin (j_lc (j_iSeq (j_var rfl (j_it (fz_d rfl) rfl (j_lcP (Γs := [some (.d (toD (way : Str))), some (.d (toD (d : Int))), some (.d (toD (ahead : (List (List Int))))), some (.d (toD (order : (List Int)))), some (.d (toD (told : (List (List Int))))), some (.d (toD (v1.1 : Int))), some (.d (toD (v1.2 : (List (List Int))))), none]) (l := [1, 1, 1, 1, 1, 1, 1, 0]) (D := toD) (E := toD) (xr := fun a => toD a) (p := fun (x4 : (List Int)) => (!memT x4 told)) (q := fun (x4 : (List Int)) => x4) rfl rfl (fun x4 => (j_gN (j_test (j_bin (j_var rfl (j_var rfl (j_op (rd_d rfl) (rd_d rfl) (x_notInM (τ := (List Int))) (j_bool rd_b (j_ite (j_var rfl (j_kf (l := [1, 1, 1, 1, 1, 1, 1, 0]) (fz_d rfl) rfl rfl)) (j_skip (l := [1, 1, 1, 1, 1, 1, 1, 0]) rfl rfl)))))))))) (fun _ => rfl) fun ys5 => (j_lst (j_dnil (j_lst2 (toD (([] : (List (List Int))) : (List (List Int)))) rfl rfl (j_op rd_w rd_w (x_eq (τ := (List (List Int)))) (j_retb (l := [0, 0, 0, 0, 0, 0, 0, 0]) sl_d rfl rfl))))))))))) (j_retb (l := [0, 0, 0, 0, 0, 0, 0, 0]) sl_d rfl rfl)))))))))))))))))))))))))))))))))))))))))))))))))))))))))) (fun a p hp => nomatch hp)
def m__law_turned (orders : (List (List Int))) (names : (List Int)) : R ((List (List Int))) :=
  R.bind (lcM (fun (x1 : (List Int)) => R.calm (R.bind (lcM (fun (x2 : Int) => R.calm (ob (atI names x2) fun v3 =>
  .ok (some v3))) x1 []) fun ys4 =>
  .ok (some ys4))) orders []) fun ys5 =>
  .ok ((ys5.mergeSort leL))
theorem sim__law_turned (orders : (List (List Int))) (names : (List Int)) : FnS h__law_turned [.fr (toD (orders : (List (List Int)))), .fr (toD (names : (List Int)))] (m__law_turned orders names) (fun a : (List (List Int)) => .o (toD (a : (List (List Int))))) (fun a : (List (List Int)) => []) :=
  fn_mk (n := 2) (rv := fun a : (List (List Int)) => .o (toD (a : (List (List Int))))) (ss := [(.d (toD (orders : (List (List Int))))), (.d (toD (names : (List Int))))]) (Γe := fun a : (List (List Int)) => [none, none, none, none]) rfl (.cons rfl (.cons rfl All2.nil)) rfl
  (j_last (j_ret (j_cb (j_acons (j_lc (j_iSeq (j_var rfl (j_it (fz_d rfl) rfl (j_lcM (Γs := [some (.d (toD (orders : (List (List Int))))), some (.d (toD (names : (List Int)))), none, none]) (l := [1, 1, 0, 0]) (D := toD) (E := toD) (xr := fun a => toD a) rfl rfl (fun x1 => (j_gN (j_tt (j_lc (j_iSeq (j_var rfl (j_it (fz_d rfl) rfl (j_lcM (Γs := [some (.d (toD (orders : (List (List Int))))), some (.d (toD (names : (List Int)))), some (.d (toD (x1 : (List Int)))), none]) (l := [1, 1, 1, 0]) (D := toD) (E := toD) (xr := fun a => toD a) rfl rfl (fun x2 => (j_gN (j_tt (j_bin (j_var rfl (j_var rfl (j_opR (rd_d rfl) (rd_d rfl) (x_ix (τ := Int)) fun v3 => (j_kf (l := [1, 1, 1, 0]) fz_b rfl rfl)))))))) (fun _ => rfl) fun ys4 => (j_kf (l := [1, 1, 0, 0]) fz_w rfl rfl))))))))) (fun _ => rfl) fun ys5 => (j_anil (j_cbop (ra_cons rd_w ra_nil) x_sortedL (j_retb (l := [0, 0, 0, 0]) sl_o rfl rfl)))))))))))) (fun a p hp => nomatch hp)
def m_law (script : (List Int)) : R Bool :=
  R.bind (ob (rg1 ((max2 ((1 : Int)) ((min2 ((script.length : Int)) ((3 : Int))))))) fun xs1 =>
  loopM (fun (s251 : Unit) (x252 : Int) =>
  R.bind (m__law_cell_at script x252) fun v253 =>
  R.bind (m__law_deck v253 ((500 : Int))) fun v254 =>
  R.bind (m__law_next v254) fun v255 =>
  ob (atI ([("swap" : Str), ("spot" : Str), ("shift" : Str)]) ((v255.1 % (3 : Int)))) fun v256 =>
  R.bind (m__law_next v255.2) fun v257 =>
  R.bind (m__law_next v257.2) fun v258 =>
  R.bind (m__law_order v258.2 (((2 : Int) + (v257.1 % (7 : Int))))) fun v259 =>
  ob (rg1 ((4 : Int))) fun xs260 =>
  R.bind (lcM (fun (x261 : Int) => R.calm (R.bind (m_Lister___init__ v256 (((2 : Int) + (v257.1 % (7 : Int)))) (((1 : Int) + (v258.1 % (5 : Int))))) fun v262 =>
  .ok (some v262.2))) xs260 []) fun ys263 =>
  unp4 ys263 fun v264 v265 v266 v267 =>
  R.bind (R.bind (m__law_next v259.2) fun v268 =>
  ob (rg1 (((1 : Int) + (v268.1 % (14 : Int))))) fun xs269 =>
  loopM (fun (s380 : ((List Int) × Ls × Ls × Ls × Ls)) (x381 : Int) =>
  R.bind (m_Lister_orders s380.2.1) fun v382 =>
  ob (rowsG v382) fun _ =>
  R.bind (m__law_free s380.1 v256 (((2 : Int) + (v257.1 % (7 : Int)))) (((1 : Int) + (v258.1 % (5 : Int)))) v382) fun v383 =>
  R.bind (m_Lister_come s380.2.1 v383.1) fun v384 =>
  R.bind (m__law_told_right v256 (((1 : Int) + (v258.1 % (5 : Int)))) v382 v383.1 v384.1) fun v385 =>
  if (!v385) = true then
  (.ok (.rt false))
  else
  (R.bind (lcM (fun (x386 : Int) => R.calm (ob (atI v259.1 x386) fun v387 =>
  .ok (some v387))) v383.1 []) fun ys388 =>
  R.bind (m_Lister_come s380.2.2.1 ys388) fun v389 =>
  R.bind (m__law_turned v384.1 v259.1) fun v390 =>
  if (!decide (v389.1 = v390)) = true then
  (.ok (.rt false))
  else
  (R.bind (m_Lister_come s380.2.2.2.1 ((v383.1.reverse))) fun v391 =>
  ob (lcP (fun (x392 : (List Int)) => true) (fun (x392 : (List Int)) => ((x392.reverse))) v384.1) fun ys393 =>
  if (!decide (v391.1 = (ys393.mergeSort leL))) = true then
  (.ok (.rt false))
  else
  (R.bind (R.bind (m__law_dropped_right v383.2 s380.2.2.2.2) fun v404 =>
  if (!v404.1) = true then
  (.ok (true, v404.2.1, v404.2.2))
  else
  (R.bind (m_Lister_come v404.2.2 v383.1) fun v405 =>
  if (!decide (v405.1 = v384.1)) = true then
  (.ok (true, v404.2.1, v405.2))
  else
  (R.bind (m_Lister_orders v405.2) fun v406 =>
  ob (rowsG v406) fun _ =>
  R.bind (m_Lister_orders v384.2) fun v407 =>
  ob (rowsG v407) fun _ =>
  .ok ((!decide (v406 = v407)), v404.2.1, v405.2)))) fun b403 =>
  if b403.1 = true then
  (.ok (.rt false))
  else
  (R.bind (R.bind (if (decide (v384.1 = ([] : (List (List Int))))) = true then
  (R.bind (m__law_next b403.2.1) fun v427 =>
  .ok ((decide ((v427.1 % (3 : Int)) = (0 : Int))), v427.2))
  else
  (.ok (false, b403.2.1))) fun b426 =>
  if b426.1 = true then
  (R.bind (m_Lister_undo b403.2.2) fun v428 =>
  R.bind (R.bind (m_Lister_orders v428.2) fun v435 =>
  ob (rowsG v435) fun _ =>
  if (!decide (v435 = v382)) = true then
  (.ok (true, v428.2))
  else
  (R.bind (m_Lister_come v428.2 v383.1) fun v436 =>
  .ok ((!decide (v436.1 = ([] : (List (List Int))))), v436.2))) fun b434 =>
  if b434.1 = true then
  (.ok (.rt false))
  else
  (.ok (.nx (b426.2, b434.2))))
  else
  (.ok (.nx (b426.2, b403.2.2)))) (Fl.outF fun (s422 : ((List Int) × Ls)) =>
  .ok (.nx (s422.1, v384.2, v389.2, v391.2, s422.2)))))))) xs269 ((v268.2, v264, v265, v266, v267))) (Fl.outF fun (s437 : ((List Int) × Ls × Ls × Ls × Ls)) =>
  R.bind (m_Lister_orders s437.2.1) fun v438 =>
  ob (rowsG v438) fun _ =>
  R.bind (R.bind (m_Lister_orders s437.2.2.1) fun v452 =>
  ob (rowsG v452) fun _ =>
  R.bind (m__law_turned v438 v259.1) fun v453 =>
  if (!decide (v452 = v453)) = true then
  (.ok true)
  else
  (R.bind (m_Lister_orders s437.2.2.2.1) fun v454 =>
  ob (rowsG v454) fun _ =>
  ob (lcP (fun (x455 : (List Int)) => true) (fun (x455 : (List Int)) => ((x455.reverse))) v438) fun ys456 =>
  .ok ((!decide (v454 = (ys456.mergeSort leL)))))) fun b451 =>
  if b451 = true then
  (.ok (.rt false))
  else
  (R.bind (m_Lister_least_apart s437.2.1) fun v457 =>
  R.bind (R.bind (R.calm (m_Lister_least_apart s437.2.2.1)) fun v489 =>
  R.bind (R.calm (m_Lister_least_apart s437.2.2.2.1)) fun v490 =>
  R.bind (R.calm (m_Lister_least_apart s437.2.2.2.2)) fun v491 =>
  ob (mulL ([v457]) ((3 : Int))) fun v492 =>
  if (!decide (([v489, v490, v491] : (List (Option Int))) = v492)) = true then
  (.ok true)
  else
  (R.bind (if (v457.isSome) = true then
  (ob v457 fun v500 =>
  .ok ((decide (v500 < ((1 : Int) + (v258.1 % (5 : Int)))))))
  else
  (.ok false)) fun b499 =>
  .ok b499)) fun b488 =>
  if b488 = true then
  (.ok (.rt false))
  else
  (.ok (.nx ()))))) xs1 (())) (Fl.out fun (s502 : Unit) =>
  .ok true)
theorem sim_law (script : (List Int)) : FnS h_law [.sc script] (m_law script) (fun a : Bool => .d (toD (a : Bool))) (fun a : Bool => []) :=
  fn_mk (n := 18) (rv := fun a : Bool => .d (toD (a : Bool))) (ss := [.sc script]) (Γe := fun a : Bool => [none, none, none, none, none, none, none, none, none, none, none, none, none, none, none, none, none, none, none]) rfl (.cons rfl All2.nil) rfl
  (j_re (Γ' := [some (.sc script), none, none, none, none, none, none, none, none, none, none, none, none, none, none, none, none, none, none]) rfl (j_seqF (Γs := fun (s251 : Unit) => [some (.sc script), none, none, none, none, none, none, none, none, none, none, none, none, none, none, none, none, none, none]) (fun _ => rfl) (j_sFor (j_iRg1 (j_cb (j_acons (j_c (j_acons (j_cb (j_acons (j_scLen (j_var rfl (j_scLen2  rfl (j_acons (j_c (j_anil (j_cbop (ra_cons rd_b (ra_cons rd_b ra_nil)) x_min2 (j_anil (j_cbop (ra_cons rd_b (ra_cons rd_b ra_nil)) x_max2 (j_rg1 rd_b fun xs1 => (j_loop (l := [1, 0, 0, 0, 0, 0, 0, 0, 0, 0, 0, 0, 0, 0, 0, 0, 0, 0, 0]) (D := toD) (Γs := fun (s251 : Unit) => [some (.sc script), none, none, none, none, none, none, none, none, none, none, none, none, none, none, none, none, none, none]) (()) rfl (fun _ => ⟨_, _, rfl⟩) (fun _ => rfl) fun s251 x252 => (j_gN (j_re (Γ' := [some (.sc script), some (.d (toD (x252 : Int))), none, none, none, none, none, none, none, none, none, none, none, none, none, none, none, none, none]) rfl (j_own (j_call (j_aF (j_call (j_aF (j_var rfl (j_fzb (fzb_sc rfl) (j_aF (j_var rfl (j_fzb (fzb_of (fz_d rfl)) (j_anil (j_callF rfl (ba_b (ba_b ba_nil)) (sim__law_cell_at script x252) (fun _ => rfl) (fun _ => rfl) fun v253 => (j_fzb (fzb_of fz_b) (j_aF (j_c (j_fzb (fzb_of fz_b) (j_anil (j_callO rfl (ba_b (ba_b ba_nil)) (sim__law_deck v253 ((500 : Int))) (fun _ => rfl) fun v254 => (j_ownb (j_setO (j_re (Γ' := [some (.sc script), some (.d (toD (x252 : Int))), some (.o (toD (v254 : (List Int)))), none, none, none, none, none, none, none, none, none, none, none, none, none, none, none, none]) rfl (j_asg (j_bin (j_lst (j_dcons (j_c (j_fz fz_b (j_dcons (j_c (j_fz fz_b (j_dcons (j_c (j_fz fz_b (j_dnil (j_lst2 (toD ([("swap" : Str), ("spot" : Str), ("shift" : Str)] : (List Str))) rfl rfl (j_bin (j_call (j_aM rfl (j_anil (j_callF rfl (ba_o rfl ba_nil) (sim__law_next v254) (fun _ => rfl) (fun _ => rfl) fun v255 => (j_c (j_op rd_b rd_b (x_mod (by decide)) (j_opR rd_w rd_b (x_ix (τ := Str)) fun v256 => (j_fzb (fzb_of fz_b) (j_setD (j_re (Γ' := [some (.sc script), some (.d (toD (x252 : Int))), some (.o (toD (v255.2 : (List Int)))), some (.d (toD (v256 : Str))), none, none, none, none, none, none, none, none, none, none, none, none, none, none, none]) rfl (j_asg (j_bin (j_c (j_bin (j_call (j_aM rfl (j_anil (j_callF rfl (ba_o rfl ba_nil) (sim__law_next v255.2) (fun _ => rfl) (fun _ => rfl) fun v257 => (j_c (j_op rd_b rd_b (x_mod (by decide)) (j_op rd_b rd_b x_add (j_fzb (fzb_of fz_b) (j_setD (j_re (Γ' := [some (.sc script), some (.d (toD (x252 : Int))), some (.o (toD (v257.2 : (List Int)))), some (.d (toD (v256 : Str))), some (.d (toD (((2 : Int) + (v257.1 % (7 : Int))) : Int))), none, none, none, none, none, none, none, none, none, none, none, none, none, none]) rfl (j_asg (j_bin (j_c (j_bin (j_call (j_aM rfl (j_anil (j_callF rfl (ba_o rfl ba_nil) (sim__law_next v257.2) (fun _ => rfl) (fun _ => rfl) fun v258 => (j_c (j_op rd_b rd_b (x_mod (by decide)) (j_op rd_b rd_b x_add (j_fzb (fzb_of fz_b) (j_setD (j_re (Γ' := [some (.sc script), some (.d (toD (x252 : Int))), some (.o (toD (v258.2 : (List Int)))), some (.d (toD (v256 : Str))), some (.d (toD (((2 : Int) + (v257.1 % (7 : Int))) : Int))), some (.d (toD (((1 : Int) + (v258.1 % (5 : Int))) : Int))), none, none, none, none, none, none, none, none, none, none, none, none, none]) rfl (j_asg (j_call (j_aM rfl (j_aF (j_var rfl (j_fzb (fzb_of (fz_d rfl)) (j_anil (j_callO rfl (ba_o rfl (ba_b ba_nil)) (sim__law_order v258.2 (((2 : Int) + (v257.1 % (7 : Int))))) (fun _ => rfl) fun v259 => (j_fzb (fzb_of fz_w) (j_setD (j_re (Γ' := [some (.sc script), some (.d (toD (x252 : Int))), some (.o (toD (v259.2 : (List Int)))), some (.d (toD (v256 : Str))), some (.d (toD (((2 : Int) + (v257.1 % (7 : Int))) : Int))), some (.d (toD (((1 : Int) + (v258.1 % (5 : Int))) : Int))), some (.d (toD (v259.1 : (List Int)))), none, none, none, none, none, none, none, none, none, none, none, none]) rfl (j_unp (j_lcT (j_iRg1 (j_c (j_rg1 rd_b fun xs260 => (j_lcTm (Γs := [some (.sc script), some (.d (toD (x252 : Int))), some (.o (toD (v259.2 : (List Int)))), some (.d (toD (v256 : Str))), some (.d (toD (((2 : Int) + (v257.1 % (7 : Int))) : Int))), some (.d (toD (((1 : Int) + (v258.1 % (5 : Int))) : Int))), some (.d (toD (v259.1 : (List Int)))), none, none, none, none, none, none, none, none, none, none, none, none]) (l := [1, 1, 1, 1, 1, 1, 1, 0, 0, 0, 0, 0, 0, 0, 0, 0, 0, 0, 0]) (D := toD) (E := Ls.tr) rfl rfl (fun x261 => (j_gN (j_ttT (j_make (j_aF (j_var rfl (j_fzb (fzb_of (fz_d rfl)) (j_aF (j_var rfl (j_fzb (fzb_of (fz_d rfl)) (j_aF (j_var rfl (j_fzb (fzb_of (fz_d rfl)) (j_anil (j_makeop rfl (ba_b (ba_b (ba_b ba_nil))) (sim_Lister___init__ v256 (((2 : Int) + (v257.1 % (7 : Int)))) (((1 : Int) + (v258.1 % (5 : Int))))) fun v262 => (j_kTb (l := [1, 1, 1, 1, 1, 1, 1, 0, 0, 0, 0, 0, 0, 0, 0, 0, 0, 0, 0]) rfl rfl rfl)))))))))))))))) fun ys263 => (j_unpb (show 7 < 19 by decide) (show 8 < 19 by decide) (show 9 < 19 by decide) (show 10 < 19 by decide) fun v264 v265 v266 v267 => (j_re (Γ' := [some (.sc script), some (.d (toD (x252 : Int))), some (.o (toD (v259.2 : (List Int)))), some (.d (toD (v256 : Str))), some (.d (toD (((2 : Int) + (v257.1 % (7 : Int))) : Int))), some (.d (toD (((1 : Int) + (v258.1 % (5 : Int))) : Int))), some (.d (toD (v259.1 : (List Int)))), some (.t (Ls.tr v264)), some (.t (Ls.tr v265)), some (.t (Ls.tr v266)), some (.t (Ls.tr v267)), none, none, none, none, none, none, none, none]) rfl (j_seqFF (Γs := fun (s380 : ((List Int) × Ls × Ls × Ls × Ls)) => [some (.sc script), some (.d (toD (x252 : Int))), some (.o (toD (s380.1 : (List Int)))), some (.d (toD (v256 : Str))), some (.d (toD (((2 : Int) + (v257.1 % (7 : Int))) : Int))), some (.d (toD (((1 : Int) + (v258.1 % (5 : Int))) : Int))), some (.d (toD (v259.1 : (List Int)))), some (.t (Ls.tr s380.2.1)), some (.t (Ls.tr s380.2.2.1)), some (.t (Ls.tr s380.2.2.2.1)), some (.t (Ls.tr s380.2.2.2.2)), none, none, none, none, none, none, none, none]) (fun _ => rfl) (j_sFor (j_iRg1 (j_bin (j_c (j_bin (j_call (j_aM rfl (j_anil (j_callF rfl (ba_o rfl ba_nil) (sim__law_next v259.2) (fun _ => rfl) (fun _ => rfl) fun v268 => (j_c (j_op rd_b rd_b (x_mod (by decide)) (j_op rd_b rd_b x_add (j_rg1 rd_b fun xs269 => (j_loop (l := [1, 1, 1, 1, 1, 1, 1, 1, 1, 1, 1, 0, 0, 0, 0, 0, 0, 0, 0]) (D := toD) (Γs := fun (s380 : ((List Int) × Ls × Ls × Ls × Ls)) => [some (.sc script), some (.d (toD (x252 : Int))), some (.o (toD (s380.1 : (List Int)))), some (.d (toD (v256 : Str))), some (.d (toD (((2 : Int) + (v257.1 % (7 : Int))) : Int))), some (.d (toD (((1 : Int) + (v258.1 % (5 : Int))) : Int))), some (.d (toD (v259.1 : (List Int)))), some (.t (Ls.tr s380.2.1)), some (.t (Ls.tr s380.2.2.1)), some (.t (Ls.tr s380.2.2.2.1)), some (.t (Ls.tr s380.2.2.2.2)), none, none, none, none, none, none, none, none]) ((v268.2, v264, v265, v266, v267)) rfl (fun _ => ⟨_, _, rfl⟩) (fun _ => rfl) fun s380 x381 => (j_gN (j_re (Γ' := [some (.sc script), some (.d (toD (x252 : Int))), some (.o (toD (s380.1 : (List Int)))), some (.d (toD (v256 : Str))), some (.d (toD (((2 : Int) + (v257.1 % (7 : Int))) : Int))), some (.d (toD (((1 : Int) + (v258.1 % (5 : Int))) : Int))), some (.d (toD (v259.1 : (List Int)))), some (.t (Ls.tr s380.2.1)), some (.t (Ls.tr s380.2.2.1)), some (.t (Ls.tr s380.2.2.2.1)), some (.t (Ls.tr s380.2.2.2.2)), some (.d (toD (x381 : Int))), none, none, none, none, none, none, none]) rfl (j_asg (j_methP rfl (by decide) (j_anil (j_methPO rfl ba_nil (rcv_t rfl (ls_dats _) (ls_rows _)) (sim_Lister_orders s380.2.1) fun v382 => (j_fzb (fzb_of fz_w) (j_setD (j_re (Γ' := [some (.sc script), some (.d (toD (x252 : Int))), some (.o (toD (s380.1 : (List Int)))), some (.d (toD (v256 : Str))), some (.d (toD (((2 : Int) + (v257.1 % (7 : Int))) : Int))), some (.d (toD (((1 : Int) + (v258.1 % (5 : Int))) : Int))), some (.d (toD (v259.1 : (List Int)))), some (.t (Ls.tr s380.2.1)), some (.t (Ls.tr s380.2.2.1)), some (.t (Ls.tr s380.2.2.2.1)), some (.t (Ls.tr s380.2.2.2.2)), some (.d (toD (x381 : Int))), some (.d (toD (v382 : (List (List Int))))), none, none, none, none, none, none]) rfl (j_asg (j_call (j_aM rfl (j_aF (j_var rfl (j_fzb (fzb_of (fz_d rfl)) (j_aF (j_var rfl (j_fzb (fzb_of (fz_d rfl)) (j_aF (j_var rfl (j_fzb (fzb_of (fz_d rfl)) (j_aF (j_var rfl (j_fzb (fzb_of (fz_d rfl)) (j_anil (j_callO rfl (ba_o rfl (ba_b (ba_b (ba_b (ba_b ba_nil))))) (sim__law_free s380.1 v256 (((2 : Int) + (v257.1 % (7 : Int)))) (((1 : Int) + (v258.1 % (5 : Int)))) v382) (fun _ => rfl) fun v383 => (j_fzb (fzb_of fz_w) (j_setD (j_re (Γ' := [some (.sc script), some (.d (toD (x252 : Int))), some (.o (toD (v383.2 : (List Int)))), some (.d (toD (v256 : Str))), some (.d (toD (((2 : Int) + (v257.1 % (7 : Int))) : Int))), some (.d (toD (((1 : Int) + (v258.1 % (5 : Int))) : Int))), some (.d (toD (v259.1 : (List Int)))), some (.t (Ls.tr s380.2.1)), some (.t (Ls.tr s380.2.2.1)), some (.t (Ls.tr s380.2.2.2.1)), some (.t (Ls.tr s380.2.2.2.2)), some (.d (toD (x381 : Int))), some (.d (toD (v382 : (List (List Int))))), some (.d (toD (v383.1 : (List Int)))), none, none, none, none, none]) rfl (j_asg (j_meth rfl (by decide) (j_call (j_aM rfl (j_aF (j_var rfl (j_fzb (fzb_of (fz_d rfl)) (j_anil (j_callO rfl (ba_t rfl (ba_b (b := .fr (toD (v383.1 : (List Int)))) ba_nil)) (sim_Lister_come s380.2.1 v383.1) (fun _ => rfl) fun v384 => (j_fzb (fzb_of fz_w) (j_setD (j_re (Γ' := [some (.sc script), some (.d (toD (x252 : Int))), some (.o (toD (v383.2 : (List Int)))), some (.d (toD (v256 : Str))), some (.d (toD (((2 : Int) + (v257.1 % (7 : Int))) : Int))), some (.d (toD (((1 : Int) + (v258.1 % (5 : Int))) : Int))), some (.d (toD (v259.1 : (List Int)))), some (.t (Ls.tr v384.2)), some (.t (Ls.tr s380.2.2.1)), some (.t (Ls.tr s380.2.2.2.1)), some (.t (Ls.tr s380.2.2.2.2)), some (.d (toD (x381 : Int))), some (.d (toD (v382 : (List (List Int))))), some (.d (toD (v383.1 : (List Int)))), some (.d (toD (v384.1 : (List (List Int))))), none, none, none, none]) rfl (j_if (j_not (j_test (j_callP (j_aP (j_var rfl (j_aPs (j_aP (j_var rfl (j_aPs (j_aP (j_var rfl (j_aPs (j_aP (j_var rfl (j_aPs (j_aP (j_var rfl (j_aPs (j_anil (j_callPop rfl (la_d rfl (la_d rfl (la_d rfl (la_d rfl (la_d rfl la_nil))))) rfl (sim__law_told_right v256 (((1 : Int) + (v258.1 % (5 : Int)))) v382 v383.1 v384.1) (fun _ => rfl) fun v385 => (j_bool rd_b (j_ite (j_re (Γ' := [some (.sc script), some (.d (toD (x252 : Int))), some (.o (toD (v383.2 : (List Int)))), some (.d (toD (v256 : Str))), some (.d (toD (((2 : Int) + (v257.1 % (7 : Int))) : Int))), some (.d (toD (((1 : Int) + (v258.1 % (5 : Int))) : Int))), some (.d (toD (v259.1 : (List Int)))), some (.t (Ls.tr v384.2)), some (.t (Ls.tr s380.2.2.1)), some (.t (Ls.tr s380.2.2.2.1)), some (.t (Ls.tr s380.2.2.2.2)), some (.d (toD (x381 : Int))), some (.d (toD (v382 : (List (List Int))))), some (.d (toD (v383.1 : (List Int)))), some (.d (toD (v384.1 : (List (List Int))))), none, none, none, none]) rfl (j_ret (j_c (j_retb (l := [0, 0, 0, 0, 0, 0, 0, 0, 0, 0, 0, 0, 0, 0, 0, 0, 0, 0, 0]) sl_d rfl rfl)))) (j_seqNil (j_re (Γ' := [some (.sc script), some (.d (toD (x252 : Int))), some (.o (toD (v383.2 : (List Int)))), some (.d (toD (v256 : Str))), some (.d (toD (((2 : Int) + (v257.1 % (7 : Int))) : Int))), some (.d (toD (((1 : Int) + (v258.1 % (5 : Int))) : Int))), some (.d (toD (v259.1 : (List Int)))), some (.t (Ls.tr v384.2)), some (.t (Ls.tr s380.2.2.1)), some (.t (Ls.tr s380.2.2.2.1)), some (.t (Ls.tr s380.2.2.2.2)), some (.d (toD (x381 : Int))), some (.d (toD (v382 : (List (List Int))))), some (.d (toD (v383.1 : (List Int)))), some (.d (toD (v384.1 : (List (List Int))))), none, none, none, none]) rfl (j_if (j_test (j_bin (j_meth rfl (by decide) (j_call (j_aM rfl (j_aF (j_lc (j_iSeq (j_var rfl (j_it (fz_d rfl) rfl (j_lcM (Γs := [some (.sc script), some (.d (toD (x252 : Int))), some (.o (toD (v383.2 : (List Int)))), some (.d (toD (v256 : Str))), some (.d (toD (((2 : Int) + (v257.1 % (7 : Int))) : Int))), some (.d (toD (((1 : Int) + (v258.1 % (5 : Int))) : Int))), some (.d (toD (v259.1 : (List Int)))), some (.t (Ls.tr v384.2)), some (.t (Ls.tr s380.2.2.1)), some (.t (Ls.tr s380.2.2.2.1)), some (.t (Ls.tr s380.2.2.2.2)), some (.d (toD (x381 : Int))), some (.d (toD (v382 : (List (List Int))))), some (.d (toD (v383.1 : (List Int)))), some (.d (toD (v384.1 : (List (List Int))))), none, none, none, none]) (l := [1, 1, 1, 1, 1, 1, 1, 1, 1, 1, 1, 1, 1, 1, 1, 0, 0, 0, 0]) (D := toD) (E := toD) (xr := fun a => toD a) rfl rfl (fun x386 => (j_gN (j_tt (j_bin (j_var rfl (j_var rfl (j_opR (rd_d rfl) (rd_d rfl) (x_ix (τ := Int)) fun v387 => (j_kf (l := [1, 1, 1, 1, 1, 1, 1, 1, 1, 1, 1, 1, 1, 1, 1, 0, 0, 0, 0]) fz_b rfl rfl)))))))) (fun _ => rfl) fun ys388 => (j_fzb (fzb_of fz_w) (j_anil (j_callO rfl (ba_t rfl (ba_b (b := .fr (toD (ys388 : (List Int)))) ba_nil)) (sim_Lister_come s380.2.2.1 ys388) (fun _ => rfl) fun v389 => (j_call (j_aF (j_var rfl (j_fzb (fzb_of (fz_d rfl)) (j_aF (j_var rfl (j_fzb (fzb_of (fz_d rfl)) (j_anil (j_callO rfl (ba_b (ba_b ba_nil)) (sim__law_turned v384.1 v259.1) (fun _ => rfl) fun v390 => (j_op rd_w rd_w (x_ne (τ := (List (List Int)))) (j_bool rd_b (j_ite (j_re (Γ' := [some (.sc script), some (.d (toD (x252 : Int))), some (.o (toD (v383.2 : (List Int)))), some (.d (toD (v256 : Str))), some (.d (toD (((2 : Int) + (v257.1 % (7 : Int))) : Int))), some (.d (toD (((1 : Int) + (v258.1 % (5 : Int))) : Int))), some (.d (toD (v259.1 : (List Int)))), some (.t (Ls.tr v384.2)), some (.t (Ls.tr v389.2)), some (.t (Ls.tr s380.2.2.2.1)), some (.t (Ls.tr s380.2.2.2.2)), some (.d (toD (x381 : Int))), some (.d (toD (v382 : (List (List Int))))), some (.d (toD (v383.1 : (List Int)))), some (.d (toD (v384.1 : (List (List Int))))), none, none, none, none]) rfl (j_ret (j_c (j_retb (l := [0, 0, 0, 0, 0, 0, 0, 0, 0, 0, 0, 0, 0, 0, 0, 0, 0, 0, 0]) sl_d rfl rfl)))) (j_seqNil (j_re (Γ' := [some (.sc script), some (.d (toD (x252 : Int))), some (.o (toD (v383.2 : (List Int)))), some (.d (toD (v256 : Str))), some (.d (toD (((2 : Int) + (v257.1 % (7 : Int))) : Int))), some (.d (toD (((1 : Int) + (v258.1 % (5 : Int))) : Int))), some (.d (toD (v259.1 : (List Int)))), some (.t (Ls.tr v384.2)), some (.t (Ls.tr v389.2)), some (.t (Ls.tr s380.2.2.2.1)), some (.t (Ls.tr s380.2.2.2.2)), some (.d (toD (x381 : Int))), some (.d (toD (v382 : (List (List Int))))), some (.d (toD (v383.1 : (List Int)))), some (.d (toD (v384.1 : (List (List Int))))), none, none, none, none]) rfl (j_if (j_test (j_bin (j_meth rfl (by decide) (j_call (j_aM rfl (j_aF (j_un (j_var rfl (j_unop (rd_d rfl) (x_rev (τ := Int)) (j_fzb (fzb_of fz_w) (j_anil (j_callO rfl (ba_t rfl (ba_b (b := .fr (toD ((v383.1.reverse) : (List Int)))) ba_nil)) (sim_Lister_come s380.2.2.2.1 ((v383.1.reverse))) (fun _ => rfl) fun v391 => (j_cb (j_acons (j_lc (j_iSeq (j_var rfl (j_it (fz_d rfl) rfl (j_lcP (Γs := [some (.sc script), some (.d (toD (x252 : Int))), some (.o (toD (v383.2 : (List Int)))), some (.d (toD (v256 : Str))), some (.d (toD (((2 : Int) + (v257.1 % (7 : Int))) : Int))), some (.d (toD (((1 : Int) + (v258.1 % (5 : Int))) : Int))), some (.d (toD (v259.1 : (List Int)))), some (.t (Ls.tr v384.2)), some (.t (Ls.tr v389.2)), some (.t (Ls.tr v391.2)), some (.t (Ls.tr s380.2.2.2.2)), some (.d (toD (x381 : Int))), some (.d (toD (v382 : (List (List Int))))), some (.d (toD (v383.1 : (List Int)))), some (.d (toD (v384.1 : (List (List Int))))), none, none, none, none]) (l := [1, 1, 1, 1, 1, 1, 1, 1, 1, 1, 1, 1, 1, 1, 1, 0, 0, 0, 0]) (D := toD) (E := toD) (xr := fun a => toD a) (p := fun (x392 : (List Int)) => true) (q := fun (x392 : (List Int)) => ((x392.reverse))) rfl rfl (fun x392 => (j_gN (j_tt (j_un (j_var rfl (j_unop (rd_d rfl) (x_rev (τ := Int)) (j_kf (l := [1, 1, 1, 1, 1, 1, 1, 1, 1, 1, 1, 1, 1, 1, 1, 0, 0, 0, 0]) fz_w rfl rfl))))))) (fun _ => rfl) fun ys393 => (j_anil (j_cbop (ra_cons rd_w ra_nil) x_sortedL (j_op rd_w rd_w (x_ne (τ := (List (List Int)))) (j_bool rd_b (j_ite (j_re (Γ' := [some (.sc script), some (.d (toD (x252 : Int))), some (.o (toD (v383.2 : (List Int)))), some (.d (toD (v256 : Str))), some (.d (toD (((2 : Int) + (v257.1 % (7 : Int))) : Int))), some (.d (toD (((1 : Int) + (v258.1 % (5 : Int))) : Int))), some (.d (toD (v259.1 : (List Int)))), some (.t (Ls.tr v384.2)), some (.t (Ls.tr v389.2)), some (.t (Ls.tr v391.2)), some (.t (Ls.tr s380.2.2.2.2)), some (.d (toD (x381 : Int))), some (.d (toD (v382 : (List (List Int))))), some (.d (toD (v383.1 : (List Int)))), some (.d (toD (v384.1 : (List (List Int))))), none, none, none, none]) rfl (j_ret (j_c (j_retb (l := [0, 0, 0, 0, 0, 0, 0, 0, 0, 0, 0, 0, 0, 0, 0, 0, 0, 0, 0]) sl_d rfl rfl)))) (j_seqNil (j_re (Γ' := [some (.sc script), some (.d (toD (x252 : Int))), some (.o (toD (v383.2 : (List Int)))), some (.d (toD (v256 : Str))), some (.d (toD (((2 : Int) + (v257.1 % (7 : Int))) : Int))), some (.d (toD (((1 : Int) + (v258.1 % (5 : Int))) : Int))), some (.d (toD (v259.1 : (List Int)))), some (.t (Ls.tr v384.2)), some (.t (Ls.tr v389.2)), some (.t (Ls.tr v391.2)), some (.t (Ls.tr s380.2.2.2.2)), some (.d (toD (x381 : Int))), some (.d (toD (v382 : (List (List Int))))), some (.d (toD (v383.1 : (List Int)))), some (.d (toD (v384.1 : (List (List Int))))), none, none, none, none]) rfl (j_if (j_sub (bv := fun b403 : (Bool × (List Int) × Ls) => b403.1) (Γ1 := fun b403 : (Bool × (List Int) × Ls) => [some (.sc script), some (.d (toD (x252 : Int))), some (.o (toD (b403.2.1 : (List Int)))), some (.d (toD (v256 : Str))), some (.d (toD (((2 : Int) + (v257.1 % (7 : Int))) : Int))), some (.d (toD (((1 : Int) + (v258.1 % (5 : Int))) : Int))), some (.d (toD (v259.1 : (List Int)))), some (.t (Ls.tr v384.2)), some (.t (Ls.tr v389.2)), some (.t (Ls.tr v391.2)), some (.t (Ls.tr b403.2.2)), some (.d (toD (x381 : Int))), some (.d (toD (v382 : (List (List Int))))), some (.d (toD (v383.1 : (List Int)))), some (.d (toD (v384.1 : (List (List Int))))), none, none, none, none]) (j_orC (j_not (j_test (j_call (j_aM rfl (j_aM rfl (j_anil (j_callF rfl (ba_o rfl (ba_t rfl ba_nil)) (sim__law_dropped_right v383.2 s380.2.2.2.2) (fun _ => rfl) (fun _ => rfl) fun v404 => (j_bool rd_b (j_ite (j_kb (l := [1, 1, 1, 1, 1, 1, 1, 1, 1, 1, 1, 1, 1, 1, 1, 0, 0, 0, 0]) rfl rfl) (j_orC (j_test (j_bin (j_meth rfl (by decide) (j_call (j_aM rfl (j_aF (j_var rfl (j_fzb (fzb_of (fz_d rfl)) (j_anil (j_callO rfl (ba_t rfl (ba_b (b := .fr (toD (v383.1 : (List Int)))) ba_nil)) (sim_Lister_come v404.2.2 v383.1) (fun _ => rfl) fun v405 => (j_var rfl (j_op rd_w (rd_d rfl) (x_ne (τ := (List (List Int)))) (j_bool rd_b (j_ite (j_kb (l := [1, 1, 1, 1, 1, 1, 1, 1, 1, 1, 1, 1, 1, 1, 1, 0, 0, 0, 0]) rfl rfl) (j_test (j_bin (j_methP rfl (by decide) (j_anil (j_methPO rfl ba_nil (rcv_t rfl (ls_dats _) (ls_rows _)) (sim_Lister_orders v405.2) fun v406 => (j_methP rfl (by decide) (j_anil (j_methPO rfl ba_nil (rcv_t rfl (ls_dats _) (ls_rows _)) (sim_Lister_orders v384.2) fun v407 => (j_op rd_w rd_w (x_ne (τ := (List (List Int)))) (j_bool rd_b (j_kb (l := [1, 1, 1, 1, 1, 1, 1, 1, 1, 1, 1, 1, 1, 1, 1, 0, 0, 0, 0]) rfl rfl)))))))))))))))))))))))))))))))))))) fun b403 => (j_ite (j_re (Γ' := [some (.sc script), some (.d (toD (x252 : Int))), some (.o (toD (b403.2.1 : (List Int)))), some (.d (toD (v256 : Str))), some (.d (toD (((2 : Int) + (v257.1 % (7 : Int))) : Int))), some (.d (toD (((1 : Int) + (v258.1 % (5 : Int))) : Int))), some (.d (toD (v259.1 : (List Int)))), some (.t (Ls.tr v384.2)), some (.t (Ls.tr v389.2)), some (.t (Ls.tr v391.2)), some (.t (Ls.tr b403.2.2)), some (.d (toD (x381 : Int))), some (.d (toD (v382 : (List (List Int))))), some (.d (toD (v383.1 : (List Int)))), some (.d (toD (v384.1 : (List (List Int))))), none, none, none, none]) rfl (j_ret (j_c (j_retb (l := [0, 0, 0, 0, 0, 0, 0, 0, 0, 0, 0, 0, 0, 0, 0, 0, 0, 0, 0]) sl_d rfl rfl)))) (j_seqNil (j_last (j_re (Γ' := [some (.sc script), some (.d (toD (x252 : Int))), some (.o (toD (b403.2.1 : (List Int)))), some (.d (toD (v256 : Str))), some (.d (toD (((2 : Int) + (v257.1 % (7 : Int))) : Int))), some (.d (toD (((1 : Int) + (v258.1 % (5 : Int))) : Int))), some (.d (toD (v259.1 : (List Int)))), some (.t (Ls.tr v384.2)), some (.t (Ls.tr v389.2)), some (.t (Ls.tr v391.2)), some (.t (Ls.tr b403.2.2)), some (.d (toD (x381 : Int))), some (.d (toD (v382 : (List (List Int))))), some (.d (toD (v383.1 : (List Int)))), some (.d (toD (v384.1 : (List (List Int))))), none, none, none, none]) rfl (j_seqFF (Γs := fun (s422 : ((List Int) × Ls)) => [some (.sc script), some (.d (toD (x252 : Int))), some (.o (toD (s422.1 : (List Int)))), some (.d (toD (v256 : Str))), some (.d (toD (((2 : Int) + (v257.1 % (7 : Int))) : Int))), some (.d (toD (((1 : Int) + (v258.1 % (5 : Int))) : Int))), some (.d (toD (v259.1 : (List Int)))), some (.t (Ls.tr v384.2)), some (.t (Ls.tr v389.2)), some (.t (Ls.tr v391.2)), some (.t (Ls.tr s422.2)), some (.d (toD (x381 : Int))), some (.d (toD (v382 : (List (List Int))))), some (.d (toD (v383.1 : (List Int)))), some (.d (toD (v384.1 : (List (List Int))))), none, none, none, none]) (fun _ => rfl) (j_if1 (j_sub (bv := fun b426 : (Bool × (List Int)) => b426.1) (Γ1 := fun b426 : (Bool × (List Int)) => [some (.sc script), some (.d (toD (x252 : Int))), some (.o (toD (b426.2 : (List Int)))), some (.d (toD (v256 : Str))), some (.d (toD (((2 : Int) + (v257.1 % (7 : Int))) : Int))), some (.d (toD (((1 : Int) + (v258.1 % (5 : Int))) : Int))), some (.d (toD (v259.1 : (List Int)))), some (.t (Ls.tr v384.2)), some (.t (Ls.tr v389.2)), some (.t (Ls.tr v391.2)), some (.t (Ls.tr b403.2.2)), some (.d (toD (x381 : Int))), some (.d (toD (v382 : (List (List Int))))), some (.d (toD (v383.1 : (List Int)))), some (.d (toD (v384.1 : (List (List Int))))), none, none, none, none]) (j_andC (j_test (j_bin (j_var rfl (j_lst (j_dnil (j_lst2 (toD (([] : (List (List Int))) : (List (List Int)))) rfl rfl (j_op (rd_d rfl) rd_w (x_eq (τ := (List (List Int)))) (j_bool rd_b (j_ite (j_test (j_bin (j_bin (j_call (j_aM rfl (j_anil (j_callF rfl (ba_o rfl ba_nil) (sim__law_next b403.2.1) (fun _ => rfl) (fun _ => rfl) fun v427 => (j_c (j_op rd_b rd_b (x_mod (by decide)) (j_c (j_op rd_b rd_b (x_eq (τ := Int)) (j_bool rd_b (j_kb (l := [1, 1, 1, 1, 1, 1, 1, 1, 1, 1, 1, 1, 1, 1, 1, 0, 0, 0, 0]) rfl rfl))))))))))))) (j_kb (l := [1, 1, 1, 1, 1, 1, 1, 1, 1, 1, 1, 1, 1, 1, 1, 0, 0, 0, 0]) rfl rfl))))))))))) fun b426 => (j_ite (j_re (Γ' := [some (.sc script), some (.d (toD (x252 : Int))), some (.o (toD (b426.2 : (List Int)))), some (.d (toD (v256 : Str))), some (.d (toD (((2 : Int) + (v257.1 % (7 : Int))) : Int))), some (.d (toD (((1 : Int) + (v258.1 % (5 : Int))) : Int))), some (.d (toD (v259.1 : (List Int)))), some (.t (Ls.tr v384.2)), some (.t (Ls.tr v389.2)), some (.t (Ls.tr v391.2)), some (.t (Ls.tr b403.2.2)), some (.d (toD (x381 : Int))), some (.d (toD (v382 : (List (List Int))))), some (.d (toD (v383.1 : (List Int)))), some (.d (toD (v384.1 : (List (List Int))))), none, none, none, none]) rfl (j_expr (j_meth rfl (by decide) (j_call (j_aM rfl (j_anil (j_callF rfl (ba_t rfl ba_nil) (sim_Lister_undo b403.2.2) (fun _ => rfl) (fun _ => rfl) fun v428 => (j_last (j_re (Γ' := [some (.sc script), some (.d (toD (x252 : Int))), some (.o (toD (b426.2 : (List Int)))), some (.d (toD (v256 : Str))), some (.d (toD (((2 : Int) + (v257.1 % (7 : Int))) : Int))), some (.d (toD (((1 : Int) + (v258.1 % (5 : Int))) : Int))), some (.d (toD (v259.1 : (List Int)))), some (.t (Ls.tr v384.2)), some (.t (Ls.tr v389.2)), some (.t (Ls.tr v391.2)), some (.t (Ls.tr v428.2)), some (.d (toD (x381 : Int))), some (.d (toD (v382 : (List (List Int))))), some (.d (toD (v383.1 : (List Int)))), some (.d (toD (v384.1 : (List (List Int))))), none, none, none, none]) rfl (j_if (j_sub (bv := fun b434 : (Bool × Ls) => b434.1) (Γ1 := fun b434 : (Bool × Ls) => [some (.sc script), some (.d (toD (x252 : Int))), some (.o (toD (b426.2 : (List Int)))), some (.d (toD (v256 : Str))), some (.d (toD (((2 : Int) + (v257.1 % (7 : Int))) : Int))), some (.d (toD (((1 : Int) + (v258.1 % (5 : Int))) : Int))), some (.d (toD (v259.1 : (List Int)))), some (.t (Ls.tr v384.2)), some (.t (Ls.tr v389.2)), some (.t (Ls.tr v391.2)), some (.t (Ls.tr b434.2)), some (.d (toD (x381 : Int))), some (.d (toD (v382 : (List (List Int))))), some (.d (toD (v383.1 : (List Int)))), some (.d (toD (v384.1 : (List (List Int))))), none, none, none, none]) (j_orC (j_test (j_bin (j_methP rfl (by decide) (j_anil (j_methPO rfl ba_nil (rcv_t rfl (ls_dats _) (ls_rows _)) (sim_Lister_orders v428.2) fun v435 => (j_var rfl (j_op rd_w (rd_d rfl) (x_ne (τ := (List (List Int)))) (j_bool rd_b (j_ite (j_kb (l := [1, 1, 1, 1, 1, 1, 1, 1, 1, 1, 1, 1, 1, 1, 1, 0, 0, 0, 0]) rfl rfl) (j_test (j_bin (j_meth rfl (by decide) (j_call (j_aM rfl (j_aF (j_var rfl (j_fzb (fzb_of (fz_d rfl)) (j_anil (j_callO rfl (ba_t rfl (ba_b (b := .fr (toD (v383.1 : (List Int)))) ba_nil)) (sim_Lister_come v428.2 v383.1) (fun _ => rfl) fun v436 => (j_lst (j_dnil (j_lst2 (toD (([] : (List (List Int))) : (List (List Int)))) rfl rfl (j_op rd_w rd_w (x_ne (τ := (List (List Int)))) (j_bool rd_b (j_kb (l := [1, 1, 1, 1, 1, 1, 1, 1, 1, 1, 1, 1, 1, 1, 1, 0, 0, 0, 0]) rfl rfl)))))))))))))))))))))))))) fun b434 => (j_ite (j_re (Γ' := [some (.sc script), some (.d (toD (x252 : Int))), some (.o (toD (b426.2 : (List Int)))), some (.d (toD (v256 : Str))), some (.d (toD (((2 : Int) + (v257.1 % (7 : Int))) : Int))), some (.d (toD (((1 : Int) + (v258.1 % (5 : Int))) : Int))), some (.d (toD (v259.1 : (List Int)))), some (.t (Ls.tr v384.2)), some (.t (Ls.tr v389.2)), some (.t (Ls.tr v391.2)), some (.t (Ls.tr b434.2)), some (.d (toD (x381 : Int))), some (.d (toD (v382 : (List (List Int))))), some (.d (toD (v383.1 : (List Int)))), some (.d (toD (v384.1 : (List (List Int))))), none, none, none, none]) rfl (j_ret (j_c (j_retb (l := [0, 0, 0, 0, 0, 0, 0, 0, 0, 0, 0, 0, 0, 0, 0, 0, 0, 0, 0]) sl_d rfl rfl)))) (j_seqNil (j_nil (l := [1, 1, 1, 1, 1, 1, 1, 1, 1, 1, 1, 1, 1, 1, 1, 0, 0, 0, 0]) rfl rfl)))))))))))))) (j_nil (l := [1, 1, 1, 1, 1, 1, 1, 1, 1, 1, 1, 1, 1, 1, 1, 0, 0, 0, 0]) rfl rfl)))) fun s422 => (j_nil (l := [1, 1, 1, 1, 1, 1, 1, 1, 1, 1, 1, 0, 0, 0, 0, 0, 0, 0, 0]) rfl rfl)))))))))))))))))))))))))))))))))))))))))))))))))))))))))))))))))))))))))))))))))))))))))))))))))))))))))))))))))))))))))))))))))))))))))))))))) fun s437 => (j_re (Γ' := [some (.sc script), some (.d (toD (x252 : Int))), some (.o (toD (s437.1 : (List Int)))), some (.d (toD (v256 : Str))), some (.d (toD (((2 : Int) + (v257.1 % (7 : Int))) : Int))), some (.d (toD (((1 : Int) + (v258.1 % (5 : Int))) : Int))), some (.d (toD (v259.1 : (List Int)))), some (.t (Ls.tr s437.2.1)), some (.t (Ls.tr s437.2.2.1)), some (.t (Ls.tr s437.2.2.2.1)), some (.t (Ls.tr s437.2.2.2.2)), none, none, none, none, none, none, none, none]) rfl (j_asg (j_methP rfl (by decide) (j_anil (j_methPO rfl ba_nil (rcv_t rfl (ls_dats _) (ls_rows _)) (sim_Lister_orders s437.2.1) fun v438 => (j_fzb (fzb_of fz_w) (j_setD (j_re (Γ' := [some (.sc script), some (.d (toD (x252 : Int))), some (.o (toD (s437.1 : (List Int)))), some (.d (toD (v256 : Str))), some (.d (toD (((2 : Int) + (v257.1 % (7 : Int))) : Int))), some (.d (toD (((1 : Int) + (v258.1 % (5 : Int))) : Int))), some (.d (toD (v259.1 : (List Int)))), some (.t (Ls.tr s437.2.1)), some (.t (Ls.tr s437.2.2.1)), some (.t (Ls.tr s437.2.2.2.1)), some (.t (Ls.tr s437.2.2.2.2)), none, none, none, none, some (.d (toD (v438 : (List (List Int))))), none, none, none]) rfl (j_if (j_sub (bv := fun b451 : Bool => b451) (Γ1 := fun b451 : Bool => [some (.sc script), some (.d (toD (x252 : Int))), some (.o (toD (s437.1 : (List Int)))), some (.d (toD (v256 : Str))), some (.d (toD (((2 : Int) + (v257.1 % (7 : Int))) : Int))), some (.d (toD (((1 : Int) + (v258.1 % (5 : Int))) : Int))), some (.d (toD (v259.1 : (List Int)))), some (.t (Ls.tr s437.2.1)), some (.t (Ls.tr s437.2.2.1)), some (.t (Ls.tr s437.2.2.2.1)), some (.t (Ls.tr s437.2.2.2.2)), none, none, none, none, some (.d (toD (v438 : (List (List Int))))), none, none, none]) (j_orC (j_test (j_bin (j_methP rfl (by decide) (j_anil (j_methPO rfl ba_nil (rcv_t rfl (ls_dats _) (ls_rows _)) (sim_Lister_orders s437.2.2.1) fun v452 => (j_call (j_aF (j_var rfl (j_fzb (fzb_of (fz_d rfl)) (j_aF (j_var rfl (j_fzb (fzb_of (fz_d rfl)) (j_anil (j_callO rfl (ba_b (ba_b ba_nil)) (sim__law_turned v438 v259.1) (fun _ => rfl) fun v453 => (j_op rd_w rd_w (x_ne (τ := (List (List Int)))) (j_bool rd_b (j_ite (j_kb (l := [1, 1, 1, 1, 1, 1, 1, 1, 1, 1, 1, 0, 0, 0, 0, 1, 0, 0, 0]) rfl rfl) (j_test (j_bin (j_methP rfl (by decide) (j_anil (j_methPO rfl ba_nil (rcv_t rfl (ls_dats _) (ls_rows _)) (sim_Lister_orders s437.2.2.2.1) fun v454 => (j_cb (j_acons (j_lc (j_iSeq (j_var rfl (j_it (fz_d rfl) rfl (j_lcP (Γs := [some (.sc script), some (.d (toD (x252 : Int))), some (.o (toD (s437.1 : (List Int)))), some (.d (toD (v256 : Str))), some (.d (toD (((2 : Int) + (v257.1 % (7 : Int))) : Int))), some (.d (toD (((1 : Int) + (v258.1 % (5 : Int))) : Int))), some (.d (toD (v259.1 : (List Int)))), some (.t (Ls.tr s437.2.1)), some (.t (Ls.tr s437.2.2.1)), some (.t (Ls.tr s437.2.2.2.1)), some (.t (Ls.tr s437.2.2.2.2)), none, none, none, none, some (.d (toD (v438 : (List (List Int))))), none, none, none]) (l := [1, 1, 1, 1, 1, 1, 1, 1, 1, 1, 1, 0, 0, 0, 0, 1, 0, 0, 0]) (D := toD) (E := toD) (xr := fun a => toD a) (p := fun (x455 : (List Int)) => true) (q := fun (x455 : (List Int)) => ((x455.reverse))) rfl rfl (fun x455 => (j_gN (j_tt (j_un (j_var rfl (j_unop (rd_d rfl) (x_rev (τ := Int)) (j_kf (l := [1, 1, 1, 1, 1, 1, 1, 1, 1, 1, 1, 0, 0, 0, 0, 1, 0, 0, 0]) fz_w rfl rfl))))))) (fun _ => rfl) fun ys456 => (j_anil (j_cbop (ra_cons rd_w ra_nil) x_sortedL (j_op rd_w rd_w (x_ne (τ := (List (List Int)))) (j_bool rd_b (j_kb (l := [1, 1, 1, 1, 1, 1, 1, 1, 1, 1, 1, 0, 0, 0, 0, 1, 0, 0, 0]) rfl rfl))))))))))))))))))))))))))))))))))) fun b451 => (j_ite (j_re (Γ' := [some (.sc script), some (.d (toD (x252 : Int))), some (.o (toD (s437.1 : (List Int)))), some (.d (toD (v256 : Str))), some (.d (toD (((2 : Int) + (v257.1 % (7 : Int))) : Int))), some (.d (toD (((1 : Int) + (v258.1 % (5 : Int))) : Int))), some (.d (toD (v259.1 : (List Int)))), some (.t (Ls.tr s437.2.1)), some (.t (Ls.tr s437.2.2.1)), some (.t (Ls.tr s437.2.2.2.1)), some (.t (Ls.tr s437.2.2.2.2)), none, none, none, none, some (.d (toD (v438 : (List (List Int))))), none, none, none]) rfl (j_ret (j_c (j_retb (l := [0, 0, 0, 0, 0, 0, 0, 0, 0, 0, 0, 0, 0, 0, 0, 0, 0, 0, 0]) sl_d rfl rfl)))) (j_seqNil (j_re (Γ' := [some (.sc script), some (.d (toD (x252 : Int))), some (.o (toD (s437.1 : (List Int)))), some (.d (toD (v256 : Str))), some (.d (toD (((2 : Int) + (v257.1 % (7 : Int))) : Int))), some (.d (toD (((1 : Int) + (v258.1 % (5 : Int))) : Int))), some (.d (toD (v259.1 : (List Int)))), some (.t (Ls.tr s437.2.1)), some (.t (Ls.tr s437.2.2.1)), some (.t (Ls.tr s437.2.2.2.1)), some (.t (Ls.tr s437.2.2.2.2)), none, none, none, none, some (.d (toD (v438 : (List (List Int))))), none, none, none]) rfl (j_asg (j_methP rfl (by decide) (j_anil (j_methPF rfl ba_nil (rcv_t rfl (ls_dats _) (ls_rows _)) (sim_Lister_least_apart s437.2.1) (fun _ => flat_oi _) fun v457 => (j_fzb (fzb_of fz_b) (j_setD (j_last (j_re (Γ' := [some (.sc script), some (.d (toD (x252 : Int))), some (.o (toD (s437.1 : (List Int)))), some (.d (toD (v256 : Str))), some (.d (toD (((2 : Int) + (v257.1 % (7 : Int))) : Int))), some (.d (toD (((1 : Int) + (v258.1 % (5 : Int))) : Int))), some (.d (toD (v259.1 : (List Int)))), some (.t (Ls.tr s437.2.1)), some (.t (Ls.tr s437.2.2.1)), some (.t (Ls.tr s437.2.2.2.1)), some (.t (Ls.tr s437.2.2.2.2)), none, none, none, none, some (.d (toD (v438 : (List (List Int))))), some (.d (toD (v457 : (Option Int)))), none, none]) rfl (j_if (j_sub (bv := fun b488 : Bool => b488) (Γ1 := fun b488 : Bool => [some (.sc script), some (.d (toD (x252 : Int))), some (.o (toD (s437.1 : (List Int)))), some (.d (toD (v256 : Str))), some (.d (toD (((2 : Int) + (v257.1 % (7 : Int))) : Int))), some (.d (toD (((1 : Int) + (v258.1 % (5 : Int))) : Int))), some (.d (toD (v259.1 : (List Int)))), some (.t (Ls.tr s437.2.1)), some (.t (Ls.tr s437.2.2.1)), some (.t (Ls.tr s437.2.2.2.1)), some (.t (Ls.tr s437.2.2.2.2)), none, none, none, none, some (.d (toD (v438 : (List (List Int))))), some (.d (toD (v457 : (Option Int)))), none, none]) (j_orC (j_test (j_bin (j_lcI (lcI_cons rfl (lcI_cons rfl (lcI_cons rfl lcI_nil))) (by decide) (by decide) (show 18 < 19 by decide) rfl (j_lcIm rfl (by decide) (rcv_t rfl (ls_dats _) (ls_rows _)) (sim_Lister_least_apart s437.2.2.1) (fun _ => flat_oi _) (show 0 < big by decide) rfl fun v489 => (j_lcIm rfl (by decide) (rcv_t rfl (ls_dats _) (ls_rows _)) (sim_Lister_least_apart s437.2.2.2.1) (fun _ => flat_oi _) (show 1 < big by decide) rfl fun v490 => (j_lcIm rfl (by decide) (rcv_t rfl (ls_dats _) (ls_rows _)) (sim_Lister_least_apart s437.2.2.2.2) (fun _ => flat_oi _) (show 2 < big by decide) rfl fun v491 => (j_lcIx ([v489, v490, v491] : (List (Option Int))) rfl (j_bin (j_lst (j_dcons (j_var rfl (j_fz (fz_d rfl) (j_dnil (j_lst2 (toD ([v457] : (List (Option Int)))) rfl rfl (j_c (j_opR rd_w rd_b (x_mulL (τ := (Option Int))) fun v492 => (j_op rd_w rd_w (x_ne (τ := (List (Option Int)))) (j_bool rd_b (j_ite (j_kb (l := [1, 1, 1, 1, 1, 1, 1, 1, 1, 1, 1, 0, 0, 0, 0, 1, 1, 0, 0]) rfl rfl) (j_sub (bv := fun b499 : Bool => b499) (Γ1 := fun b499 : Bool => [some (.sc script), some (.d (toD (x252 : Int))), some (.o (toD (s437.1 : (List Int)))), some (.d (toD (v256 : Str))), some (.d (toD (((2 : Int) + (v257.1 % (7 : Int))) : Int))), some (.d (toD (((1 : Int) + (v258.1 % (5 : Int))) : Int))), some (.d (toD (v259.1 : (List Int)))), some (.t (Ls.tr s437.2.1)), some (.t (Ls.tr s437.2.2.1)), some (.t (Ls.tr s437.2.2.2.1)), some (.t (Ls.tr s437.2.2.2.2)), none, none, none, none, some (.d (toD (v438 : (List (List Int))))), some (.d (toD (v457 : (Option Int)))), none, none]) (j_andC (j_test (j_bin (j_var rfl (j_c (j_op (rd_d rfl) rd_b (x_isNot (τ := Int)) (j_bool rd_b (j_ite (j_test (j_bin (j_var rfl (j_var rfl (c_asO fun v500 h501 => (j_op (rd_eq h501 (rd_d rfl)) (rd_d rfl) x_lt (j_bool rd_b (j_kb (l := [1, 1, 1, 1, 1, 1, 1, 1, 1, 1, 1, 0, 0, 0, 0, 1, 1, 0, 0]) rfl rfl)))))))) (j_kb (l := [1, 1, 1, 1, 1, 1, 1, 1, 1, 1, 1, 0, 0, 0, 0, 1, 1, 0, 0]) rfl rfl))))))))) fun b499 => (j_kb (l := [1, 1, 1, 1, 1, 1, 1, 1, 1, 1, 1, 0, 0, 0, 0, 1, 1, 0, 0]) rfl rfl)))))))))))))))))))))) fun b488 => (j_ite (j_re (Γ' := [some (.sc script), some (.d (toD (x252 : Int))), some (.o (toD (s437.1 : (List Int)))), some (.d (toD (v256 : Str))), some (.d (toD (((2 : Int) + (v257.1 % (7 : Int))) : Int))), some (.d (toD (((1 : Int) + (v258.1 % (5 : Int))) : Int))), some (.d (toD (v259.1 : (List Int)))), some (.t (Ls.tr s437.2.1)), some (.t (Ls.tr s437.2.2.1)), some (.t (Ls.tr s437.2.2.2.1)), some (.t (Ls.tr s437.2.2.2.2)), none, none, none, none, some (.d (toD (v438 : (List (List Int))))), some (.d (toD (v457 : (Option Int)))), none, none]) rfl (j_ret (j_c (j_retb (l := [0, 0, 0, 0, 0, 0, 0, 0, 0, 0, 0, 0, 0, 0, 0, 0, 0, 0, 0]) sl_d rfl rfl)))) (j_seqNil (j_nil (l := [1, 0, 0, 0, 0, 0, 0, 0, 0, 0, 0, 0, 0, 0, 0, 0, 0, 0, 0]) rfl rfl))))))))))))))))))))))))))))))))))))))))))))))))))))))))))))))))))))))))))))))))))))))))))))))))))))))))))))))))))))))))))))))))))))))))))))) fun s502 => (j_last (j_re (Γ' := [some (.sc script), none, none, none, none, none, none, none, none, none, none, none, none, none, none, none, none, none, none]) rfl (j_ret (j_c (j_retb (l := [0, 0, 0, 0, 0, 0, 0, 0, 0, 0, 0, 0, 0, 0, 0, 0, 0, 0, 0]) sl_d rfl rfl))))))) (fun a p hp => nomatch hp)
end K76
set_option maxRecDepth 100000
namespace K76
open PySem VL VP TM D PySem.SeqAt
open L2 (atI ixN)
variable {n : Nat} {xs ys zs : List Int} {d : List Int}
theorem stir_ok (c k : Int) : ∃ v, m__law_stir c k = .ok v := by
  unfold m__law_stir
  have a := Int.emod_nonneg ((((c % (2147483629 : Int)) + ((9973 : Int) * k)) + (5 : Int)) * (48271 : Int)) (b := 2147483647) (by decide)
  have b := Int.emod_lt_of_pos ((((c % (2147483629 : Int)) + ((9973 : Int) * k)) + (5 : Int)) * (48271 : Int)) (b := 2147483647) (by decide)
  generalize ((((c % (2147483629 : Int)) + ((9973 : Int) * k)) + (5 : Int)) * (48271 : Int)) % 2147483647 = z at *
  rw [mulI_l (by omega)]
  exact ⟨_, rfl⟩
def NxOk (d : List Int) : Prop := 1 ≤ d.length ∧ d.length ≤ 2000
theorem popL_of {l : List Int} (h : 1 ≤ l.length) : ∃ v, popL l = some (v, l.dropLast) := by
  unfold popL
  rw [List.getElem?_eq_getElem (by omega)]
  exact ⟨_, rfl⟩
theorem next_spec (h : NxOk d) : ∃ v d', m__law_next d = .ok (v, d') ∧ NxOk d' := by
  obtain ⟨h1, h2⟩ := h
  unfold m__law_next
  by_cases e : d.length = 1
  · rw [decide_eq_true (by omega : (d.length : Int) = 1), if_pos rfl]
    have a0 : atI d 0 = some (d[0]'(by omega)) := at_of (by decide) (by omega)
    obtain ⟨v, hv⟩ := stir_ok (d[0]'(by omega)) 7
    rw [a0, ob_some, hv, bind_ok, ob_some, mulI_r (by unfold b2i; split <;> decide), ob_some, insL_of (by decide) (by decide) (by unfold big; omega), ob_some, bind_ok]
    obtain ⟨u, hu⟩ := popL_of (l := List.take (0 : Int).toNat d ++ [v * b2i (decide ((0 : Int) < d[0]'(by omega)))] ++ List.drop (0 : Int).toNat d) (by simp)
    rw [hu, ob_some]
    refine ⟨_, _, rfl, ?_, ?_⟩ <;> (dsimp only; rw [List.length_dropLast]; simp [e])
  · rw [decide_eq_false (by omega : ¬ (d.length : Int) = 1), if_neg (by decide), bind_ok]
    obtain ⟨u, hu⟩ := popL_of h1
    rw [hu, ob_some]
    refine ⟨_, _, rfl, ?_, ?_⟩ <;> (dsimp only; rw [List.length_dropLast]; omega)
theorem deck_ok (c : Int) : Sat (m__law_deck c 500) NxOk := by
  unfold m__law_deck
  rw [show rg1 (500 : Int) = some (iota 500) from rg1_nat (n := 500) (by decide), ob_some]
  refine sat_bind (Q := fun s => s.1.length = 500) ?_ fun s hs => sat_ok ⟨by rw [List.length_reverse]; omega, by rw [List.length_reverse]; omega⟩
  have := sat_foldM (mb := fun (s8 : ((List Int) × Int)) (x9 : Int) =>
    R.bind (m__law_stir c x9) fun v10 =>
    R.bind (if (decide (((10 : Int) ^ ((18 : Int)).toNat) ≤ c)) = true then
    (.ok ((s8.2 % (720720 : Int))))
    else
    (.ok v10)) fun (s11 : Int) =>
    ob (appL s8.1 s11) fun v12 =>
    R.ok ((v12, (s8.2 / (720720 : Int))))) (fun k s => s.1.length = k) (iota 500) 0 ([], c) rfl fun i s hi hs => by
    generalize (iota 500)[i] = z
    rw [iota_len] at hi
    obtain ⟨v, hv⟩ := stir_ok c z
    rw [hv, bind_ok]
    refine sat_bind (Q := fun _ => True) (sat_ite (fun _ => sat_ok trivial) fun _ => sat_ok trivial) fun a _ => ?_
    rw [appL_of (by unfold big; omega), ob_some]
    exact sat_ok (by dsimp only; rw [List.length_append, List.length_singleton]; omega)
  rw [iota_len, Nat.zero_add] at this
  exact this
theorem emod_bd (a : Int) {b : Int} (h : 0 < b) : 0 ≤ a % b ∧ a % b < b := ⟨Int.emod_nonneg a (by omega), Int.emod_lt_of_pos a h⟩
theorem order_ok (hd : NxOk d) (h1 : 1 ≤ n) (h2 : n ≤ 12) : Sat (m__law_order d (n : Int)) fun r => IsOrd n r.1 ∧ NxOk r.2 := by
  unfold m__law_order
  rw [lrg1_nat (by omega), ob_some, rg1_nat (by omega), ob_some]
  have := sat_lcS (step := fun (s10 : ((List Int) × (List Int))) (x3 : Int) => R.calm (R.bind (m__law_next s10.1) fun v11 =>
    ob (modI v11.1 ((s10.2.length : Int))) fun v12 =>
    ob (popI s10.2 v12) fun v13 =>
    R.ok (some v13.1, (v11.2, v13.2)))) (fun k acc s => NxOk s.1 ∧ (acc ++ s.2).Perm (iota n) ∧ s.2.length + k = n) (iota n) 0 [] (d, iota n) (by simp) (by rw [iota_len]; unfold big; omega) ⟨hd, List.Perm.refl _, by dsimp only; rw [iota_len]; rfl⟩ fun i acc s hi hs => by
      obtain ⟨s1, s2⟩ := s
      obtain ⟨q1, q2, q3⟩ := hs
      rw [iota_len] at hi
      dsimp only at q1 q2 q3 ⊢
      obtain ⟨v, d', e1, ok'⟩ := next_spec q1
      obtain ⟨b0, b1⟩ := emod_bd v (b := (s2.length : Int)) (by omega)
      obtain ⟨x, ys, e2, p1, p2⟩ := popI_perm (xs := s2) b0 (by omega) (by unfold big; omega)
      refine sat_calm ?_
      rw [e1, bind_ok, modI_of (by omega), ob_some, e2, ob_some]
      refine sat_ok ⟨ok', ?_, by dsimp only; omega⟩
      refine List.Perm.trans ?_ q2
      rw [List.append_assoc]
      exact List.Perm.append_left acc p1
  refine sat_bind this fun r ⟨h1, h3, h4⟩ => sat_ok ⟨?_, h1⟩
  rw [iota_len, Nat.zero_add] at h4
  have h5 : r.2.2 = [] := List.eq_nil_of_length_eq_zero (by omega)
  rw [h5, List.append_nil] at h3
  exact h3
theorem near_ok (hd : NxOk d) (hx : IsOrd n xs) (h1 : 1 ≤ n) (h2 : n ≤ 12) : Sat (m__law_near d xs) fun r => IsOrd n r.1 ∧ NxOk r.2 := by
  unfold m__law_near
  have hl := hx.length
  obtain ⟨v, d1, e1, ok1⟩ := next_spec hd
  obtain ⟨w, d2, e2, ok2⟩ := next_spec ok1
  obtain ⟨a0, a1⟩ := emod_bd v (b := 3) (by decide)
  obtain ⟨b0, b1⟩ := emod_bd w (b := 4) (by decide)
  rw [e1, bind_ok]
  dsimp only
  rw [e2, bind_ok]
  dsimp only
  generalize v % 3 = v at *
  generalize w % 4 = w at *
  refine sat_bind (Q := fun (s : List Int × List Int) => IsOrd n s.2 ∧ NxOk s.1) ?_ fun s h => sat_ok h
  have hw : ∃ c : Int, atI ([(1 : Int), (1 : Int), (2 : Int), (4 : Int)]) w = some c ∧ 0 ≤ c ∧ c ≤ 4 := by
    have : w = 0 ∨ w = 1 ∨ w = 2 ∨ w = 3 := by omega
    rcases this with rfl | rfl | rfl | rfl
    · exact ⟨1, rfl, by decide, by decide⟩
    · exact ⟨1, rfl, by decide, by decide⟩
    · exact ⟨2, rfl, by decide, by decide⟩
    · exact ⟨4, rfl, by decide, by decide⟩
  obtain ⟨c, hc, c0, c1⟩ := hw
  rw [hc, ob_some, hl, mulI_l (by omega), ob_some]
  by_cases hn : n = 1
  · subst hn
    rw [show c * b2i (decide ((1 : Int) < ((1 : Nat) : Int))) = 0 by rw [show b2i (decide ((1 : Int) < ((1 : Nat) : Int))) = 0 by decide]; omega]
    exact sat_ok ⟨hx, ok2⟩
  rw [show b2i (decide ((1 : Int) < (n : Int))) = 1 by rw [decide_eq_true (by omega)]; rfl, rg1_of (by omega), ob_some]
  refine sat_fold (fun (s : List Int × List Int) => IsOrd n s.2 ∧ NxOk s.1) ⟨hx, ok2⟩ fun s x _ ⟨q1, q2⟩ => ?_
  have hl2 := q1.length
  obtain ⟨p, d3, e3, ok3⟩ := next_spec q2
  obtain ⟨q, d4, e4, ok4⟩ := next_spec ok3
  obtain ⟨p0, p1⟩ := emod_bd p (b := (s.2.length : Int) - 1) (by omega)
  obtain ⟨r0, r1⟩ := emod_bd q (b := (s.2.length : Int)) (by omega)
  rw [e3, bind_ok, modI_of (by omega), ob_some, e4, bind_ok, modI_of (by omega), ob_some]
  dsimp only
  generalize p % ((s.2.length : Int) - 1) = p at *
  generalize q % (s.2.length : Int) = q at *
  have hq : ∃ r : Int, atI [p + 1, q, p + 1] v = some r ∧ 0 ≤ r ∧ r < s.2.length := by
    have : v = 0 ∨ v = 1 ∨ v = 2 := by omega
    rcases this with rfl | rfl | rfl
    · exact ⟨p + 1, rfl, by omega, by omega⟩
    · exact ⟨q, rfl, by omega, by omega⟩
    · exact ⟨p + 1, rfl, by omega, by omega⟩
  obtain ⟨r, r4, r2, r3⟩ := hq
  rw [r4, ob_some]
  refine sat_bind (Q := fun (s : List Int × List Int) => IsOrd n s.2 ∧ NxOk s.1) ?_ fun s h => sat_ok h
  refine sat_ite (fun _ => ?_) fun _ => ?_
  · obtain ⟨a, b, ys, zs, g1, g2, g3, g4, g5⟩ := swap_ok (xs := s.2) (p := p) (q := r) p0 (by omega) r2 r3
    rw [g1, ob_some, g2, ob_some, g3, ob_some, g4, ob_some]
    exact sat_ok ⟨g5.trans q1, ok4⟩
  · obtain ⟨t, d5, e5, ok5⟩ := next_spec ok4
    obtain ⟨t0, t1⟩ := emod_bd t (b := (s.2.length : Int)) (by omega)
    obtain ⟨x, ys, g1, g2, g3⟩ := popI_perm (xs := s.2) (i := p) p0 (by omega) (by unfold big; omega)
    rw [e5, bind_ok, modI_of (by omega), ob_some, g1, ob_some]
    dsimp only
    rw [insL_of t0 (by omega) (by unfold big; omega), ob_some]
    refine sat_ok ⟨?_, ok5⟩
    refine List.Perm.trans ?_ (g2.trans q1)
    rw [List.append_assoc]
    refine List.Perm.trans List.perm_middle ?_
    exact List.Perm.cons x (by show (List.take _ ys ++ List.drop _ ys).Perm ys; rw [List.take_append_drop])
end K76
set_option maxRecDepth 100000
namespace D
open VP (iota IsOrd)
end D
set_option maxRecDepth 100000
namespace D
end D
set_option maxRecDepth 100000
namespace TM
open PySem VL VP D PySem.SeqAt
open L2 (atI ixN)
variable {n : Nat} {xs ys zs : List Int}
theorem memT_t {τ : Type} [DecidableEq τ] {x : τ} {l : List τ} (h : x ∈ l) : memT x l = true := decide_eq_true h
end TM
set_option maxRecDepth 100000
namespace K76
open PySem VL VP TM D PySem.SeqAt
open L2 (atI ixN)
variable {n d : Nat} {w : Way} {o : List Int} {H held held' : List (List Int)} {s : Ls}
/-- sorted alike -/
theorem sort_perm {a b : List (List Int)} (p : a.Perm b) : a.mergeSort leL = b.mergeSort leL :=
  ((List.mergeSort_perm a leL).trans (p.trans (List.mergeSort_perm b leL).symm)).eq_of_pairwise (fun x y _ _ h1 h2 => leL_anti h1 h2) (List.pairwise_mergeSort leL_trans leL_total a) (List.pairwise_mergeSort leL_trans leL_total b)
/-- those of a list nearer than d, sorted -/
def nearL (w : Way) (n d : Nat) (held : List (List Int)) (o : List Int) : List (List Int) := (held.filter fun x => decide (far w n x o < d)).mergeSort leL
theorem near_perm (p : held.Perm held') : nearL w n d held o = nearL w n d held' o := sort_perm (p.filter _)
theorem near_mem {x : List Int} : x ∈ nearL w n d held o ↔ x ∈ held ∧ far w n x o < d := by
  unfold nearL
  rw [List.Perm.mem_iff (List.mergeSort_perm _ _), List.mem_filter, decide_eq_true_iff]
/-- a Lister as made, of so many deeds -/
structure LOk (w : Way) (n d : Nat) (s : Ls) : Prop where
  way : s.way = wS w
  things : s.things = n
  far : s.far = d
  ord : ∀ x ∈ s.held, IsOrd n x
theorem rows_ok (h : ∀ x ∈ held, IsOrd n x) (h1 : 1 ≤ n) : rowsG held = some () := by
  unfold rowsG
  rw [if_pos]
  rw [List.all_eq_true]
  intro x hx
  have := (h x hx).length
  cases x with
  | nil => simp at this; omega
  | cons a r => rfl
theorem nearer_ok (h : LOk w n d s) (ho : IsOrd n o) (h1 : 1 ≤ n) (h2 : n ≤ 12) (hl : s.held.length ≤ big) : m_Lister_nearer_than s o = .ok (nearL w n d s.held o) := by
  unfold m_Lister_nearer_than
  rw [h.way, h.far, lcM_eq (step := fun (x1 : (List Int)) => R.bind (m_far_by (wS w) x1 o) fun v2 => if (decide (v2 < (d : Int))) = true then (.ok (some x1)) else (.ok none)) (fun x => decide (far w n x o < d)) (fun x => x) hl (fun x hx => by
    rw [far_by_ok w (h.ord x hx) ho h1 (by omega), bind_ok]
    by_cases q : far w n x o < d
    · rw [decide_eq_true q, decide_eq_true (by omega : ((far w n x o : Nat) : Int) < (d : Int))]; rfl
    · rw [decide_eq_false q, decide_eq_false (by omega : ¬ ((far w n x o : Nat) : Int) < (d : Int))]; rfl), bind_ok, List.map_id']
  rfl
theorem come_ok (h : LOk w n d s) (ho : IsOrd n o) (h1 : 1 ≤ n) (h2 : n ≤ 12) (hl : s.held.length < 120) (hd : s.deeds.length < big) :
    m_Lister_come s o = .ok (nearL w n d s.held o, if nearL w n d s.held o = [] then ⟨s.way, s.things, s.far, s.held ++ [o], s.deeds ++ [(true, o)]⟩ else s) := by
  unfold m_Lister_come
  have hb : big = 1000000 := rfl
  rw [need_order_ok ho h1 h2, bind_ok, h.things, decide_eq_true (by rw [ho.length] : (o.length : Int) = (n : Int)), if_neg (by decide), decide_eq_false (by omega : ¬ (s.held.length : Int) = 120), if_neg (by decide), nearer_ok h ho h1 h2 (by omega), bind_ok,
    rows_ok (fun x hx => h.ord x (near_mem.mp hx).1) h1, ob_some]
  have hln : (nearL w n d s.held o).length ≤ big := by
    unfold nearL
    rw [List.length_mergeSort]
    exact Nat.le_trans (List.length_filter_le _ _) (by omega)
  by_cases q : nearL w n d s.held o = []
  · rw [decide_eq_true q, if_pos rfl, appL_of (by omega), ob_some, appL_of hd, ob_some, bind_ok, lcP_map _ hln, ob_some, List.map_id', if_pos q]
  · rw [decide_eq_false q, if_neg (by decide), bind_ok, lcP_map _ hln, ob_some, List.map_id', if_neg q]
theorem remL_of : ∀ {l : List (List Int)}, o ∈ l → remL l o = some (l.erase o)
  | [], h => by cases h
  | y :: l, h => by
    unfold remL
    by_cases e : y = o
    · subst e
      rw [List.findIdx?_cons, decide_eq_true rfl, List.erase_cons, if_pos (beq_self_eq_true y)]
      rfl
    · have hl : o ∈ l := by
        rcases List.mem_cons.mp h with z | z
        · exact absurd z.symm e
        · exact z
      have ih := remL_of hl
      unfold remL at ih
      rw [List.findIdx?_cons, decide_eq_false e, List.erase_cons]
      cases q : l.findIdx? (fun y => decide (y = o)) with
      | none => rw [q] at ih; cases ih
      | some j =>
        rw [q] at ih
        have ih' : l.eraseIdx j = l.erase o := Option.some.inj ih
        show some ((y :: l).eraseIdx (j + 1)) = _
        rw [List.eraseIdx_cons_succ, ih', if_neg (by simpa using e)]
theorem drop_ok (h : LOk w n d s) (ho : IsOrd n o) (h1 : 1 ≤ n) (h2 : n ≤ 12) (hm : o ∈ s.held) (hd : s.deeds.length < big) :
    m_Lister_drop s o = .ok ((), ⟨s.way, s.things, s.far, s.held.erase o, s.deeds ++ [(false, o)]⟩) := by
  unfold m_Lister_drop
  rw [need_order_ok ho h1 h2, bind_ok, memT_t hm, if_neg (by decide), remL_of hm, ob_some, appL_of hd, ob_some]
theorem undo_t {D : List (Bool × List Int)} (hs : s.deeds = D ++ [(true, o)]) (hm : o ∈ s.held) : m_Lister_undo s = .ok ((), ⟨s.way, s.things, s.far, s.held.erase o, D⟩) := by
  unfold m_Lister_undo
  rw [decide_eq_false (by rw [hs]; simp), if_neg (by decide)]
  have e : popL s.deeds = some ((true, o), D) := by unfold popL; rw [hs]; simp
  rw [e, ob_some]
  dsimp only
  rw [if_pos rfl, remL_of hm, ob_some, bind_ok]
theorem undo_f {D : List (Bool × List Int)} (hs : s.deeds = D ++ [(false, o)]) (hl : s.held.length < big) : m_Lister_undo s = .ok ((), ⟨s.way, s.things, s.far, s.held ++ [o], D⟩) := by
  unfold m_Lister_undo
  rw [decide_eq_false (by rw [hs]; simp), if_neg (by decide)]
  have e : popL s.deeds = some ((false, o), D) := by unfold popL; rw [hs]; simp
  rw [e, ob_some]
  dsimp only
  rw [if_neg (by decide), appL_of hl, ob_some, bind_ok]
theorem orders_ok (hl : s.held.length ≤ big) : m_Lister_orders s = .ok (s.held.mergeSort leL) := by
  unfold m_Lister_orders
  rw [lcP_map _ (by rw [List.length_mergeSort]; exact hl), ob_some, List.map_id']
theorem orders_rows (h : ∀ x ∈ held, IsOrd n x) (h1 : 1 ≤ n) : rowsG (held.mergeSort leL) = some () := rows_ok (fun x hx => h x ((List.Perm.mem_iff (List.mergeSort_perm _ _)).mp hx)) h1
theorem init_ok (h1 : 1 ≤ n) (h2 : n ≤ 8) (h3 : 1 ≤ d) : m_Lister___init__ (wS w) (n : Int) (d : Int) = .ok ((), ⟨wS w, n, d, [], []⟩) := by
  unfold m_Lister___init__
  rw [need_way_ok, bind_ok]
  have e : ∀ i : Int, m_is_whole i = .ok true := fun _ => rfl
  rw [e, bind_ok, if_neg (by decide), decide_eq_true (by omega : (1 : Int) ≤ n), decide_eq_true (by omega : (n : Int) ≤ 8), if_neg (by decide), e, bind_ok, if_neg (by decide), decide_eq_false (by omega : ¬ (d : Int) < 1), bind_ok, if_neg (by decide)]
end K76
set_option maxRecDepth 100000
namespace K76
open PySem VL VP TM D PySem.SeqAt
open L2 (atI ixN)
variable {n d : Nat} {w : Way} {o : List Int} {H H' held held' : List (List Int)} {s : Ls} {A : List (List (List Int))} {D : List (Bool × List Int)}
/-- a list, the deeds that led there, the lists that stood ahead of each -/
inductive Und (n : Nat) : List (List Int) → List (Bool × List Int) → List (List (List Int)) → Prop
  | nil : Und n [] [] []
  | come {H : List (List Int)} {o : List Int} {D : List (Bool × List Int)} {A : List (List (List Int))} : Und n H D A → IsOrd n o → o ∉ H → Und n (H ++ [o]) (D ++ [(true, o)]) (A ++ [H])
  | drop {H : List (List Int)} {i : Nat} {D : List (Bool × List Int)} {A : List (List (List Int))} (hi : i < H.length) : Und n H D A → Und n (H.eraseIdx i) (D ++ [(false, H[i])]) (A ++ [H])
theorem und_ord : ∀ {H D A}, Und n H D A → ∀ x ∈ H, IsOrd n x
  | _, _, _, .nil, x, hx => by cases hx
  | _, _, _, .come h ho _, x, hx => by
    rcases List.mem_append.mp hx with hx | hx
    · exact und_ord h x hx
    · rw [List.mem_singleton] at hx; subst hx; exact ho
  | _, _, _, .drop _ h, x, hx => und_ord h x (List.mem_of_mem_eraseIdx hx)
theorem und_len : ∀ {H D A}, Und n H D A → H.length ≤ D.length ∧ A.length = D.length
  | _, _, _, .nil => ⟨Nat.le_refl _, rfl⟩
  | _, _, _, .come h _ _ => by
    obtain ⟨h1, h2⟩ := und_len h
    simp only [List.length_append, List.length_singleton]
    omega
  | _, _, _, .drop (H := H) (i := i) _ h => by
    obtain ⟨h1, h2⟩ := und_len h
    have := List.length_eraseIdx_le H i
    simp only [List.length_append, List.length_singleton]
    omega
/-- the Lister and the law stand alike -/
structure Inv (w : Way) (n d : Nat) (s : Ls) (H : List (List Int)) (A : List (List (List Int))) : Prop where
  ok : LOk w n d s
  und : Und n H s.deeds A
  perm : s.held.Perm H
theorem Inv.ord (h : Inv w n d s H A) : ∀ x ∈ H, IsOrd n x := und_ord h.und
theorem Inv.len (h : Inv w n d s H A) : H.length ≤ A.length ∧ s.held.length ≤ A.length ∧ s.deeds.length = A.length := by
  obtain ⟨h1, h2⟩ := und_len h.und
  have := h.perm.length_eq
  omega
end K76
set_option maxRecDepth 100000
namespace K76
open PySem VL VP TM D PySem.SeqAt PySem.W.Datum
open L2 (atI ixN)
variable {n d : Nat} {w : Way} {o : List Int} {H H' held held' : List (List Int)} {s : Ls} {A : List (List (List Int))} {dk : List Int}
theorem free_ok (hd : NxOk dk) (hH : ∀ x ∈ H, IsOrd n x) (hl : H.length ≤ 1000) (h1 : 1 ≤ n) (h2 : n ≤ 12) : Sat (m__law_free dk (wS w) (n : Int) (d : Int) H) fun r => IsOrd n r.1 ∧ NxOk r.2 := by
  unfold m__law_free
  obtain ⟨a, d1, e1, ok1⟩ := next_spec hd
  rw [e1, bind_ok]
  dsimp only
  refine sat_bind (order_ok ok1 h1 h2) fun r ⟨ho, ok2⟩ => ?_
  refine sat_bind (Q := fun s => NxOk s.1 ∧ IsOrd n s.2) ?_ fun s hs => sat_ok ⟨hs.2, hs.1⟩
  refine sat_ite (fun hc => ?_) fun _ => sat_ok ⟨ok2, ho⟩
  rw [Bool.and_eq_true] at hc
  have hne : H ≠ [] := by simpa using hc.1
  have hpos : 0 < H.length := List.length_pos_iff.mpr hne
  obtain ⟨b, d2, e2, ok3⟩ := next_spec ok2
  obtain ⟨b0, b1⟩ := emod_bd b (b := (H.length : Int)) (by omega)
  rw [e2, bind_ok, modI_of (by omega), ob_some]
  dsimp only
  generalize b % (H.length : Int) = b at *
  rw [at_of b0 b1, ob_some]
  have hx := hH _ (List.getElem_mem (l := H) (n := b.toNat) (by omega))
  refine sat_bind (Q := fun s => NxOk s.1 ∧ IsOrd n s.2) ?_ fun s hs => sat_ok hs
  refine sat_ite (fun _ => ?_) fun _ => sat_ok ⟨ok3, hx⟩
  refine sat_bind (near_ok ok3 hx h1 h2) fun r2 ⟨hy, ok4⟩ => ?_
  exact sat_ok ⟨ok4, hy⟩
end K76
set_option maxRecDepth 100000
namespace TM
open PySem VL VP D PySem.SeqAt
end TM
set_option maxRecDepth 100000
namespace K76
open PySem VL VP TM D PySem.SeqAt PySem.W.Datum
open L2 (atI ixN)
variable {n d : Nat} {w : Way} {o : List Int} {H H' held held' : List (List Int)} {s : Ls} {A : List (List (List Int))} {dk : List Int}
/-- a change of all orders that keeps what they are and how far apart -/
structure Alk (w : Way) (n : Nat) (f : List Int → List Int) : Prop where
  ord : ∀ x, IsOrd n x → IsOrd n (f x)
  far : ∀ x y, IsOrd n x → IsOrd n y → far w n (f x) (f y) = far w n x y
theorem Alk.inj {f : List Int → List Int} (k : Alk w n f) (x y : List Int) (hx : IsOrd n x) (hy : IsOrd n y) (e : f x = f y) : x = y := by
  have := k.far x y hx hy
  rw [e, far_self (k.ord y hy)] at this
  exact (far_zero hx hy).mp this.symm
theorem alk_beh {t : List Int} (ht : IsOrd n t) : Alk w n (beh n t) := ⟨fun _ hx => beh_ord ht hx, fun _ _ hx hy => far_beh hx hy ht⟩
theorem alk_rev : Alk w n List.reverse := ⟨fun _ hx => rev_ord hx, fun _ _ hx hy => far_rev hx hy⟩
theorem Alk.filter {f : List Int → List Int} (k : Alk w n f) (hH : ∀ x ∈ H, IsOrd n x) (ho : IsOrd n o) : (H.map f).filter (fun x => decide (D.far w n x (f o) < d)) = (H.filter fun x => decide (D.far w n x o < d)).map f := by
  rw [List.filter_map]
  refine congrArg _ (List.filter_congr fun x hx => ?_)
  show decide (D.far w n (f x) (f o) < d) = _
  rw [k.far x o (hH x hx) ho]
theorem Alk.near {f : List Int → List Int} (k : Alk w n f) (hH : ∀ x ∈ H, IsOrd n x) (ho : IsOrd n o) (p : H'.Perm (H.map f)) : nearL w n d H' (f o) = ((nearL w n d H o).map f).mergeSort leL := by
  rw [near_perm p]
  unfold nearL
  rw [k.filter hH ho]
  exact sort_perm ((List.mergeSort_perm _ _).symm.map f)
theorem Alk.orders {f : List Int → List Int} (k : Alk w n f) (p : H'.Perm (H.map f)) : H'.mergeSort leL = ((H.mergeSort leL).map f).mergeSort leL := sort_perm (p.trans ((List.mergeSort_perm _ _).symm.map f))
end K76
set_option maxRecDepth 100000
namespace K76
open PySem VL VP TM D
open PySem.W (Datum Tup)
open PySem.W.Datum (toD)
open L2 (atI ixN cutS)
variable {n m M d : Nat} {H : List (List Int)} {o xs ys zs : List Int} {ll : List (List Int)} {w : Way}
structure Ords (M n : Nat) (l : List (List Int)) : Prop where
  ne : 1 ≤ l.length
  few : l.length ≤ M
  nd : l.Nodup
  ord : ∀ o ∈ l, IsOrd n o
theorem once_full {l : List (List Int)} (h : l.Nodup) : onceL l = l := by
  induction l with
  | nil => rfl
  | cons x l ih =>
    obtain ⟨h1, h2⟩ := List.nodup_cons.mp h
    unfold onceL
    rw [if_neg h1, ih h2]
theorem memT_iff {τ : Type} [DecidableEq τ] {x : τ} {xs : List τ} : memT x xs = true ↔ x ∈ xs := decide_eq_true_iff
theorem filt_nil {τ υ : Type} {p : τ → Bool} {ds : List τ} (f : τ → υ) (h : ∀ x ∈ ds, p x = false) : (ds.filter p).map f = [] := by
  rw [List.filter_eq_nil_iff.mpr fun x hx => by rw [h x hx]; decide]
  rfl
theorem need_list_ok (h : Ords M n ll) (hM : M ≤ 120) (h1 : 1 ≤ n) (h2 : n ≤ 12) : m_need_list ll = .ok () := by
  have hb : big = 1000000 := rfl
  have hne := h.ne
  have hfew := h.few
  unfold m_need_list
  rw [if_neg (by
    rw [decide_eq_true (show (1 : Int) ≤ (ll.length : Int) by omega), decide_eq_true (show (ll.length : Int) ≤ 120 by omega)]
    decide), lcM_eq (fun _ => false) (fun x => x) (by omega) (fun x hx => by rw [is_order_ok (h.ord x hx) h1 h2, bind_ok]; rfl), bind_ok, filt_nil _ (fun _ _ => rfl)]
  rw [if_neg (by decide), lcM_eq (fun _ => false) (fun x => x) (by omega) (fun x hx => by
    rw [at_of (i := 0) (by decide) (by omega), ob_some]
    rw [(h.ord x hx).length, (h.ord _ (List.getElem_mem (by omega : (0 : Int).toNat < ll.length))).length, if_neg (by simp)]
    rfl), bind_ok, filt_nil _ (fun _ _ => rfl)]
  rw [if_neg (by decide), lcP_map _ (by omega), ob_some]
  have hi : (ll.map fun x : List Int => Tup.mk x).map (·.items) = ll := by rw [List.map_map]; exact List.map_id ll
  have hs : lenSetT (ll.map fun x : List Int => Tup.mk x) = some ((ll.length : Nat) : Int) := by
    unfold lenSetT
    rw [if_pos (by rw [List.length_map]; omega), hi, once_full h.nd]
  rw [hs, ob_some, if_neg (by simp)]
theorem need_asked_ok (w : Way) (ho : IsOrd n o) (h : Ords M n ll) (hM : M ≤ 120) (h1 : 1 ≤ n) (h2 : n ≤ 12) : m_need_asked (wS w) o ll = .ok () := by
  have hne := h.ne
  unfold m_need_asked
  rw [need_order_ok ho h1 h2, bind_ok, need_list_ok h hM h1 h2, bind_ok, need_way_ok, bind_ok, at_of (i := 0) (by decide) (by omega), ob_some]
  rw [ho.length, (h.ord _ (List.getElem_mem (by omega : (0 : Int).toNat < ll.length))).length, if_neg (by simp)]
/-- how far the nearest is -/
def Lst (w : Way) (n : Nat) (o : List Int) (ll : List (List Int)) (v : Nat) : Prop := (∃ x ∈ ll, far w n o x = v) ∧ ∀ x ∈ ll, v ≤ far w n o x
theorem lst_ex (w : Way) (n : Nat) (o : List Int) : ∀ {ll : List (List Int)}, 1 ≤ ll.length → ∃ v, Lst w n o ll v
  | [], h => absurd h (by decide)
  | [x], _ => ⟨far w n o x, ⟨x, List.mem_cons_self, rfl⟩, fun y hy => by rw [List.mem_singleton] at hy; rw [hy]; exact Nat.le_refl _⟩
  | x :: y :: r, _ => by
    obtain ⟨v, ⟨z, hz, e⟩, k⟩ := lst_ex w n o (ll := y :: r) (by simp)
    by_cases hx : far w n o x ≤ v
    · exact ⟨far w n o x, ⟨x, List.mem_cons_self, rfl⟩, fun a ha => by
        rcases List.mem_cons.mp ha with rfl | ha
        · exact Nat.le_refl _
        · exact Nat.le_trans hx (k a ha)⟩
    · exact ⟨v, ⟨z, List.mem_cons_of_mem _ hz, e⟩, fun a ha => by
        rcases List.mem_cons.mp ha with rfl | ha
        · omega
        · exact k a ha⟩
theorem foldl_min : ∀ (xs : List Int) (a : Int), (xs.foldl min a = a ∨ xs.foldl min a ∈ xs) ∧ xs.foldl min a ≤ a ∧ ∀ x ∈ xs, xs.foldl min a ≤ x
  | [], a => ⟨.inl rfl, Int.le_refl _, fun x hx => nomatch hx⟩
  | x :: xs, a => by
    obtain ⟨h1, h2, h3⟩ := foldl_min xs (min a x)
    show (xs.foldl min (min a x) = a ∨ xs.foldl min (min a x) ∈ x :: xs) ∧ xs.foldl min (min a x) ≤ a ∧ ∀ y ∈ x :: xs, xs.foldl min (min a x) ≤ y
    refine ⟨?_, by omega, fun y hy => ?_⟩
    · rcases h1 with h1 | h1
      · rw [h1]
        by_cases hax : a ≤ x
        · exact .inl (by omega)
        · exact .inr (by rw [show min a x = x by omega]; exact List.mem_cons_self)
      · exact .inr (List.mem_cons_of_mem _ h1)
    · rcases List.mem_cons.mp hy with rfl | hy
      · omega
      · exact h3 y hy
theorem minL_of {xs : List Int} {a : Int} (h : a ∈ xs) (k : ∀ x ∈ xs, a ≤ x) : minL xs = some a := by
  cases xs with
  | nil => cases h
  | cons x r =>
    obtain ⟨h1, h2, h3⟩ := foldl_min r x
    show some (r.foldl min x) = some a
    have g1 : a ≤ r.foldl min x := by
      rcases h1 with h1 | h1
      · rw [h1]; exact k x List.mem_cons_self
      · exact k _ (List.mem_cons_of_mem _ h1)
    have g2 : r.foldl min x ≤ a := by
      rcases List.mem_cons.mp h with rfl | h
      · exact h2
      · exact h3 a h
    rw [Int.le_antisymm g2 g1]
theorem minL_lst {v : Nat} (h : Lst w n o ll v) : minL (ll.map fun x => ((far w n o x : Nat) : Int)) = some (v : Int) := by
  obtain ⟨⟨x, hx, e⟩, k⟩ := h
  refine minL_of (List.mem_map.mpr ⟨x, hx, by rw [e]⟩) fun y hy => ?_
  obtain ⟨z, hz, rfl⟩ := List.mem_map.mp hy
  have := k z hz
  omega
theorem zip_map_self {α β : Type} (f : α → β) : ∀ l : List α, l.zip (l.map f) = l.map fun x => (x, f x)
  | [] => rfl
  | x :: l => by rw [List.map_cons, List.zip_cons_cons, zip_map_self f l, List.map_cons]
/-- those that are so far -/
def nr (w : Way) (n : Nat) (o : List Int) (ll : List (List Int)) (v : Nat) : List (List Int) := ll.filter fun x => decide (far w n o x = v)
theorem nearest_ok (w : Way) (ho : IsOrd n o) (h : Ords M n ll) (hM : M ≤ 120) (h1 : 1 ≤ n) (h2 : n ≤ 12) {v : Nat} (hv : Lst w n o ll v) : m_nearest_of (wS w) o ll = .ok ((v : Int), nr w n o ll v) := by
  have hb : big = 1000000 := rfl
  have hfew := h.few
  unfold m_nearest_of
  rw [need_asked_ok w ho h hM h1 h2, bind_ok, lcM_map (fun x => ((far w n o x : Nat) : Int)) (by omega) (fun x hx => by rw [far_by_ok w ho (h.ord x hx) h1 (by omega), bind_ok]), bind_ok, minL_lst hv, ob_some, zip_map_self, lcP_eq _ _ (by rw [List.length_map]; omega), ob_some]
  rw [List.filter_map, List.map_map]
  unfold nr
  congr 1
  refine Prod.ext rfl ?_
  show List.map (fun x => x) _ = _
  rw [List.map_id']
  refine List.filter_congr fun x _ => decide_eq_decide.mpr ?_
  show ((far w n o x : Nat) : Int) = (v : Int) ↔ far w n o x = v
  omega
theorem min_near (hH : ∀ x ∈ H, IsOrd n x) {L : List (List Int)} (p : H.Perm L) {v : Nat} (hv : Lst w n o L v) (ho : IsOrd n o) {d : Nat} : v < d ↔ nearL w n d H o ≠ [] := by
  obtain ⟨⟨x, hx, e⟩, k⟩ := hv
  constructor
  · intro h q
    have : x ∈ nearL w n d H o := near_mem.mpr ⟨(List.Perm.mem_iff p).mpr hx, by rw [far_comm, e]; exact h⟩
    rw [q] at this
    cases this
  · intro h
    obtain ⟨y, hy⟩ := List.exists_mem_of_ne_nil _ h
    obtain ⟨h1, h2⟩ := near_mem.mp hy
    have := k y ((List.Perm.mem_iff p).mp h1)
    rw [far_comm] at this
    omega
theorem told_ok (ho : IsOrd n o) (hH : ∀ x ∈ H, IsOrd n x) (nd : H.Nodup) (hl : H.length ≤ 120) (h1 : 1 ≤ n) (h2 : n ≤ 12) {d : Nat} : m__law_told_right (wS w) (d : Int) (H.mergeSort leL) o (nearL w n d H o) = .ok true := by
  unfold m__law_told_right
  have pm : (H.mergeSort leL).Perm H := List.mergeSort_perm _ _
  by_cases q : H.mergeSort leL = []
  · rw [decide_eq_true q, if_pos rfl]
    have : H = [] := by
      have := pm.length_eq
      rw [q] at this
      exact List.eq_nil_of_length_eq_zero this.symm
    subst this
    rw [decide_eq_true (by simp [nearL] : nearL w n d [] o = [])]
  · rw [decide_eq_false q, if_neg (by decide)]
    have hos : Ords 120 n (H.mergeSort leL) := ⟨List.length_pos_iff.mpr q, by rw [List.length_mergeSort]; omega, pm.nodup_iff.mpr nd, fun x hx => hH x ((List.Perm.mem_iff pm).mp hx)⟩
    obtain ⟨v, hv⟩ := lst_ex w n o hos.ne
    rw [nearest_ok w ho hos (by decide) h1 h2 hv, bind_ok]
    dsimp only
    have hm := min_near hH pm.symm hv ho (d := d)
    by_cases z : nearL w n d H o = []
    · rw [decide_eq_false (show ¬ ((v : Int) < (d : Int)) from fun h => hm.mp (by omega) z), decide_eq_true z]
      rfl
    · have hv2 := hm.mpr z
      have hnr : (nr w n o (H.mergeSort leL) v).length ≤ big := Nat.le_trans (List.length_filter_le _ _) (by rw [List.length_mergeSort]; unfold big; omega)
      rw [decide_eq_true (show ((v : Int) < (d : Int)) by omega), decide_eq_false z, if_neg (by decide), if_neg (by decide), lcP_eq _ _ hnr, ob_some, filt_nil _ (fun x hx => by
        obtain ⟨h3, h4⟩ := List.mem_filter.mp hx
        have h5 := of_decide_eq_true h4
        have : x ∈ nearL w n d H o := near_mem.mpr ⟨(List.Perm.mem_iff pm).mp h3, by rw [far_comm, h5]; exact hv2⟩
        rw [memT_iff.mpr this]
        rfl)]
      rfl
end K76
set_option maxRecDepth 100000
namespace K76
open PySem VL VP TM D PySem.SeqAt PySem.W.Datum
open L2 (atI ixN)
variable {n d k : Nat} {w : Way} {o t x : List Int} {H H' L held held' : List (List Int)} {s : Ls} {dk : List Int}
theorem beh_map (hx : IsOrd n x) : x.map (fun v => ((th t v.toNat : Nat) : Int)) = beh n t x := by
  refine List.ext_getElem? fun p => ?_
  by_cases hp : p < n
  · rw [List.getElem?_map, ord_get hx hp, Option.map_some]
    unfold beh lst
    rw [List.getElem?_map, List.getElem?_range hp, Option.map_some, Int.toNat_natCast]
  · rw [List.getElem?_eq_none (by rw [List.length_map, hx.length]; omega), List.getElem?_eq_none (by unfold beh; rw [lst_len]; omega)]
theorem names_ok (hx : IsOrd n x) (ht : IsOrd n t) (h2 : n ≤ 12) : lcM (fun (x2 : Int) => R.calm (ob (atI t x2) fun v3 => .ok (some v3))) x [] = .ok (beh n t x) := by
  rw [lcM_map (step := fun x2 => ob (atI t x2) fun v3 => .ok (some v3)) (fun v => ((th t v.toNat : Nat) : Int)) (by rw [hx.length]; unfold big; omega) (fun v hv => by
    obtain ⟨b0, b1⟩ := mem_iota.mp (hx.mem_iff.mp hv)
    have := at_ord ht (p := v.toNat) (by omega)
    rw [Int.toNat_of_nonneg b0] at this
    rw [this, ob_some]), beh_map hx]
theorem turned_ok (hl : L.length ≤ 1000) (hL : ∀ x ∈ L, IsOrd n x) (ht : IsOrd n t) (h2 : n ≤ 12) : m__law_turned L t = .ok ((L.map (beh n t)).mergeSort leL) := by
  unfold m__law_turned
  rw [lcM_map (step := fun x1 => R.bind (lcM (fun (x2 : Int) => R.calm (ob (atI t x2) fun v3 => .ok (some v3))) x1 []) fun ys4 => .ok (some ys4)) (beh n t) (by unfold big; omega) (fun x hx => by rw [names_ok (hL x hx) ht h2, bind_ok]), bind_ok]
/-- a lister that holds these -/
structure Std (w : Way) (n d : Nat) (s : Ls) (H : List (List Int)) (k : Nat) : Prop where
  ok : LOk w n d s
  perm : s.held.Perm H
  few : s.deeds.length ≤ k
theorem std_init : Std w n d ⟨wS w, n, d, [], []⟩ [] 0 := ⟨⟨rfl, rfl, rfl, fun x hx => nomatch hx⟩, .refl _, Nat.le_refl _⟩
theorem Std.orders (h : Std w n d s H k) (hl : H.length ≤ 1000) : m_Lister_orders s = .ok (H.mergeSort leL) := by
  rw [orders_ok (by rw [h.perm.length_eq]; unfold big; omega), sort_perm h.perm]
theorem Std.to (h : Std w n d s H k) (p : H.Perm H') : Std w n d s H' k := ⟨h.ok, h.perm.trans p, h.few⟩
theorem Std.come (h : Std w n d s H k) (ho : IsOrd n o) (h1 : 1 ≤ n) (h2 : n ≤ 12) (hl : H.length < 120) (hk : k < 1000) :
    ∃ s', m_Lister_come s o = .ok (nearL w n d H o, s') ∧ (nearL w n d H o = [] → Std w n d s' (H ++ [o]) (k + 1) ∧ ∃ D, s'.deeds = D ++ [(true, o)] ∧ D.length ≤ k) ∧ (nearL w n d H o ≠ [] → s' = s) := by
  have hf := h.few
  refine ⟨_, by rw [come_ok h.ok ho h1 h2 (by rw [h.perm.length_eq]; exact hl) (by unfold big; omega), near_perm h.perm], fun q => ?_, fun q => if_neg q⟩
  rw [if_pos q]
  refine ⟨⟨⟨h.ok.way, h.ok.things, h.ok.far, fun x hx => ?_⟩, h.perm.append_right _, by dsimp only; rw [List.length_append, List.length_singleton]; omega⟩, _, rfl, hf⟩
  rcases List.mem_append.mp hx with hx | hx
  · exact h.ok.ord x hx
  · rw [List.mem_singleton] at hx; subst hx; exact ho
/-- the order that came last is undone -/
theorem Std.undo (h : Std w n d s (H ++ [o]) (k + 1)) {D : List (Bool × List Int)} (hd : s.deeds = D ++ [(true, o)]) (hD : D.length ≤ k) (hn : o ∉ H) : ∃ s', m_Lister_undo s = .ok ((), s') ∧ Std w n d s' H k := by
  have hm : o ∈ s.held := (List.Perm.mem_iff h.perm).mpr (by simp)
  refine ⟨_, undo_t hd hm, ⟨h.ok.way, h.ok.things, h.ok.far, fun x hx => h.ok.ord x (List.mem_of_mem_erase hx)⟩, ?_, hD⟩
  have p2 := h.perm.erase o
  rwa [List.erase_append_right _ hn, List.erase_cons_head, List.append_nil] at p2
/-- one is dropped -/
theorem Std.drop (h : Std w n d s H k) (ho : IsOrd n o) (hm : o ∈ H) (h1 : 1 ≤ n) (h2 : n ≤ 12) (hk : k < 1000) : ∃ s', m_Lister_drop s o = .ok ((), s') ∧ Std w n d s' (H.erase o) (k + 1) ∧ ∃ D, s'.deeds = D ++ [(false, o)] ∧ D.length ≤ k := by
  have hf := h.few
  refine ⟨_, drop_ok h.ok ho h1 h2 ((List.Perm.mem_iff h.perm).mpr hm) (by unfold big; omega), ⟨⟨h.ok.way, h.ok.things, h.ok.far, fun x hx => h.ok.ord x (List.mem_of_mem_erase hx)⟩, h.perm.erase o, by dsimp only; rw [List.length_append, List.length_singleton]; omega⟩, _, rfl, hf⟩
theorem Std.undrop (h : Std w n d s (H.erase o) (k + 1)) {D : List (Bool × List Int)} (hd : s.deeds = D ++ [(false, o)]) (hD : D.length ≤ k) (hm : o ∈ H) (ho : IsOrd n o) (hl : H.length ≤ 1000) : ∃ s', m_Lister_undo s = .ok ((), s') ∧ Std w n d s' H k := by
  have hlen := h.perm.length_eq
  have hle := List.length_erase_le (a := o) (l := H)
  refine ⟨_, undo_f hd (by unfold big; omega), ⟨h.ok.way, h.ok.things, h.ok.far, fun x hx => ?_⟩, ?_, hD⟩
  · rcases List.mem_append.mp hx with hx | hx
    · exact h.ok.ord x hx
    · rw [List.mem_singleton] at hx; subst hx; exact ho
  · exact (h.perm.append_right _).trans ((List.perm_append_comm).trans (List.perm_cons_erase hm).symm)
end K76
set_option maxRecDepth 100000
namespace K76
open PySem VL VP TM D PySem.SeqAt PySem.W.Datum
open L2 (atI ixN)
variable {n d k : Nat} {w : Way} {o t x : List Int} {H H' L held held' : List (List Int)} {s : Ls} {dk : List Int}
def Spc (w : Way) (n d : Nat) (H : List (List Int)) : Prop := ∀ x ∈ H, ∀ y ∈ H, x ≠ y → d ≤ far w n x y
theorem Std.mono (h : Std w n d s H k) {k' : Nat} (hk : k ≤ k') : Std w n d s H k' := ⟨h.ok, h.perm, Nat.le_trans h.few hk⟩
theorem Spc.near (sp : Spc w n d H) (nd : H.Nodup) (hm : o ∈ H) : nearL w n d (H.erase o) o = [] := by
  refine List.eq_nil_iff_forall_not_mem.mpr fun x hx => ?_
  obtain ⟨h1, h2⟩ := near_mem.mp hx
  obtain ⟨h3, h4⟩ := (List.Nodup.mem_erase_iff nd).mp h1
  have := sp x h4 o hm h3
  omega
theorem dropped_ok (hd : NxOk dk) (h : Std w n d s H k) (hH : ∀ x ∈ H, IsOrd n x) (nd : H.Nodup) (sp : Spc w n d H) (hl : H.length ≤ 100) (hk : k + 2 < 1000) (h1 : 1 ≤ n) (h2 : n ≤ 12) :
    Sat (m__law_dropped_right dk s) fun r => r.1 = true ∧ NxOk r.2.1 ∧ Std w n d r.2.2 H (k + 2) := by
  unfold m__law_dropped_right
  have pm : (H.mergeSort leL).Perm H := List.mergeSort_perm _ _
  refine sat_bind (Q := fun b => NxOk b.2 ∧ (b.1 = false → H ≠ [])) ?_ fun b hb => ?_
  · rw [h.orders (by omega), bind_ok, orders_rows hH h1, ob_some]
    refine sat_ite (fun _ => sat_ok ⟨hd, fun h => nomatch h⟩) fun hq => ?_
    obtain ⟨a, d1, e1, ok1⟩ := next_spec hd
    rw [e1, bind_ok]
    exact sat_ok ⟨ok1, fun _ z => of_decide_eq_false hq (by rw [z]; simp)⟩
  refine sat_ite (fun _ => sat_ok ⟨rfl, hb.1, h.mono (by omega)⟩) fun hq => ?_
  have hne := hb.2 (by simpa using hq)
  have hpos : 0 < H.length := List.length_pos_iff.mpr hne
  obtain ⟨a, d1, e1, ok1⟩ := next_spec hb.1
  rw [h.orders (by omega), bind_ok, orders_rows hH h1, ob_some, e1, bind_ok, bind_ok, orders_rows hH h1, ob_some]
  dsimp only
  obtain ⟨a0, a1⟩ := emod_bd a (b := (H.length : Int)) (by omega)
  rw [List.length_mergeSort, modI_of (by omega), ob_some]
  generalize a % (H.length : Int) = a at *
  have hi : a.toNat < (H.mergeSort leL).length := by rw [List.length_mergeSort]; omega
  rw [at_of a0 (by rw [List.length_mergeSort]; exact a1), ob_some]
  generalize hz : (H.mergeSort leL)[a.toNat] = z
  have hm : z ∈ H := (List.Perm.mem_iff pm).mp (by rw [← hz]; exact List.getElem_mem hi)
  have hzo := hH z hm
  obtain ⟨s1, f1, st1, D, g1, g2⟩ := h.drop hzo hm h1 h2 (by omega)
  rw [f1, bind_ok]
  obtain ⟨b2, d2, e2, ok2⟩ := next_spec ok1
  rw [e2, bind_ok]
  dsimp only
  refine sat_ite (fun _ => ?_) fun _ => ?_
  · obtain ⟨s2, f2, st2⟩ := st1.undrop g1 g2 hm hzo (by omega)
    rw [f2, bind_ok]
    exact sat_ok ⟨rfl, ok2, st2.mono (by omega)⟩
  · have hle := List.length_erase_le (a := z) (l := H)
    obtain ⟨s2, f2, c1, c2⟩ := st1.come hzo h1 h2 (by omega) (by omega)
    have hn := sp.near nd hm
    rw [f2, bind_ok, hn]
    exact sat_ok ⟨rfl, ok2, ((c1 hn).1.to (List.perm_append_comm.trans (List.perm_cons_erase hm).symm)).mono (by omega)⟩
end K76
set_option maxRecDepth 100000
namespace K76
open PySem VL VP TM D PySem.SeqAt PySem.W.Datum
open L2 (atI ixN)
variable {n d k : Nat} {w : Way} {o t x : List Int} {H H' L held held' : List (List Int)} {s : Ls} {dk : List Int}
def Lp (w : Way) (n : Nat) (H : List (List Int)) : Option Int → Prop
  | none => ∀ x ∈ H, ∀ y ∈ H, x = y
  | some v => (∃ x ∈ H, ∃ y ∈ H, x ≠ y ∧ v = (far w n x y : Nat)) ∧ ∀ x ∈ H, ∀ y ∈ H, x ≠ y → v ≤ (far w n x y : Nat)
theorem least_ok (h : LOk w n d s) (nd : s.held.Nodup) (h1 : 1 ≤ n) (h2 : n ≤ 12) (hl : s.held.length ≤ 200) : ∃ r, m_Lister_least_apart s = .ok r ∧ Lp w n s.held r := by
  unfold m_Lister_least_apart
  have hb : big = 1000000 := rfl
  rw [h.way]
  have key := sat_foldM (mb := fun (s9 : (List Int)) (x10 : (Int × (List Int))) =>
    R.bind (lcM (fun (x11 : (List Int)) => R.calm (R.bind (m_far_by (wS w) x10.2 x11) fun v12 =>
    .ok (some v12))) ((cutD s.held none (some x10.1))) []) fun ys13 =>
    ob (addL s9 ys13) fun v14 =>
    R.ok v14) (fun k acc => acc.length ≤ k * 200 ∧ (∀ a ∈ acc, ∃ i j : Nat, ∃ (hi : i < s.held.length) (hj : j < s.held.length), j < i ∧ a = (far w n s.held[i] s.held[j] : Nat)) ∧ ∀ i j : Nat, ∀ (hi : i < s.held.length) (hj : j < s.held.length), i < k → j < i → ((far w n s.held[i] s.held[j] : Nat) : Int) ∈ acc) (enumT 0 s.held) 0 [] ⟨by simp, (fun a ha => nomatch ha), fun i j _ _ h _ => absurd h (by omega)⟩ fun i acc hi hacc => by
      obtain ⟨hacc, ha1, ha2⟩ := hacc
      rw [enumT_len] at hi
      rw [enumT_get]
      dsimp only
      rw [Nat.zero_add] at hacc ha2 ⊢
      rw [cut_take _ (by omega)]
      have hle : (s.held.take ((i : Nat) : Int).toNat).length ≤ 200 := Nat.le_trans (List.length_take_le _ _) (by omega)
      rw [lcM_map (step := fun (x11 : (List Int)) => R.bind (m_far_by (wS w) (s.held[i]) x11) fun v12 => .ok (some v12)) (fun x => ((far w n (s.held[i]) x : Nat) : Int)) (by omega) (fun x hx => by
        rw [far_by_ok w (h.ord _ (List.getElem_mem _)) (h.ord _ (List.mem_of_mem_take hx)) h1 (by omega)]; rfl), bind_ok, addL_of (by rw [List.length_map]; omega), ob_some]
      refine sat_ok ⟨?_, fun a ha => ?_, fun p q hp hq h3 h4 => ?_⟩
      · rw [List.length_append, List.length_map]
        omega
      · rcases List.mem_append.mp ha with ha | ha
        · exact ha1 a ha
        · obtain ⟨x, hx, rfl⟩ := List.mem_map.mp ha
          obtain ⟨j, hj, e⟩ := List.mem_iff_getElem.mp hx
          rw [List.length_take] at hj
          have hj' : j < i ∧ j < s.held.length := by rw [Int.toNat_natCast] at hj; omega
          refine ⟨i, j, hi, hj'.2, hj'.1, ?_⟩
          rw [← e, List.getElem_take]
      · rw [List.mem_append]
        by_cases z : p < i
        · exact .inl (ha2 p q hp hq z h4)
        · have : p = i := by omega
          subst this
          refine .inr (List.mem_map.mpr ⟨s.held[q], ?_, rfl⟩)
          rw [Int.toNat_natCast]
          exact List.mem_iff_getElem.mpr ⟨q, by rw [List.length_take]; omega, by rw [List.getElem_take]⟩
  obtain ⟨acc, e1, e2, e3, e4⟩ := key
  rw [enumT_len] at e4
  have all : ∀ x ∈ s.held, ∀ y ∈ s.held, x ≠ y → ((far w n x y : Nat) : Int) ∈ acc := fun x hx y hy hne => by
    obtain ⟨i, hi, rfl⟩ := List.mem_iff_getElem.mp hx
    obtain ⟨j, hj, rfl⟩ := List.mem_iff_getElem.mp hy
    rcases Nat.lt_trichotomy i j with z | z | z
    · rw [far_comm]; exact e4 j i hj hi (by omega) z
    · subst z; exact absurd rfl hne
    · exact e4 i j hi hj (by omega) z
  have some_ : ∀ a ∈ acc, ∃ x ∈ s.held, ∃ y ∈ s.held, x ≠ y ∧ a = (far w n x y : Nat) := fun a ha => by
    obtain ⟨i, j, hi, hj, z, e⟩ := e3 a ha
    exact ⟨_, List.getElem_mem hi, _, List.getElem_mem hj, fun q => by
      have := (List.getElem_inj nd).mp q
      omega, e⟩
  rw [e1, bind_ok]
  by_cases q : acc = []
  · rw [decide_eq_true q, if_neg (by decide)]
    refine ⟨_, rfl, fun x hx y hy => Classical.byContradiction fun z => ?_⟩
    have := all x hx y hy z
    rw [q] at this
    cases this
  · rw [decide_eq_false q, if_pos (by rfl)]
    obtain ⟨m, hm, km⟩ : ∃ m ∈ acc, ∀ y ∈ acc, m ≤ y := by
      clear all some_ e4 e3 e2 e1
      induction acc with
      | nil => exact absurd rfl q
      | cons a r ih =>
        by_cases hr : r = []
        · subst hr
          exact ⟨a, List.mem_cons_self, fun y hy => by rw [List.mem_singleton] at hy; omega⟩
        · obtain ⟨m, hm, km⟩ := ih hr
          by_cases z : a ≤ m
          · refine ⟨a, List.mem_cons_self, fun y hy => ?_⟩
            rcases List.mem_cons.mp hy with rfl | hy
            · omega
            · have := km y hy; omega
          · refine ⟨m, List.mem_cons_of_mem _ hm, fun y hy => ?_⟩
            rcases List.mem_cons.mp hy with rfl | hy
            · omega
            · exact km y hy
    rw [minL_of hm km]
    exact ⟨_, rfl, some_ m hm, fun x hx y hy hne => km _ (all x hx y hy hne)⟩
theorem Lp.same {f : List Int → List Int} (kf : Alk w n f) (hH : ∀ x ∈ H, IsOrd n x) (p : H'.Perm (H.map f)) {r r' : Option Int} (a : Lp w n H r) (b : Lp w n H' r') : r' = r := by
  have to : ∀ x ∈ H, f x ∈ H' := fun x hx => (List.Perm.mem_iff p).mpr (List.mem_map.mpr ⟨x, hx, rfl⟩)
  have fro : ∀ y ∈ H', ∃ x ∈ H, f x = y := fun y hy => List.mem_map.mp ((List.Perm.mem_iff p).mp hy)
  have nef : ∀ x ∈ H, ∀ y ∈ H, x ≠ y → f x ≠ f y := fun x hx y hy hne e => hne (kf.inj x y (hH x hx) (hH y hy) e)
  cases r with
  | none =>
    cases r' with
    | none => rfl
    | some v' =>
      obtain ⟨⟨x, hx, y, hy, hne, _⟩, _⟩ := b
      obtain ⟨u, hu, rfl⟩ := fro x hx
      obtain ⟨z, hz, rfl⟩ := fro y hy
      exact absurd (by rw [a u hu z hz]) hne
  | some v =>
    obtain ⟨⟨x, hx, y, hy, hne, e⟩, kk⟩ := a
    cases r' with
    | none => exact absurd (b _ (to x hx) _ (to y hy)) (nef x hx y hy hne)
    | some v' =>
      obtain ⟨⟨x', hx', y', hy', hne', e'⟩, kk'⟩ := b
      obtain ⟨u, hu, rfl⟩ := fro x' hx'
      obtain ⟨z, hz, rfl⟩ := fro y' hy'
      have g1 := kk u hu z hz (fun q => hne' (by rw [q]))
      have g2 := kk' _ (to x hx) _ (to y hy) (nef x hx y hy hne)
      rw [kf.far u z (hH u hu) (hH z hz)] at e'
      rw [kf.far x y (hH x hx) (hH y hy)] at g2
      congr 1
      omega
end K76
set_option maxRecDepth 100000
set_option maxHeartbeats 0
namespace K76
open PySem VL VP TM D PySem.SeqAt PySem.W.Datum
open L2 (atI ixN)
variable {n d : Nat} {w : Way} {o : List Int} {H H' held held' : List (List Int)} {s : Ls} {A : List (List (List Int))} {t : List Int} {dk : List Int}
abbrev S5 := List Int × Ls × Ls × Ls × Ls
def J5 (w : Way) (n d : Nat) (t : List Int) (i : Nat) (st : S5) : Prop := NxOk st.1 ∧ ∃ H : List (List Int), H.length ≤ i ∧ (∀ x ∈ H, IsOrd n x) ∧ H.Nodup ∧ Spc w n d H ∧ Std w n d st.2.1 H (4 * i) ∧ Std w n d st.2.2.1 (H.map (beh n t)) (4 * i) ∧ Std w n d st.2.2.2.1 (H.map List.reverse) (4 * i) ∧ Std w n d st.2.2.2.2 H (4 * i)
theorem sort_nil {l : List (List Int)} {f : List Int → List Int} : (l.map f).mergeSort leL = [] ↔ l = [] := by
  constructor
  · intro h
    have := congrArg List.length h
    rw [List.length_mergeSort, List.length_map] at this
    exact List.eq_nil_of_length_eq_zero this
  · intro h; subst h; simp
theorem near_len : (nearL w n d H o).length ≤ H.length := by
  unfold nearL
  rw [List.length_mergeSort]
  exact List.length_filter_le _ _
theorem left : ∀ ns : List Int, ns.length ≤ 63 → ∃ e, h_law [.sc ns] = some (.ret (.fr (.bool true)) e) := fun ns hns => by
  refine law_of (sim_law ns) ?_
  unfold m_law
  refine sat_out (I := fun _ => True) ?_ fun _ _ => sat_ok rfl
  have hk : max2 ((1 : Int)) ((min2 ((ns.length : Int)) ((3 : Int)))) = ((max 1 (min ns.length 3) : Nat) : Int) := by
    unfold max2 min2
    split <;> split <;> omega
  rw [hk, rg1_nat (by omega), ob_some]
  refine sat_loop (fun _ => True) trivial fun s x hx _ => ?_
  obtain ⟨k, hk, rfl⟩ := mem_iotaN hx
  refine sat_bind (Q := fun _ => True) ?_ fun c _ => ?_
  · unfold m__law_cell_at
    refine sat_ite (fun h => ?_) fun _ => sat_ok trivial
    rw [at_nat (by have := of_decide_eq_true h; omega), ob_some]
    exact sat_ok trivial
  refine sat_bind (deck_ok c) fun d0 ok0 => ?_
  obtain ⟨a, d1, e1, ok1⟩ := next_spec ok0
  rw [e1, bind_ok]
  dsimp only
  obtain ⟨a0, a1⟩ := emod_bd a (b := 3) (by decide)
  generalize a % 3 = a at *
  obtain ⟨w, hw⟩ : ∃ w : Way, atI ([("swap" : Str), ("spot" : Str), ("shift" : Str)]) a = some (wS w) := by
    have : a = 0 ∨ a = 1 ∨ a = 2 := by omega
    rcases this with rfl | rfl | rfl
    · exact ⟨.swap, rfl⟩
    · exact ⟨.spot, rfl⟩
    · exact ⟨.shift, rfl⟩
  rw [hw, ob_some]
  obtain ⟨b, d2, e2, ok2⟩ := next_spec ok1
  rw [e2, bind_ok]
  dsimp only
  obtain ⟨b0, b1⟩ := emod_bd b (b := 7) (by decide)
  obtain ⟨n, hn, h1, h2⟩ : ∃ n : Nat, (2 : Int) + b % 7 = (n : Int) ∧ 2 ≤ n ∧ n ≤ 8 := ⟨(2 + b % 7).toNat, by rw [Int.toNat_of_nonneg (by omega)], by omega, by omega⟩
  rw [hn]
  obtain ⟨e, d3, e3, ok3⟩ := next_spec ok2
  rw [e3, bind_ok]
  dsimp only
  obtain ⟨e0, e1'⟩ := emod_bd e (b := 5) (by decide)
  obtain ⟨d, hd, g1, g2⟩ : ∃ d : Nat, (1 : Int) + e % 5 = (d : Int) ∧ 1 ≤ d ∧ d ≤ 5 := ⟨(1 + e % 5).toNat, by rw [Int.toNat_of_nonneg (by omega)], by omega, by omega⟩
  rw [hd]
  refine sat_bind (order_ok ok3 (by omega) (by omega)) fun tt ⟨ht, ok4⟩ => ?_
  obtain ⟨t, d4⟩ := tt
  dsimp only at ht ok4 ⊢
  have n1 : 1 ≤ n := by omega
  have n2 : n ≤ 12 := by omega
  have hb : big = 1000000 := rfl
  rw [show rg1 (4 : Int) = some (iota 4) from rg1_nat (n := 4) (by decide), ob_some, lcM_map (step := fun (x261 : Int) => R.bind (m_Lister___init__ (wS w) (n : Int) (d : Int)) fun v262 => .ok (some v262.2)) (fun _ => ⟨wS w, n, d, [], []⟩) (by rw [iota_len]; omega) (fun x _ => by rw [init_ok n1 h2 g1, bind_ok]), bind_ok]
  show Sat (R.bind (R.bind (m__law_next d4) _) _) _
  have alb := alk_beh (w := w) ht
  have alr := alk_rev (w := w) (n := n)
  refine sat_outF (I := J5 w n d t 14) ?_ fun st hst => ?_
  · obtain ⟨z, d5, e5, ok5⟩ := next_spec ok4
    rw [e5, bind_ok]
    dsimp only
    obtain ⟨z0, z1⟩ := emod_bd z (b := 14) (by decide)
    obtain ⟨m, hm, m1, m2⟩ : ∃ m : Nat, (1 : Int) + z % 14 = (m : Int) ∧ 1 ≤ m ∧ m ≤ 14 := ⟨(1 + z % 14).toNat, by rw [Int.toNat_of_nonneg (by omega)], by omega, by omega⟩
    rw [hm, rg1_nat (by omega), ob_some]
    refine (sat_loopI (J5 w n d t) (iota m) 0 (d5, ⟨wS w, n, d, [], []⟩, ⟨wS w, n, d, [], []⟩, ⟨wS w, n, d, [], []⟩, ⟨wS w, n, d, [], []⟩) ⟨ok5, [], by simp, fun x hx => (nomatch hx), List.nodup_nil, fun x hx => (nomatch hx), std_init, std_init, std_init, std_init⟩ fun i st hi hst => ?_).mono fun r ⟨st', hr, k1, H, k2, k3, k4, k5, k6, k7, k8, k9⟩ => ⟨st', hr, k1, H, by rw [iota_len] at k2; omega, k3, k4, k5, k6.mono (by rw [iota_len]; omega), k7.mono (by rw [iota_len]; omega), k8.mono (by rw [iota_len]; omega), k9.mono (by rw [iota_len]; omega)⟩
    obtain ⟨dk, p, c, b, y⟩ := st
    obtain ⟨okd, H, hl, hH, nd, sp, sp1, sp2, sp3, sp4⟩ := hst
    rw [iota_len] at hi
    rw [Nat.zero_add] at hl sp1 sp2 sp3 sp4 ⊢
    dsimp only at okd sp1 sp2 sp3 sp4 ⊢
    have pm : (H.mergeSort leL).Perm H := List.mergeSort_perm _ _
    rw [sp1.orders (by omega), bind_ok, orders_rows hH n1, ob_some]
    refine sat_bind (free_ok okd (fun x hx => hH x ((List.Perm.mem_iff pm).mp hx)) (by rw [List.length_mergeSort]; omega) n1 n2) fun r ⟨ho, ok6⟩ => ?_
    obtain ⟨o, d6⟩ := r
    dsimp only at ho ok6 ⊢
    obtain ⟨p', f1, a1, a2⟩ := sp1.come ho n1 n2 (by omega) (by omega)
    have hnl := near_len (w := w) (n := n) (d := d) (H := H) (o := o)
    have hno : ∀ x ∈ nearL w n d H o, IsOrd n x := fun x hx => hH x (near_mem.mp hx).1
    rw [f1, bind_ok]
    dsimp only
    rw [told_ok ho hH nd (by omega) n1 n2, bind_ok, if_neg (by decide), names_ok ho ht n2, bind_ok]
    obtain ⟨c', f2, b1, b2⟩ := sp2.come (beh_ord ht ho) n1 n2 (by rw [List.length_map]; omega) (by omega)
    have q1 : nearL w n d (H.map (beh n t)) (beh n t o) = ((nearL w n d H o).map (beh n t)).mergeSort leL := alb.near hH ho (.refl _)
    rw [f2, bind_ok, turned_ok (by omega) hno ht n2, bind_ok]
    dsimp only
    rw [q1, decide_eq_true rfl, if_neg (by decide)]
    obtain ⟨b', f3, c1, c2⟩ := sp3.come (rev_ord ho) n1 n2 (by rw [List.length_map]; omega) (by omega)
    have q2 : nearL w n d (H.map List.reverse) o.reverse = ((nearL w n d H o).map fun x => x.reverse).mergeSort leL := alr.near hH ho (.refl _)
    rw [f3, bind_ok, lcP_map _ (by omega), ob_some]
    dsimp only
    rw [q2, decide_eq_true rfl, if_neg (by decide)]
    have hoH : nearL w n d H o = [] → o ∉ H := fun q z => by
      have : o ∈ nearL w n d H o := near_mem.mpr ⟨z, by rw [far_self ho]; omega⟩
      rw [q] at this
      cases this
    have hord : ∀ x ∈ H ++ [o], IsOrd n x := fun x hx => by
      rcases List.mem_append.mp hx with hx | hx
      · exact hH x hx
      · rw [List.mem_singleton] at hx; subst hx; exact ho
    refine sat_bind (Q := fun z => z.1 = false ∧ NxOk z.2.1 ∧ (nearL w n d H o = [] → Std w n d z.2.2 (H ++ [o]) (4 * i + 3) ∧ ∃ D, z.2.2.deeds = D ++ [(true, o)] ∧ D.length ≤ 4 * i + 2) ∧ (nearL w n d H o ≠ [] → Std w n d z.2.2 H (4 * i + 2))) ?_ fun zz hz => ?_
    · refine sat_bind (dropped_ok ok6 sp4 hH nd sp (by omega) (by omega) n1 n2) fun z ⟨z1, z2, z3⟩ => ?_
      obtain ⟨y', f4, g1, g2⟩ := z3.come ho n1 n2 (by omega) (by omega)
      rw [z1, if_neg (by decide), f4, bind_ok]
      dsimp only
      rw [decide_eq_true rfl, if_neg (by decide)]
      by_cases q : nearL w n d H o = []
      · rw [(g1 q).1.orders (by rw [List.length_append, List.length_singleton]; omega), bind_ok, orders_rows hord n1, ob_some, (a1 q).1.orders (by rw [List.length_append, List.length_singleton]; omega), bind_ok, orders_rows hord n1, ob_some, decide_eq_true rfl]
        exact sat_ok ⟨rfl, z2, fun _ => g1 q, fun h => absurd q h⟩
      · rw [g2 q, a2 q, z3.orders (by omega), bind_ok, orders_rows hH n1, ob_some, sp1.orders (by omega), bind_ok, orders_rows hH n1, ob_some, decide_eq_true rfl]
        exact sat_ok ⟨rfl, z2, fun h => absurd h q, fun _ => z3⟩
    obtain ⟨z1, z2, z3, z4⟩ := hz
    rw [z1, if_neg (by decide)]
    refine sat_outF (I := fun s => NxOk s.1 ∧ (nearL w n d H o = [] → Std w n d s.2 (H ++ [o]) (4 * (i + 1))) ∧ (nearL w n d H o ≠ [] → Std w n d s.2 H (4 * (i + 1)))) ?_ fun s hs => ?_
    · by_cases q : nearL w n d H o = []
      · obtain ⟨v, d7, f5, ok7⟩ := next_spec z2
        rw [decide_eq_true q, if_pos rfl, f5, bind_ok, bind_ok]
        dsimp only
        obtain ⟨st4, D, u1, u2⟩ := z3 q
        refine sat_ite (fun _ => ?_) fun _ => sat_ok ⟨_, rfl, ok7, fun _ => st4.mono (by omega), fun h => absurd q h⟩
        obtain ⟨s5, f6, st5⟩ := Std.undo (k := 4 * i + 2) st4 u1 u2 (hoH q)
        obtain ⟨s6, f7, v1, v2⟩ := st5.come ho n1 n2 (by omega) (by omega)
        rw [f6, bind_ok]
        dsimp only
        rw [st5.orders (by omega), bind_ok, orders_rows hH n1, ob_some, decide_eq_true rfl, if_neg (by decide), f7, bind_ok, bind_ok]
        dsimp only
        rw [q, decide_eq_true rfl, if_neg (by decide)]
        exact sat_ok ⟨_, rfl, ok7, fun _ => (v1 q).1.mono (by omega), fun h => absurd rfl h⟩
      · rw [decide_eq_false q, if_neg (by decide), bind_ok]
        dsimp only
        rw [if_neg (by decide)]
        exact sat_ok ⟨_, rfl, z2, fun h => absurd h q, fun _ => (z4 q).mono (by omega)⟩
    · obtain ⟨s1, s2, s3⟩ := hs
      refine sat_ok ⟨_, rfl, s1, ?_⟩
      by_cases q : nearL w n d H o = []
      · refine ⟨H ++ [o], by rw [List.length_append, List.length_singleton]; omega, hord, List.nodup_append.mpr ⟨nd, by simp, fun a ha b hb e => by rw [List.mem_singleton] at hb; subst hb; subst e; exact hoH q ha⟩, fun x hx y hy hne => ?_, (a1 q).1.mono (by omega), ((b1 (by rw [q1]; exact sort_nil.mpr q)).1.to (by rw [List.map_append]; exact .refl _)).mono (by omega), ((c1 (by rw [q2]; exact sort_nil.mpr q)).1.to (by rw [List.map_append]; exact .refl _)).mono (by omega), s2 q⟩
        have far_o : ∀ x ∈ H, d ≤ far w n x o := fun x hx => Nat.le_of_not_lt fun z => by
          have : x ∈ nearL w n d H o := near_mem.mpr ⟨hx, z⟩
          rw [q] at this
          cases this
        rcases List.mem_append.mp hx with hx1 | hx1 <;> rcases List.mem_append.mp hy with hy1 | hy1
        · exact sp x hx1 y hy1 hne
        · rw [List.mem_singleton] at hy1; rw [hy1]; exact far_o x hx1
        · rw [List.mem_singleton] at hx1; rw [hx1, far_comm]; exact far_o y hy1
        · rw [List.mem_singleton] at hx1 hy1; exact absurd (hx1.trans hy1.symm) hne
      · refine ⟨H, by omega, hH, nd, sp, by rw [a2 q]; exact sp1.mono (by omega), by rw [b2 (by rw [q1]; exact fun z => q (sort_nil.mp z))]; exact sp2.mono (by omega), by rw [c2 (by rw [q2]; exact fun z => q (sort_nil.mp z))]; exact sp3.mono (by omega), s3 q⟩
  · obtain ⟨dk, p, c, b, y⟩ := st
    obtain ⟨okd, H, hl, hH, nd, sp, sp1, sp2, sp3, sp4⟩ := hst
    dsimp only at okd sp1 sp2 sp3 sp4 ⊢
    have pm : (H.mergeSort leL).Perm H := List.mergeSort_perm _ _
    have oc : ∀ x ∈ H.map (beh n t), IsOrd n x := fun x hx => by
      obtain ⟨u, hu, rfl⟩ := List.mem_map.mp hx
      exact alb.ord u (hH u hu)
    have or_ : ∀ x ∈ H.map List.reverse, IsOrd n x := fun x hx => by
      obtain ⟨u, hu, rfl⟩ := List.mem_map.mp hx
      exact alr.ord u (hH u hu)
    rw [sp1.orders (by omega), bind_ok, orders_rows hH n1, ob_some]
    rw [sp2.orders (by rw [List.length_map]; omega), bind_ok, orders_rows oc n1, ob_some, turned_ok (by rw [List.length_mergeSort]; omega) (fun x hx => hH x ((List.Perm.mem_iff pm).mp hx)) ht n2, bind_ok,
      show (H.map (beh n t)).mergeSort leL = ((H.mergeSort leL).map (beh n t)).mergeSort leL from alb.orders (.refl _), decide_eq_true rfl, if_neg (by decide),
      sp3.orders (by rw [List.length_map]; omega), bind_ok, orders_rows or_ n1, ob_some, lcP_map _ (by rw [List.length_mergeSort]; omega), ob_some,
      show (H.map List.reverse).mergeSort leL = ((H.mergeSort leL).map fun x => x.reverse).mergeSort leL from alr.orders (.refl _), decide_eq_true rfl, bind_ok, if_neg (by decide)]
    have idd : Alk w n (fun x => x) := ⟨fun _ h => h, fun _ _ _ _ => rfl⟩
    have inj_nd : ∀ {f : List Int → List Int}, Alk w n f → (H.map f).Nodup := fun {f} kf => List.pairwise_map.mpr (List.Pairwise.imp_of_mem (fun {x y} hx hy hne e => hne (kf.inj x y (hH x hx) (hH y hy) e)) nd)
    obtain ⟨r1, l1, m1⟩ := least_ok sp1.ok (sp1.perm.nodup_iff.mpr nd) n1 n2 (by rw [sp1.perm.length_eq]; omega)
    obtain ⟨r2, l2, m2⟩ := least_ok sp2.ok (sp2.perm.nodup_iff.mpr (inj_nd alb)) n1 n2 (by rw [sp2.perm.length_eq, List.length_map]; omega)
    obtain ⟨r3, l3, m3⟩ := least_ok sp3.ok (sp3.perm.nodup_iff.mpr (inj_nd alr)) n1 n2 (by rw [sp3.perm.length_eq, List.length_map]; omega)
    obtain ⟨r4, l4, m4⟩ := least_ok sp4.ok (sp4.perm.nodup_iff.mpr nd) n1 n2 (by rw [sp4.perm.length_eq]; omega)
    have hp : ∀ x ∈ p.held, IsOrd n x := sp1.ok.ord
    have x2 : r2 = r1 := Lp.same alb hp (sp2.perm.trans (sp1.perm.symm.map _)) m1 m2
    have x3 : r3 = r1 := Lp.same alr hp (sp3.perm.trans (sp1.perm.symm.map _)) m1 m3
    have x4 : r4 = r1 := Lp.same idd hp (by rw [List.map_id']; exact sp4.perm.trans sp1.perm.symm) m1 m4
    rw [l1, bind_ok, l2, l3, l4, x2, x3, x4]
    rw [show R.calm (R.ok r1) = R.ok r1 from rfl, bind_ok, bind_ok, bind_ok]
    rw [show mulL [r1] (3 : Int) = some [r1, r1, r1] from by unfold mulL; rw [if_pos ⟨by decide, by rw [List.length_singleton]; unfold big; decide⟩]; rfl, ob_some, decide_eq_true rfl, if_neg (by decide)]
    cases r1 with
    | none => exact sat_ok ⟨_, rfl, trivial⟩
    | some v =>
      obtain ⟨⟨x, hx, y', hy, hne, e⟩, _⟩ := m1
      have := sp x ((List.Perm.mem_iff sp1.perm).mp hx) y' ((List.Perm.mem_iff sp1.perm).mp hy) hne
      show Sat (R.bind (R.bind (R.ok (decide (v < (d : Int)))) _) _) _
      rw [decide_eq_false (by omega : ¬ v < (d : Int))]
      exact sat_ok ⟨_, rfl, trivial⟩
end K76
set_option maxRecDepth 100000
set_option maxHeartbeats 0
namespace K76
open PySem PySem.Spec PyProof.Rows L2 VL VP
section
variable {P : Program} {w : World} {K : PySem.W.Frag} {mg : Str → Option Value} {base : Heap}
theorem ok_is_whole {a : Addr} {fd : FuncData} (F : FunD K "is_whole" "is_whole" (defArgs s_is_whole) (defBody s_is_whole) (defScope s_is_whole) [] [] a fd) (gm : mg "is_whole" = some (.ref a)) (z : Fc K mg)  : CalK P w K mg base (rhoI mg) "is_whole" 1 [] h_is_whole 2 :=
  cal_mk (N := ["thing"]) (ps := ["thing"]) (k := 1) (g := b_is_whole) [] F gm ⟨rfl, rfl, rfl, by decide +kernel, rfl, by decide +kernel, by decide +kernel⟩ (by decide) (fun _ _ _ _ _ _ us hl => match us, hl with | [_], _ => rfl) (fun cdv A outer s H E hr V0 => by
    exact
  (vss_one (vs_retO (ve_and (ve_isi .int (ve_var 0) z.f_isinstance z.f_int b_int) (ve_one (ve_not (ve_isi .bool (ve_var 0) z.f_isinstance z.f_bool b_bool))))))) (by decide)
theorem ok_need_way {a : Addr} {fd : FuncData} (F : FunD K "need_way" "need_way" (defArgs s_need_way) (defBody s_need_way) (defScope s_need_way) [] [] a fd) (gm : mg "need_way" = some (.ref a)) (z : Fc K mg)  : CalK P w K mg base (rhoI mg) "need_way" 1 [] h_need_way 2 :=
  cal_mk (N := ["way"]) (ps := ["way"]) (k := 1) (g := b_need_way) [] F gm ⟨rfl, rfl, rfl, by decide +kernel, rfl, by decide +kernel, by decide +kernel⟩ (by decide) (fun _ _ _ _ _ _ us hl => match us, hl with | [_], _ => rfl) (fun cdv A outer s H E hr V0 => by
    exact
  (vss_one (vs_if (VW.vt (vw_or (vt_not (vt_of (fun _ => rfl) (ve_isi .str (ve_var 0) z.f_isinstance z.f_str b_str))) (vw_or1 (vt_notInT (ve_var 0) z.t_WAYS)))) (vss_one (vs_raise V0 z.x_NoWay)) vss_nil))) (by decide)
theorem ok_Lister___init__ {fd : FuncData} (F : FunD K "__init__" "Lister.__init__" (defArgs s_Lister___init__) (defBody s_Lister___init__) (defScope s_Lister___init__) [] [] (He.ma K (He.ga K "Lister") "__init__") fd) (z : Fc K mg) (c_is_whole : CalK P w K mg base (rhoI mg) "is_whole" 1 [] h_is_whole 2) (c_need_way : CalK P w K mg base (rhoI mg) "need_way" 1 [] h_need_way 2) : CalI P w K mg base (rhoI mg) "Lister" 3 h_Lister___init__ 3 :=
  cali_mk (N := ["self", "way", "n", "d"]) (ps := ["self", "way", "n", "d"]) (k := 2) (n := 3) (g := b_Lister___init__) z.c_Lister z.k_Lister F ⟨rfl, rfl, rfl, by decide +kernel, rfl, by decide +kernel, by decide +kernel⟩ (by decide) rfl (fun _ _ _ _ _ _ us hl => match us, hl with | [_, _, _, _], _ => rfl) (fun cdv A outer s H E hr V0 => by
    exact
  (vss_cons (vs_expr (ve_callP V0 c_need_way.c (hr.mono (by decide)) (va_P (ve_var 1) va_nil)))
  (vss_cons (vs_if (VW.vt (vw_or (vt_not (vt_of (fun _ => rfl) (ve_callP V0 c_is_whole.c (hr.mono (by decide)) (va_P (ve_var 2) va_nil)))) (vw_or (vt_not (vt_chain v_le v_le ve_int (ve_var 2) (ve_gint z.i_MOST_THINGS_KEPT))) (vw_or (vt_not (vt_of (fun _ => rfl) (ve_callP V0 c_is_whole.c (hr.mono (by decide)) (va_P (ve_var 3) va_nil)))) (vw_or1 (vt_cmp v_lt (ve_var 3) ve_int)))))) (vss_one (vs_raise V0 z.x_NoNumber)) vss_nil)
  (vss_cons (vs_fldset 0 z.n_Lister_way (ve_var 1))
  (vss_cons (vs_fldset 0 z.n_Lister_things (ve_var 2))
  (vss_cons (vs_fldset 0 z.n_Lister_far (ve_var 3))
  (vss_cons (vs_fldset 0 z.n_Lister_held (ve_lst vd_nil))
  (vss_one (vs_fldset 0 z.n_Lister_deeds (ve_lst vd_nil)))))))))) (by decide)
theorem ok_turned_back {a : Addr} {fd : FuncData} (F : FunD K "turned_back" "turned_back" (defArgs s_turned_back) (defBody s_turned_back) (defScope s_turned_back) [] [] a fd) (gm : mg "turned_back" = some (.ref a)) (z : Fc K mg)  : CalK P w K mg base (rhoI mg) "turned_back" 1 [] h_turned_back 2 :=
  cal_mk (N := ["order", "found", "place", "thing"]) (ps := ["order"]) (k := 1) (g := b_turned_back) [] F gm ⟨rfl, rfl, rfl, by decide +kernel, rfl, by decide +kernel, by decide +kernel⟩ (by decide) (fun _ _ _ _ _ _ us hl => match us, hl with | [_], _ => rfl) (fun cdv A outer s H E hr V0 => by
    exact
  (vss_cons (vs_own V0.nd 1 (ve_op v_mul (ve_lst (vd_cons ve_int vd_nil)) (ve_cb (v_len) z.f_len b_len (va_cons (ve_var 0) va_nil))))
  (vss_cons (vs_for V0 [2, 3] (vi_enum z.f_enumerate (ve_var 0)) (vg_t2 V0.nd V0.calm 2 3) (vss_one (vs_put 1 (ve_var 3) (ve_var 2))))
  (vss_one (vs_retO (ve_var 1)))))) (by decide)
theorem ok_far_by {a : Addr} {fd : FuncData} (F : FunD K "far_by" "far_by" (defArgs s_far_by) (defBody s_far_by) (defScope s_far_by) [] [] a fd) (gm : mg "far_by" = some (.ref a)) (z : Fc K mg) (c_turned_back : CalK P w K mg base (rhoI mg) "turned_back" 1 [] h_turned_back 2) : CalK P w K mg base (rhoI mg) "far_by" 3 [] h_far_by 3 :=
  cal_mk (N := ["way", "one", "other", "here", "there", "many", "thing", "less", "p", "q"]) (ps := ["way", "one", "other"]) (k := 2) (g := b_far_by) [] F gm ⟨rfl, rfl, rfl, by decide +kernel, rfl, by decide +kernel, by decide +kernel⟩ (by decide) (fun _ _ _ _ _ _ us hl => match us, hl with | [_, _, _], _ => rfl) (fun cdv A outer s H E hr V0 => by
    exact
  (vss_cons (vs_if (vt_cmp (v_eq (by have := V0.room.un; omega)) (ve_var 0) ve_str) (vss_one (vs_retO (ve_cb (v_len) z.f_len b_len (va_cons (ve_lc V0 [("p", 8)] (t := (gName 8)) (vi_range1 z.f_range (ve_cb (v_len) z.f_len b_len (va_cons (ve_var 1) va_nil))) (by kernel_rfl) (fun _ _ _ _ _ => pg_name V0.nd rfl (Or.inl rfl)) (sg_name (by decide)) (wg_name (by decide)) (fun s H C cl fp V0 => (vc_if (vt_cmp (v_ne (by have := V0.room.un; omega)) (ve_ix (ve_var 1) (ve_var 8)) (ve_ix (ve_var 2) (ve_var 8))))) (fun s H C cl fp V0 => (ve_var 8))) va_nil)))) vss_nil)
  (vss_cons (vs_asg V0.nd 3 (ve_call (mi := []) V0 c_turned_back.c (hr.mono (by decide)) (va_F (ve_var 1) va_nil)))
  (vss_cons (vs_asg V0.nd 4 (ve_call (mi := []) V0 c_turned_back.c (hr.mono (by decide)) (va_F (ve_var 2) va_nil)))
  (vss_cons (vs_if (vt_cmp (v_eq (by have := V0.room.un; omega)) (ve_var 0) ve_str) (vss_one (vs_retO (ve_cb (v_max V0.calm) z.f_max b_max (va_cons (ve_lc V0 [("p", 8), ("q", 9)] (t := (gTup K 2 (gCons (gName 8) (gCons (gName 9) gNil)))) (vi_zip z.f_zip (ve_var 3) (ve_var 4)) (by kernel_rfl) (fun _ _ _ _ _ => pg_tup V0.calm (pgs_cons (pg_name V0.nd rfl (Or.inl rfl)) (pgs_cons (pg_name V0.nd rfl (Or.inl rfl)) pgs_nil))) (sg_t2 (by decide) (by decide)) (wg_t2 (by decide) (by decide)) (fun s H C cl fp V0 => vc_no) (fun s H C cl fp V0 => (ve_cb (v_abs) z.f_abs b_abs (va_cons (ve_op v_sub (ve_var 8) (ve_var 9)) va_nil)))) va_nil)))) vss_nil)
  (vss_cons (vs_own V0.nd 5 ve_int)
  (vss_cons (vs_for V0 [6, 7] (vi_range1 z.f_range (ve_cb (v_len) z.f_len b_len (va_cons (ve_var 1) va_nil))) (vg_name V0.nd 6) (vss_one (vs_for V0 [7] (vi_range1 z.f_range (ve_var 6)) (vg_name V0.nd 7) (vss_one (vs_if (vt_cmp (v_ne (by have := V0.room.un; omega)) (ve_cmp v_lt (ve_ix (ve_var 3) (ve_var 7)) (ve_ix (ve_var 3) (ve_var 6))) (ve_cmp v_lt (ve_ix (ve_var 4) (ve_var 7)) (ve_ix (ve_var 4) (ve_var 6)))) (vss_one (vs_aug V0 5 i_add ve_int)) vss_nil)))))
  (vss_one (vs_retO (ve_var 5)))))))))) (by decide)
theorem ok_Lister_nearer_than {fd : FuncData} (F : FunD K "nearer_than" "Lister.nearer_than" (defArgs s_Lister_nearer_than) (defBody s_Lister_nearer_than) (defScope s_Lister_nearer_than) [] [] (He.ma K (He.ga K "Lister") "nearer_than") fd) (z : Fc K mg) (c_far_by : CalK P w K mg base (rhoI mg) "far_by" 3 [] h_far_by 3) : CalN P w K mg base (rhoI mg) "Lister" "nearer_than" 2 [] h_Lister_nearer_than 4 :=
  caln_mk (N := ["self", "order", "one"]) (ps := ["self", "order"]) (k := 3) (g := b_Lister_nearer_than) [] z.c_Lister z.m_Lister_nearer_than F ⟨rfl, rfl, rfl, by decide +kernel, rfl, by decide +kernel, by decide +kernel⟩ (by decide) (fun _ _ _ _ _ _ us hl => match us, hl with | [_, _], _ => rfl) (fun cdv A outer s H E hr V0 => by
    exact
  (vss_one (vs_retO (ve_cb (v_sortedL V0.u66) z.f_sorted b_sorted (va_cons (ve_lc V0 [("one", 2)] (t := (gName 2)) (vi_seq (ve_fld 0 3 rfl z.n_Lister_held (by decide))) (by kernel_rfl) (fun _ _ _ _ _ => pg_name V0.nd rfl (Or.inl rfl)) (sg_name (by decide)) (wg_name (by decide)) (fun s H C cl fp V0 => (vc_if (vt_cmp v_lt (ve_callP V0 c_far_by.c (hr.mono (by decide)) (va_P (ve_fld 0 0 rfl z.n_Lister_way (by decide)) (va_P (ve_var 2) (va_P (ve_var 1) va_nil)))) (ve_fld 0 2 rfl z.n_Lister_far (by decide))))) (fun s H C cl fp V0 => (ve_var 2))) va_nil))))) (by decide)
theorem ok_is_order {a : Addr} {fd : FuncData} (F : FunD K "is_order" "is_order" (defArgs s_is_order) (defBody s_is_order) (defScope s_is_order) [] [] a fd) (gm : mg "is_order" = some (.ref a)) (z : Fc K mg) (c_is_whole : CalK P w K mg base (rhoI mg) "is_whole" 1 [] h_is_whole 2) : CalK P w K mg base (rhoI mg) "is_order" 1 [] h_is_order 3 :=
  cal_mk (N := ["thing", "one"]) (ps := ["thing"]) (k := 2) (g := b_is_order) [] F gm ⟨rfl, rfl, rfl, by decide +kernel, rfl, by decide +kernel, by decide +kernel⟩ (by decide) (fun _ _ _ _ _ _ us hl => match us, hl with | [_], _ => rfl) (fun cdv A outer s H E hr V0 => by
    exact
  (vss_cons (vs_if (VW.vt (vw_or (vt_not (vt_of (fun _ => rfl) (ve_isi .list (ve_var 0) z.f_isinstance z.f_list b_list))) (vw_or1 (vt_not (vt_chain v_le v_le ve_int (ve_cb (v_len) z.f_len b_len (va_cons (ve_var 0) va_nil)) (ve_gint z.i_MOST_THINGS)))))) (vss_one (vs_retO ve_bl)) vss_nil)
  (vss_cons (vs_if (vt_cmp (v_ne (by have := V0.room.un; omega)) (ve_lc V0 [("one", 1)] (t := (gName 1)) (vi_seq (ve_var 0)) (by kernel_rfl) (fun _ _ _ _ _ => pg_name V0.nd rfl (Or.inl rfl)) (sg_name (by decide)) (wg_name (by decide)) (fun s H C cl fp V0 => (vc_if (vt_not (vt_of (fun _ => rfl) (ve_callP V0 c_is_whole.c (hr.mono (by decide)) (va_P (ve_var 1) va_nil)))))) (fun s H C cl fp V0 => (ve_var 1))) (ve_lst vd_nil)) (vss_one (vs_retO ve_bl)) vss_nil)
  (vss_one (vs_retO (ve_cmp (v_eq (by have := V0.room.un; omega)) (ve_cb (v_sorted) z.f_sorted b_sorted (va_cons (ve_var 0) va_nil)) (ve_listRg1 V0.calm z.f_list z.f_range (ve_cb (v_len) z.f_len b_len (va_cons (ve_var 0) va_nil))))))))) (by decide)
theorem ok_need_order {a : Addr} {fd : FuncData} (F : FunD K "need_order" "need_order" (defArgs s_need_order) (defBody s_need_order) (defScope s_need_order) [] [] a fd) (gm : mg "need_order" = some (.ref a)) (z : Fc K mg) (c_is_order : CalK P w K mg base (rhoI mg) "is_order" 1 [] h_is_order 3) : CalK P w K mg base (rhoI mg) "need_order" 1 [] h_need_order 4 :=
  cal_mk (N := ["thing"]) (ps := ["thing"]) (k := 3) (g := b_need_order) [] F gm ⟨rfl, rfl, rfl, by decide +kernel, rfl, by decide +kernel, by decide +kernel⟩ (by decide) (fun _ _ _ _ _ _ us hl => match us, hl with | [_], _ => rfl) (fun cdv A outer s H E hr V0 => by
    exact
  (vss_one (vs_if (vt_not (vt_of (fun _ => rfl) (ve_callP V0 c_is_order.c (hr.mono (by decide)) (va_P (ve_var 0) va_nil)))) (vss_one (vs_raise V0 z.x_NoOrder)) vss_nil))) (by decide)
theorem ok_Lister_come {fd : FuncData} (F : FunD K "come" "Lister.come" (defArgs s_Lister_come) (defBody s_Lister_come) (defScope s_Lister_come) [] [] (He.ma K (He.ga K "Lister") "come") fd) (z : Fc K mg) (c_Lister_nearer_than : CalN P w K mg base (rhoI mg) "Lister" "nearer_than" 2 [] h_Lister_nearer_than 4) (c_need_order : CalK P w K mg base (rhoI mg) "need_order" 1 [] h_need_order 4) : CalN P w K mg base (rhoI mg) "Lister" "come" 2 [0] h_Lister_come 5 :=
  caln_mk (N := ["self", "order", "found", "one"]) (ps := ["self", "order"]) (k := 4) (g := b_Lister_come) [0] z.c_Lister z.m_Lister_come F ⟨rfl, rfl, rfl, by decide +kernel, rfl, by decide +kernel, by decide +kernel⟩ (by decide) (fun _ _ _ _ _ _ us hl => match us, hl with | [_, _], _ => rfl) (fun cdv A outer s H E hr V0 => by
    exact
  (vss_cons (vs_expr (ve_callP V0 c_need_order.c (hr.mono (by decide)) (va_P (ve_var 1) va_nil)))
  (vss_cons (vs_if (vt_lendS rfl (vt_cmp (v_ne (by have := V0.room.un; omega)) (ve_cb (v_len) z.f_len b_len (va_cons (ve_var 1) va_nil)) (ve_fld 0 1 rfl z.n_Lister_things (by decide)))) (vss_one (vs_raise V0 z.x_NoFit)) vss_nil)
  (vss_cons (vs_if (vt_lendS rfl (vt_cmp (v_eq (by have := V0.room.un; omega)) (ve_cb (v_len) z.f_len b_len (va_cons (ve_fld 0 3 rfl z.n_Lister_held (by decide)) va_nil)) (ve_gint z.i_MOST_HELD))) (vss_one (vs_raise V0 z.x_TooMany)) vss_nil)
  (vss_cons (vs_asg V0.nd 2 (ve_methP V0 0 rfl c_Lister_nearer_than.c (hr.mono (by decide)) (va_F (ve_var 1) va_nil)))
  (vss_cons (vs_if (vt_cmp (v_eq (by have := V0.room.un; omega)) (ve_var 2) (ve_lst vd_nil)) (vss_cons (vs_expr (ve_fmth v_append 0 z.n_Lister_held PySem.F.slot_list_append PySem.F.type_list_append (vd_cons (ve_ct v_list z.f_list b_list (va_cons (ve_var 1) va_nil)) vd_nil)))
  (vss_one (vs_expr (ve_fmth v_append 0 z.n_Lister_deeds PySem.F.slot_list_append PySem.F.type_list_append (vd_cons (ve_tup (vd_cons ve_bl (vd_cons (ve_ct v_list z.f_list b_list (va_cons (ve_var 1) va_nil)) vd_nil))) vd_nil))))) vss_nil)
  (vss_one (vs_retO (ve_lc V0 [("one", 3)] (t := (gName 3)) (vi_seq (ve_var 2)) (by kernel_rfl) (fun _ _ _ _ _ => pg_name V0.nd rfl (Or.inl rfl)) (sg_name (by decide)) (wg_name (by decide)) (fun s H C cl fp V0 => vc_no) (fun s H C cl fp V0 => (ve_ct v_list z.f_list b_list (va_cons (ve_var 3) va_nil)))))))))))) (by decide)
theorem ok_Lister_least_apart {fd : FuncData} (F : FunD K "least_apart" "Lister.least_apart" (defArgs s_Lister_least_apart) (defBody s_Lister_least_apart) (defScope s_Lister_least_apart) [] [] (He.ma K (He.ga K "Lister") "least_apart") fd) (z : Fc K mg) (c_far_by : CalK P w K mg base (rhoI mg) "far_by" 3 [] h_far_by 3) : CalN P w K mg base (rhoI mg) "Lister" "least_apart" 1 [] h_Lister_least_apart 4 :=
  caln_mk (N := ["self", "some", "at", "one", "other"]) (ps := ["self"]) (k := 3) (g := b_Lister_least_apart) [] z.c_Lister z.m_Lister_least_apart F ⟨rfl, rfl, rfl, by decide +kernel, rfl, by decide +kernel, by decide +kernel⟩ (by decide) (fun _ _ _ _ _ _ us hl => match us, hl with | [_], _ => rfl) (fun cdv A outer s H E hr V0 => by
    exact
  (vss_cons (vs_own V0.nd 1 (ve_lst vd_nil))
  (vss_cons (vs_for V0 [2, 3] (vi_enum z.f_enumerate (ve_fld 0 3 rfl z.n_Lister_held (by decide))) (vg_t2 V0.nd V0.calm 2 3) (vss_one (vs_expr (ve_mth v_extend 1 PySem.F.slot_list_extend PySem.F.type_list_extend (vd_cons (ve_lc V0 [("other", 4)] (t := (gName 4)) (vi_seq (ve_sl (ve_fld 0 3 rfl z.n_Lister_held (by decide)) vo_no (vo_some (ve_var 2)))) (by kernel_rfl) (fun _ _ _ _ _ => pg_name V0.nd rfl (Or.inl rfl)) (sg_name (by decide)) (wg_name (by decide)) (fun s H C cl fp V0 => vc_no) (fun s H C cl fp V0 => (ve_callP V0 c_far_by.c (hr.mono (by decide)) (va_P (ve_fld 0 0 rfl z.n_Lister_way (by decide)) (va_P (ve_var 3) (va_P (ve_var 4) va_nil)))))) vd_nil)))))
  (vss_one (vs_retO (ve_ifExp (vt_cmp (v_ne (by have := V0.room.un; omega)) (ve_var 1) (ve_lst vd_nil)) (ve_cb (v_min V0.calm) z.f_min b_min (va_cons (ve_var 1) va_nil)) ve_non)))))) (by decide)
theorem ok_Lister_orders {fd : FuncData} (F : FunD K "orders" "Lister.orders" (defArgs s_Lister_orders) (defBody s_Lister_orders) (defScope s_Lister_orders) [] [] (He.ma K (He.ga K "Lister") "orders") fd) (z : Fc K mg)  : CalN P w K mg base (rhoI mg) "Lister" "orders" 1 [] h_Lister_orders 2 :=
  caln_mk (N := ["self", "one"]) (ps := ["self"]) (k := 1) (g := b_Lister_orders) [] z.c_Lister z.m_Lister_orders F ⟨rfl, rfl, rfl, by decide +kernel, rfl, by decide +kernel, by decide +kernel⟩ (by decide) (fun _ _ _ _ _ _ us hl => match us, hl with | [_], _ => rfl) (fun cdv A outer s H E hr V0 => by
    exact
  (vss_one (vs_retO (ve_lc V0 [("one", 1)] (t := (gName 1)) (vi_seq (ve_cb (v_sortedL V0.u66) z.f_sorted b_sorted (va_cons (ve_fld 0 3 rfl z.n_Lister_held (by decide)) va_nil))) (by kernel_rfl) (fun _ _ _ _ _ => pg_name V0.nd rfl (Or.inl rfl)) (sg_name (by decide)) (wg_name (by decide)) (fun s H C cl fp V0 => vc_no) (fun s H C cl fp V0 => (ve_ct v_list z.f_list b_list (va_cons (ve_var 1) va_nil))))))) (by decide)
theorem ok_Lister_undo {fd : FuncData} (F : FunD K "undo" "Lister.undo" (defArgs s_Lister_undo) (defBody s_Lister_undo) (defScope s_Lister_undo) [] [] (He.ma K (He.ga K "Lister") "undo") fd) (z : Fc K mg)  : CalN P w K mg base (rhoI mg) "Lister" "undo" 1 [0] h_Lister_undo 2 :=
  caln_mk (N := ["self", "taken", "order"]) (ps := ["self"]) (k := 1) (g := b_Lister_undo) [0] z.c_Lister z.m_Lister_undo F ⟨rfl, rfl, rfl, by decide +kernel, rfl, by decide +kernel, by decide +kernel⟩ (by decide) (fun _ _ _ _ _ _ us hl => match us, hl with | [_], _ => rfl) (fun cdv A outer s H E hr V0 => by
    exact
  (vss_cons (vs_if (vt_lendS rfl (vt_cmp (v_eq (by have := V0.room.un; omega)) (ve_fld 0 4 rfl z.n_Lister_deeds (by decide)) (ve_lst vd_nil))) (vss_one (vs_raise V0 z.x_NoNumber)) vss_nil)
  (vss_cons (vs_tgt V0 (vg_t2 V0.nd V0.calm 1 2) (ve_fmth0 v_pop 0 z.n_Lister_deeds PySem.F.slot_list_pop PySem.F.type_list_pop))
  (vss_one (vs_if (vt_of (fun _ => rfl) (ve_var 1)) (vss_one (vs_expr (ve_fmth (v_remove V0.u66) 0 z.n_Lister_held PySem.F.slot_list_remove PySem.F.type_list_remove (vd_cons (ve_var 2) vd_nil)))) (vss_one (vs_expr (ve_fmth v_append 0 z.n_Lister_held PySem.F.slot_list_append PySem.F.type_list_append (vd_cons (ve_var 2) vd_nil))))))))) (by decide)
theorem ok__law_cell_at {a : Addr} {fd : FuncData} (F : FunD K "_law_cell_at" "_law_cell_at" (defArgs s__law_cell_at) (defBody s__law_cell_at) (defScope s__law_cell_at) [] [] a fd) (gm : mg "_law_cell_at" = some (.ref a)) (z : Fc K mg)  : CalK P w K mg base (rhoI mg) "_law_cell_at" 2 [] h__law_cell_at 2 :=
  cal_mk (N := ["script", "k"]) (ps := ["script", "k"]) (k := 1) (g := b__law_cell_at) [] F gm ⟨rfl, rfl, rfl, by decide +kernel, rfl, by decide +kernel, by decide +kernel⟩ (by decide) (fun _ _ _ _ _ _ us hl => match us, hl with | [_, _], _ => rfl) (fun cdv A outer s H E hr V0 => by
    exact
  (vss_cons (vs_if (vt_cmp v_lt (ve_var 1) (ve_scLen (ve_var 0) z.f_len b_len)) (vss_one (vs_retO (ve_scIx (ve_var 0) (ve_var 1)))) vss_nil)
  (vss_one (vs_retO ve_int)))) (by decide)
theorem ok__law_stir {a : Addr} {fd : FuncData} (F : FunD K "_law_stir" "_law_stir" (defArgs s__law_stir) (defBody s__law_stir) (defScope s__law_stir) [] [] a fd) (gm : mg "_law_stir" = some (.ref a)) (z : Fc K mg)  : CalK P w K mg base (rhoI mg) "_law_stir" 2 [] h__law_stir 2 :=
  cal_mk (N := ["cell", "k", "one"]) (ps := ["cell", "k"]) (k := 1) (g := b__law_stir) [] F gm ⟨rfl, rfl, rfl, by decide +kernel, rfl, by decide +kernel, by decide +kernel⟩ (by decide) (fun _ _ _ _ _ _ us hl => match us, hl with | [_, _], _ => rfl) (fun cdv A outer s H E hr V0 => by
    exact
  (vss_cons (vs_asg V0.nd 2 (ve_op v_mod (ve_op v_mul (ve_op v_add (ve_op v_add (ve_op v_mod (ve_var 0) ve_int) (ve_op v_mul ve_int (ve_var 1))) ve_int) ve_int) ve_int))
  (vss_cons (vs_asg V0.nd 2 (ve_op v_mod (ve_op v_mul (ve_var 2) (ve_var 2)) ve_int))
  (vss_one (vs_retO (ve_op v_fdiv (ve_op v_mod (ve_op v_mul (ve_op v_add (ve_var 2) (ve_op v_mul ve_int (ve_var 1))) ve_int) ve_int) ve_int)))))) (by decide)
theorem ok__law_deck {a : Addr} {fd : FuncData} (F : FunD K "_law_deck" "_law_deck" (defArgs s__law_deck) (defBody s__law_deck) (defScope s__law_deck) [] [] a fd) (gm : mg "_law_deck" = some (.ref a)) (z : Fc K mg) (c__law_stir : CalK P w K mg base (rhoI mg) "_law_stir" 2 [] h__law_stir 2) : CalK P w K mg base (rhoI mg) "_law_deck" 2 [] h__law_deck 3 :=
  cal_mk (N := ["cell", "many", "found", "digits", "k", "number"]) (ps := ["cell", "many"]) (k := 2) (g := b__law_deck) [] F gm ⟨rfl, rfl, rfl, by decide +kernel, rfl, by decide +kernel, by decide +kernel⟩ (by decide) (fun _ _ _ _ _ _ us hl => match us, hl with | [_, _], _ => rfl) (fun cdv A outer s H E hr V0 => by
    exact
  (vss_cons (vs_own V0.nd 2 (ve_lst vd_nil))
  (vss_cons (vs_asg V0.nd 3 (ve_var 0))
  (vss_cons (vs_for V0 [4, 5] (vi_range1 z.f_range (ve_var 1)) (vg_name V0.nd 4) (vss_cons (vs_asg V0.nd 5 (ve_callP V0 c__law_stir.c (hr.mono (by decide)) (va_P (ve_var 0) (va_P (ve_var 4) va_nil))))
  (vss_cons (vs_if (vt_cmp v_ge (ve_var 0) (ve_op v_pow ve_int ve_int)) (vss_one (vs_asg V0.nd 5 (ve_op v_mod (ve_var 3) ve_int))) vss_nil)
  (vss_cons (vs_asg V0.nd 3 (ve_op v_fdiv (ve_var 3) ve_int))
  (vss_one (vs_expr (ve_mth v_append 2 PySem.F.slot_list_append PySem.F.type_list_append (vd_cons (ve_var 5) vd_nil))))))))
  (vss_one (vs_retO (ve_rev (ve_var 2)))))))) (by decide)
theorem ok_Lister_drop {fd : FuncData} (F : FunD K "drop" "Lister.drop" (defArgs s_Lister_drop) (defBody s_Lister_drop) (defScope s_Lister_drop) [] [] (He.ma K (He.ga K "Lister") "drop") fd) (z : Fc K mg) (c_need_order : CalK P w K mg base (rhoI mg) "need_order" 1 [] h_need_order 4) : CalN P w K mg base (rhoI mg) "Lister" "drop" 2 [0] h_Lister_drop 5 :=
  caln_mk (N := ["self", "order"]) (ps := ["self", "order"]) (k := 4) (g := b_Lister_drop) [0] z.c_Lister z.m_Lister_drop F ⟨rfl, rfl, rfl, by decide +kernel, rfl, by decide +kernel, by decide +kernel⟩ (by decide) (fun _ _ _ _ _ _ us hl => match us, hl with | [_, _], _ => rfl) (fun cdv A outer s H E hr V0 => by
    exact
  (vss_cons (vs_expr (ve_callP V0 c_need_order.c (hr.mono (by decide)) (va_P (ve_var 1) va_nil)))
  (vss_cons (vs_if (vt_lendS rfl (vt_cmp (v_notIn (by have := V0.room.un; omega)) (ve_var 1) (ve_fld 0 3 rfl z.n_Lister_held (by decide)))) (vss_one (vs_raise V0 z.x_NoFit)) vss_nil)
  (vss_cons (vs_expr (ve_fmth (v_remove V0.u66) 0 z.n_Lister_held PySem.F.slot_list_remove PySem.F.type_list_remove (vd_cons (ve_var 1) vd_nil)))
  (vss_one (vs_expr (ve_fmth v_append 0 z.n_Lister_deeds PySem.F.slot_list_append PySem.F.type_list_append (vd_cons (ve_tup (vd_cons ve_bl (vd_cons (ve_ct v_list z.f_list b_list (va_cons (ve_var 1) va_nil)) vd_nil))) vd_nil)))))))) (by decide)
theorem ok__law_next {a : Addr} {fd : FuncData} (F : FunD K "_law_next" "_law_next" (defArgs s__law_next) (defBody s__law_next) (defScope s__law_next) [] [] a fd) (gm : mg "_law_next" = some (.ref a)) (z : Fc K mg) (c__law_stir : CalK P w K mg base (rhoI mg) "_law_stir" 2 [] h__law_stir 2) : CalK P w K mg base (rhoI mg) "_law_next" 1 [0] h__law_next 3 :=
  cal_mk (N := ["deck"]) (ps := ["deck"]) (k := 2) (g := b__law_next) [0] F gm ⟨rfl, rfl, rfl, by decide +kernel, rfl, by decide +kernel, by decide +kernel⟩ (by decide) (fun _ _ _ _ _ _ us hl => match us, hl with | [_], _ => rfl) (fun cdv A outer s H E hr V0 => by
    exact
  (vss_cons (vs_if (vt_cmp (v_eq (by have := V0.room.un; omega)) (ve_cb (v_len) z.f_len b_len (va_cons (ve_var 0) va_nil)) ve_int) (vss_one (vs_expr (ve_mth v_insert 0 PySem.F.slot_list_insert PySem.F.type_list_insert (vd_cons ve_int (vd_cons (ve_op v_mul (ve_callP V0 c__law_stir.c (hr.mono (by decide)) (va_P (ve_ix (ve_var 0) ve_int) (va_P ve_int va_nil))) (ve_ct v_int z.f_int b_int (va_cons (ve_cmp v_gt (ve_ix (ve_var 0) ve_int) ve_int) va_nil))) vd_nil))))) vss_nil)
  (vss_one (vs_retO (ve_mth0 v_pop 0 PySem.F.slot_list_pop PySem.F.type_list_pop))))) (by decide)
theorem ok__law_dropped_right {a : Addr} {fd : FuncData} (F : FunD K "_law_dropped_right" "_law_dropped_right" (defArgs s__law_dropped_right) (defBody s__law_dropped_right) (defScope s__law_dropped_right) [] [] a fd) (gm : mg "_law_dropped_right" = some (.ref a)) (z : Fc K mg) (c_Lister_come : CalN P w K mg base (rhoI mg) "Lister" "come" 2 [0] h_Lister_come 5) (c_Lister_drop : CalN P w K mg base (rhoI mg) "Lister" "drop" 2 [0] h_Lister_drop 5) (c_Lister_orders : CalN P w K mg base (rhoI mg) "Lister" "orders" 1 [] h_Lister_orders 2) (c_Lister_undo : CalN P w K mg base (rhoI mg) "Lister" "undo" 1 [0] h_Lister_undo 2) (c__law_next : CalK P w K mg base (rhoI mg) "_law_next" 1 [0] h__law_next 3) : CalK P w K mg base (rhoI mg) "_law_dropped_right" 2 [0, 1] h__law_dropped_right 6 :=
  cal_mk (N := ["deck", "busy", "one"]) (ps := ["deck", "busy"]) (k := 5) (g := b__law_dropped_right) [0, 1] F gm ⟨rfl, rfl, rfl, by decide +kernel, rfl, by decide +kernel, by decide +kernel⟩ (by decide) (fun _ _ _ _ _ _ us hl => match us, hl with | [_, _], _ => rfl) (fun cdv A outer s H E hr V0 => by
    exact
  (vss_cons (vs_if (VW.vt (vw_or (vt_cmp (v_eq (by have := V0.room.un; omega)) (ve_methP0 V0 1 rfl c_Lister_orders.c (hr.mono (by decide))) (ve_lst vd_nil)) (vw_or1 (vt_cmp (v_eq (by have := V0.room.un; omega)) (ve_op v_mod (ve_call (mi := [(0, 0)]) V0 c__law_next.c (hr.mono (by decide)) (va_M 0 va_nil)) ve_int) ve_int)))) (vss_one (vs_retO ve_bl)) vss_nil)
  (vss_cons (vs_asg V0.nd 2 (ve_ix (ve_methP0 V0 1 rfl c_Lister_orders.c (hr.mono (by decide))) (ve_op v_mod (ve_call (mi := [(0, 0)]) V0 c__law_next.c (hr.mono (by decide)) (va_M 0 va_nil)) (ve_cb (v_len) z.f_len b_len (va_cons (ve_methP0 V0 1 rfl c_Lister_orders.c (hr.mono (by decide))) va_nil)))))
  (vss_cons (vs_expr (ve_meth (mi := [(0, 1)]) V0 1 rfl c_Lister_drop.c (hr.mono (by decide)) (va_F (ve_var 2) va_nil)))
  (vss_cons (vs_if (vt_cmp (v_eq (by have := V0.room.un; omega)) (ve_op v_mod (ve_call (mi := [(0, 0)]) V0 c__law_next.c (hr.mono (by decide)) (va_M 0 va_nil)) ve_int) ve_int) (vss_one (vs_retO (ve_cmp v_is (ve_meth0 (mi := [(0, 1)]) V0 1 rfl c_Lister_undo.c (hr.mono (by decide))) ve_non))) vss_nil)
  (vss_one (vs_retO (ve_cmp (v_eq (by have := V0.room.un; omega)) (ve_meth (mi := [(0, 1)]) V0 1 rfl c_Lister_come.c (hr.mono (by decide)) (va_F (ve_var 2) va_nil)) (ve_lst vd_nil))))))))) (by decide)
theorem ok__law_near {a : Addr} {fd : FuncData} (F : FunD K "_law_near" "_law_near" (defArgs s__law_near) (defBody s__law_near) (defScope s__law_near) [] [] a fd) (gm : mg "_law_near" = some (.ref a)) (z : Fc K mg) (c__law_next : CalK P w K mg base (rhoI mg) "_law_next" 1 [0] h__law_next 3) : CalK P w K mg base (rhoI mg) "_law_near" 2 [0] h__law_near 4 :=
  cal_mk (N := ["deck", "order", "found", "way", "turn", "p", "q"]) (ps := ["deck", "order"]) (k := 3) (g := b__law_near) [0] F gm ⟨rfl, rfl, rfl, by decide +kernel, rfl, by decide +kernel, by decide +kernel⟩ (by decide) (fun _ _ _ _ _ _ us hl => match us, hl with | [_, _], _ => rfl) (fun cdv A outer s H E hr V0 => by
    exact
  (vss_cons (vs_own V0.nd 2 (ve_ct v_list z.f_list b_list (va_cons (ve_var 1) va_nil)))
  (vss_cons (vs_asg V0.nd 3 (ve_op v_mod (ve_call (mi := [(0, 0)]) V0 c__law_next.c (hr.mono (by decide)) (va_M 0 va_nil)) ve_int))
  (vss_cons (vs_for V0 [4, 5, 6] (vi_range1 z.f_range (ve_op v_mul (ve_ix (ve_lst (vd_cons ve_int (vd_cons ve_int (vd_cons ve_int (vd_cons ve_int vd_nil))))) (ve_op v_mod (ve_call (mi := [(0, 0)]) V0 c__law_next.c (hr.mono (by decide)) (va_M 0 va_nil)) ve_int)) (ve_ct v_int z.f_int b_int (va_cons (ve_cmp v_gt (ve_cb (v_len) z.f_len b_len (va_cons (ve_var 2) va_nil)) ve_int) va_nil)))) (vg_name V0.nd 4) (vss_cons (vs_asg V0.nd 5 (ve_op v_mod (ve_call (mi := [(0, 0)]) V0 c__law_next.c (hr.mono (by decide)) (va_M 0 va_nil)) (ve_op v_sub (ve_cb (v_len) z.f_len b_len (va_cons (ve_var 2) va_nil)) ve_int)))
  (vss_cons (vs_asg V0.nd 6 (ve_ix (ve_lst (vd_cons (ve_op v_add (ve_var 5) ve_int) (vd_cons (ve_op v_mod (ve_call (mi := [(0, 0)]) V0 c__law_next.c (hr.mono (by decide)) (va_M 0 va_nil)) (ve_cb (v_len) z.f_len b_len (va_cons (ve_var 2) va_nil))) (vd_cons (ve_op v_add (ve_var 5) ve_int) vd_nil)))) (ve_var 3)))
  (vss_one (vs_if (vt_cmp v_lt (ve_var 3) ve_int) (vss_one (vs_put2 V0 2 2 (ve_var 5) (ve_var 6) (vd_cons (ve_ix (ve_var 2) (ve_var 6)) (vd_cons (ve_ix (ve_var 2) (ve_var 5)) vd_nil)))) (vss_one (vs_expr (ve_mth v_insert 2 PySem.F.slot_list_insert PySem.F.type_list_insert (vd_cons (ve_op v_mod (ve_call (mi := [(0, 0)]) V0 c__law_next.c (hr.mono (by decide)) (va_M 0 va_nil)) (ve_cb (v_len) z.f_len b_len (va_cons (ve_var 2) va_nil))) (vd_cons (ve_mth v_pop 2 PySem.F.slot_list_pop PySem.F.type_list_pop (vd_cons (ve_var 5) vd_nil)) vd_nil))))))))))
  (vss_one (vs_retO (ve_var 2))))))) (by decide)
theorem ok__law_order {a : Addr} {fd : FuncData} (F : FunD K "_law_order" "_law_order" (defArgs s__law_order) (defBody s__law_order) (defScope s__law_order) [] [] a fd) (gm : mg "_law_order" = some (.ref a)) (z : Fc K mg) (c__law_next : CalK P w K mg base (rhoI mg) "_law_next" 1 [0] h__law_next 3) : CalK P w K mg base (rhoI mg) "_law_order" 2 [0] h__law_order 4 :=
  cal_mk (N := ["deck", "n", "left", "thing"]) (ps := ["deck", "n"]) (k := 3) (g := b__law_order) [0] F gm ⟨rfl, rfl, rfl, by decide +kernel, rfl, by decide +kernel, by decide +kernel⟩ (by decide) (fun _ _ _ _ _ _ us hl => match us, hl with | [_, _], _ => rfl) (fun cdv A outer s H E hr V0 => by
    exact
  (vss_cons (vs_own V0.nd 2 (ve_listRg1 V0.calm z.f_list z.f_range (ve_var 1)))
  (vss_one (vs_retO (ve_lc V0 [("thing", 3)] (t := (gName 3)) (vi_range1 z.f_range (ve_var 1)) (by kernel_rfl) (fun _ _ _ _ _ => pg_name V0.nd rfl (Or.inl rfl)) (sg_name (by decide)) (wg_name (by decide)) (fun s H C cl fp V0 => vc_no) (fun s H C cl fp V0 => (ve_mth v_pop 2 PySem.F.slot_list_pop PySem.F.type_list_pop (vd_cons (ve_op v_mod (ve_call (mi := [(0, 0)]) V0 c__law_next.c (hr.mono (by decide)) (va_M 0 va_nil)) (ve_cb (v_len) z.f_len b_len (va_cons (ve_var 2) va_nil))) vd_nil)))))))) (by decide)
theorem ok__law_free {a : Addr} {fd : FuncData} (F : FunD K "_law_free" "_law_free" (defArgs s__law_free) (defBody s__law_free) (defScope s__law_free) [] [] a fd) (gm : mg "_law_free" = some (.ref a)) (z : Fc K mg) (c__law_near : CalK P w K mg base (rhoI mg) "_law_near" 2 [0] h__law_near 4) (c__law_next : CalK P w K mg base (rhoI mg) "_law_next" 1 [0] h__law_next 3) (c__law_order : CalK P w K mg base (rhoI mg) "_law_order" 2 [0] h__law_order 4) : CalK P w K mg base (rhoI mg) "_law_free" 5 [0] h__law_free 5 :=
  cal_mk (N := ["deck", "way", "n", "d", "held", "kind", "order"]) (ps := ["deck", "way", "n", "d", "held"]) (k := 4) (g := b__law_free) [0] F gm ⟨rfl, rfl, rfl, by decide +kernel, rfl, by decide +kernel, by decide +kernel⟩ (by decide) (fun _ _ _ _ _ _ us hl => match us, hl with | [_, _, _, _, _], _ => rfl) (fun cdv A outer s H E hr V0 => by
    exact
  (vss_cons (vs_asg V0.nd 5 (ve_op v_mod (ve_call (mi := [(0, 0)]) V0 c__law_next.c (hr.mono (by decide)) (va_M 0 va_nil)) ve_int))
  (vss_cons (vs_own V0.nd 6 (ve_call (mi := [(0, 0)]) V0 c__law_order.c (hr.mono (by decide)) (va_M 0 (va_F (ve_var 2) va_nil))))
  (vss_cons (vs_if (VW.vt (vw_and (vt_cmp (v_ne (by have := V0.room.un; omega)) (ve_var 4) (ve_lst vd_nil)) (vw_and1 (vt_cmp v_gt (ve_var 5) ve_int)))) (vss_cons (vs_own V0.nd 6 (ve_ct v_list z.f_list b_list (va_cons (ve_ix (ve_var 4) (ve_op v_mod (ve_call (mi := [(0, 0)]) V0 c__law_next.c (hr.mono (by decide)) (va_M 0 va_nil)) (ve_cb (v_len) z.f_len b_len (va_cons (ve_var 4) va_nil)))) va_nil)))
  (vss_one (vs_if (vt_cmp (v_eq (by have := V0.room.un; omega)) (ve_var 5) ve_int) (vss_one (vs_own V0.nd 6 (ve_call (mi := [(0, 0)]) V0 c__law_near.c (hr.mono (by decide)) (va_M 0 (va_F (ve_var 6) va_nil))))) vss_nil))) vss_nil)
  (vss_one (vs_retO (ve_var 6))))))) (by decide)
theorem ok_need_list {a : Addr} {fd : FuncData} (F : FunD K "need_list" "need_list" (defArgs s_need_list) (defBody s_need_list) (defScope s_need_list) [] [] a fd) (gm : mg "need_list" = some (.ref a)) (z : Fc K mg) (c_is_order : CalK P w K mg base (rhoI mg) "is_order" 1 [] h_is_order 3) : CalK P w K mg base (rhoI mg) "need_list" 1 [] h_need_list 4 :=
  cal_mk (N := ["orders", "one"]) (ps := ["orders"]) (k := 3) (g := b_need_list) [] F gm ⟨rfl, rfl, rfl, by decide +kernel, rfl, by decide +kernel, by decide +kernel⟩ (by decide) (fun _ _ _ _ _ _ us hl => match us, hl with | [_], _ => rfl) (fun cdv A outer s H E hr V0 => by
    exact
  (vss_cons (vs_if (VW.vt (vw_or (vt_not (vt_of (fun _ => rfl) (ve_isi .list (ve_var 0) z.f_isinstance z.f_list b_list))) (vw_or1 (vt_not (vt_chain v_le v_le ve_int (ve_cb (v_len) z.f_len b_len (va_cons (ve_var 0) va_nil)) (ve_gint z.i_MOST_ORDERS)))))) (vss_one (vs_raise V0 z.x_NoOrder)) vss_nil)
  (vss_cons (vs_if (vt_cmp (v_ne (by have := V0.room.un; omega)) (ve_lc V0 [("one", 1)] (t := (gName 1)) (vi_seq (ve_var 0)) (by kernel_rfl) (fun _ _ _ _ _ => pg_name V0.nd rfl (Or.inl rfl)) (sg_name (by decide)) (wg_name (by decide)) (fun s H C cl fp V0 => (vc_if (vt_not (vt_of (fun _ => rfl) (ve_callP V0 c_is_order.c (hr.mono (by decide)) (va_P (ve_var 1) va_nil)))))) (fun s H C cl fp V0 => (ve_var 1))) (ve_lst vd_nil)) (vss_one (vs_raise V0 z.x_NoOrder)) vss_nil)
  (vss_cons (vs_if (vt_cmp (v_ne (by have := V0.room.un; omega)) (ve_lc V0 [("one", 1)] (t := (gName 1)) (vi_seq (ve_var 0)) (by kernel_rfl) (fun _ _ _ _ _ => pg_name V0.nd rfl (Or.inl rfl)) (sg_name (by decide)) (wg_name (by decide)) (fun s H C cl fp V0 => (vc_if (vt_cmp (v_ne (by have := V0.room.un; omega)) (ve_cb (v_len) z.f_len b_len (va_cons (ve_var 1) va_nil)) (ve_cb (v_len) z.f_len b_len (va_cons (ve_ix (ve_var 0) ve_int) va_nil))))) (fun s H C cl fp V0 => (ve_var 1))) (ve_lst vd_nil)) (vss_one (vs_raise V0 z.x_NoOrder)) vss_nil)
  (vss_one (vs_if (vt_cmp v_lt (ve_lenSet V0.calm V0.u66 z.f_len z.f_set (ve_lc V0 [("one", 1)] (t := (gName 1)) (vi_seq (ve_var 0)) (by kernel_rfl) (fun _ _ _ _ _ => pg_name V0.nd rfl (Or.inl rfl)) (sg_name (by decide)) (wg_name (by decide)) (fun s H C cl fp V0 => vc_no) (fun s H C cl fp V0 => (ve_ct v_tuple z.f_tuple b_tuple (va_cons (ve_var 1) va_nil))))) (ve_cb (v_len) z.f_len b_len (va_cons (ve_var 0) va_nil))) (vss_one (vs_raise V0 z.x_NoOrder)) vss_nil)))))) (by decide)
theorem ok_need_asked {a : Addr} {fd : FuncData} (F : FunD K "need_asked" "need_asked" (defArgs s_need_asked) (defBody s_need_asked) (defScope s_need_asked) [] [] a fd) (gm : mg "need_asked" = some (.ref a)) (z : Fc K mg) (c_need_list : CalK P w K mg base (rhoI mg) "need_list" 1 [] h_need_list 4) (c_need_order : CalK P w K mg base (rhoI mg) "need_order" 1 [] h_need_order 4) (c_need_way : CalK P w K mg base (rhoI mg) "need_way" 1 [] h_need_way 2) : CalK P w K mg base (rhoI mg) "need_asked" 3 [] h_need_asked 5 :=
  cal_mk (N := ["way", "order", "orders"]) (ps := ["way", "order", "orders"]) (k := 4) (g := b_need_asked) [] F gm ⟨rfl, rfl, rfl, by decide +kernel, rfl, by decide +kernel, by decide +kernel⟩ (by decide) (fun _ _ _ _ _ _ us hl => match us, hl with | [_, _, _], _ => rfl) (fun cdv A outer s H E hr V0 => by
    exact
  (vss_cons (vs_expr (ve_callP V0 c_need_order.c (hr.mono (by decide)) (va_P (ve_var 1) va_nil)))
  (vss_cons (vs_expr (ve_callP V0 c_need_list.c (hr.mono (by decide)) (va_P (ve_var 2) va_nil)))
  (vss_cons (vs_expr (ve_callP V0 c_need_way.c (hr.mono (by decide)) (va_P (ve_var 0) va_nil)))
  (vss_one (vs_if (vt_cmp (v_ne (by have := V0.room.un; omega)) (ve_cb (v_len) z.f_len b_len (va_cons (ve_var 1) va_nil)) (ve_cb (v_len) z.f_len b_len (va_cons (ve_ix (ve_var 2) ve_int) va_nil))) (vss_one (vs_raise V0 z.x_NoFit)) vss_nil)))))) (by decide)
theorem ok_nearest_of {a : Addr} {fd : FuncData} (F : FunD K "nearest_of" "nearest_of" (defArgs s_nearest_of) (defBody s_nearest_of) (defScope s_nearest_of) [] [] a fd) (gm : mg "nearest_of" = some (.ref a)) (z : Fc K mg) (c_far_by : CalK P w K mg base (rhoI mg) "far_by" 3 [] h_far_by 3) (c_need_asked : CalK P w K mg base (rhoI mg) "need_asked" 3 [] h_need_asked 5) : CalK P w K mg base (rhoI mg) "nearest_of" 3 [] h_nearest_of 6 :=
  cal_mk (N := ["way", "order", "orders", "fars", "least", "one", "far"]) (ps := ["way", "order", "orders"]) (k := 5) (g := b_nearest_of) [] F gm ⟨rfl, rfl, rfl, by decide +kernel, rfl, by decide +kernel, by decide +kernel⟩ (by decide) (fun _ _ _ _ _ _ us hl => match us, hl with | [_, _, _], _ => rfl) (fun cdv A outer s H E hr V0 => by
    exact
  (vss_cons (vs_expr (ve_callP V0 c_need_asked.c (hr.mono (by decide)) (va_P (ve_var 0) (va_P (ve_var 1) (va_P (ve_var 2) va_nil)))))
  (vss_cons (vs_asgLc V0 3 [("one", 5)] (t := (gName 5)) (vi_seq (ve_var 2)) (by kernel_rfl) (fun _ _ _ _ _ => pg_name V0.nd rfl (Or.inl rfl)) (sg_name (by decide)) (wg_name (by decide)) (fun s H C cl fp V0 => vc_no) (fun s H C cl fp V0 => (ve_callP V0 c_far_by.c (hr.mono (by decide)) (va_P (ve_var 0) (va_P (ve_var 1) (va_P (ve_var 5) va_nil))))) (sw_true rfl rfl rfl (by decide +kernel))).1
  (vss_cons (vs_asg V0.nd 4 (ve_cb (v_min V0.calm) z.f_min b_min (va_cons (ve_var 3) va_nil)))
  (vss_one (vs_retO (ve_tup (vd_cons (ve_var 4) (vd_cons (ve_lc V0 [("one", 5), ("far", 6)] (t := (gTup K 2 (gCons (gName 5) (gCons (gName 6) gNil)))) (vi_zip z.f_zip (ve_var 2) (ve_var 3)) (by kernel_rfl) (fun _ _ _ _ _ => pg_tup V0.calm (pgs_cons (pg_name V0.nd rfl (Or.inl rfl)) (pgs_cons (pg_name V0.nd rfl (Or.inl rfl)) pgs_nil))) (sg_t2 (by decide) (by decide)) (wg_t2 (by decide) (by decide)) (fun s H C cl fp V0 => (vc_if (vt_cmp (v_eq (by have := V0.room.un; omega)) (ve_var 6) (ve_var 4)))) (fun s H C cl fp V0 => (ve_ct v_list z.f_list b_list (va_cons (ve_var 5) va_nil)))) vd_nil))))))))) (by decide)
theorem ok__law_told_right {a : Addr} {fd : FuncData} (F : FunD K "_law_told_right" "_law_told_right" (defArgs s__law_told_right) (defBody s__law_told_right) (defScope s__law_told_right) [] [] a fd) (gm : mg "_law_told_right" = some (.ref a)) (z : Fc K mg) (c_nearest_of : CalK P w K mg base (rhoI mg) "nearest_of" 3 [] h_nearest_of 6) : CalK P w K mg base (rhoI mg) "_law_told_right" 5 [] h__law_told_right 7 :=
  cal_mk (N := ["way", "d", "ahead", "order", "told", "far", "some", "one"]) (ps := ["way", "d", "ahead", "order", "told"]) (k := 6) (g := b__law_told_right) [] F gm ⟨rfl, rfl, rfl, by decide +kernel, rfl, by decide +kernel, by decide +kernel⟩ (by decide) (fun _ _ _ _ _ _ us hl => match us, hl with | [_, _, _, _, _], _ => rfl) (fun cdv A outer s H E hr V0 => by
    exact
  (vss_cons (vs_if (vt_cmp (v_eq (by have := V0.room.un; omega)) (ve_var 2) (ve_lst vd_nil)) (vss_one (vs_retO (ve_cmp (v_eq (by have := V0.room.un; omega)) (ve_var 4) (ve_lst vd_nil)))) vss_nil)
  (vss_cons (vs_tgt V0 (vg_t2 V0.nd V0.calm 5 6) (ve_call (mi := []) V0 c_nearest_of.c (hr.mono (by decide)) (va_F (ve_var 0) (va_F (ve_var 3) (va_F (ve_var 2) va_nil)))))
  (vss_cons (vs_if (vt_cmp (v_ne (by have := V0.room.un; omega)) (ve_cmp v_lt (ve_var 5) (ve_var 1)) (ve_cmp (v_ne (by have := V0.room.un; omega)) (ve_var 4) (ve_lst vd_nil))) (vss_one (vs_retO ve_bl)) vss_nil)
  (vss_one (vs_retO (ve_or (ve_cmp (v_eq (by have := V0.room.un; omega)) (ve_var 4) (ve_lst vd_nil)) (ve_one (ve_cmp (v_eq (by have := V0.room.un; omega)) (ve_lc V0 [("one", 7)] (t := (gName 7)) (vi_seq (ve_var 6)) (by kernel_rfl) (fun _ _ _ _ _ => pg_name V0.nd rfl (Or.inl rfl)) (sg_name (by decide)) (wg_name (by decide)) (fun s H C cl fp V0 => (vc_if (vt_cmp (v_notIn (by have := V0.room.un; omega)) (ve_var 7) (ve_var 4)))) (fun s H C cl fp V0 => (ve_var 7))) (ve_lst vd_nil)))))))))) (by decide)
theorem ok__law_turned {a : Addr} {fd : FuncData} (F : FunD K "_law_turned" "_law_turned" (defArgs s__law_turned) (defBody s__law_turned) (defScope s__law_turned) [] [] a fd) (gm : mg "_law_turned" = some (.ref a)) (z : Fc K mg)  : CalK P w K mg base (rhoI mg) "_law_turned" 2 [] h__law_turned 2 :=
  cal_mk (N := ["orders", "names", "order", "thing"]) (ps := ["orders", "names"]) (k := 1) (g := b__law_turned) [] F gm ⟨rfl, rfl, rfl, by decide +kernel, rfl, by decide +kernel, by decide +kernel⟩ (by decide) (fun _ _ _ _ _ _ us hl => match us, hl with | [_, _], _ => rfl) (fun cdv A outer s H E hr V0 => by
    exact
  (vss_one (vs_retO (ve_cb (v_sortedL V0.u66) z.f_sorted b_sorted (va_cons (ve_lc V0 [("order", 2)] (t := (gName 2)) (vi_seq (ve_var 0)) (by kernel_rfl) (fun _ _ _ _ _ => pg_name V0.nd rfl (by first | exact Or.inl rfl | exact Or.inr rfl)) (sg_name (by decide)) (wg_name (by decide)) (fun s H C cl fp V0 => vc_no) (fun s H C cl fp V0 => (ve_lc V0 [("thing", 3)] (t := (gName 3)) (vi_seq (ve_var 2)) (by kernel_rfl) (fun _ _ _ _ _ => pg_name V0.nd rfl (Or.inl rfl)) (sg_name (by decide)) (wg_name (by decide)) (fun s H C cl fp V0 => vc_no) (fun s H C cl fp V0 => (ve_ix (ve_var 1) (ve_var 3)))))) va_nil))))) (by decide)
theorem ok_law {a : Addr} {fd : FuncData} (F : FunD K "law" "law" (defArgs s_law) (defBody s_law) (defScope s_law) [] [] a fd) (z : Fc K mg) (c_Lister___init__ : CalI P w K mg base (rhoI mg) "Lister" 3 h_Lister___init__ 3) (c_Lister_come : CalN P w K mg base (rhoI mg) "Lister" "come" 2 [0] h_Lister_come 5) (c_Lister_least_apart : CalN P w K mg base (rhoI mg) "Lister" "least_apart" 1 [] h_Lister_least_apart 4) (c_Lister_orders : CalN P w K mg base (rhoI mg) "Lister" "orders" 1 [] h_Lister_orders 2) (c_Lister_undo : CalN P w K mg base (rhoI mg) "Lister" "undo" 1 [0] h_Lister_undo 2) (c__law_cell_at : CalK P w K mg base (rhoI mg) "_law_cell_at" 2 [] h__law_cell_at 2) (c__law_deck : CalK P w K mg base (rhoI mg) "_law_deck" 2 [] h__law_deck 3) (c__law_dropped_right : CalK P w K mg base (rhoI mg) "_law_dropped_right" 2 [0, 1] h__law_dropped_right 6) (c__law_free : CalK P w K mg base (rhoI mg) "_law_free" 5 [0] h__law_free 5) (c__law_next : CalK P w K mg base (rhoI mg) "_law_next" 1 [0] h__law_next 3) (c__law_order : CalK P w K mg base (rhoI mg) "_law_order" 2 [0] h__law_order 4) (c__law_told_right : CalK P w K mg base (rhoI mg) "_law_told_right" 5 [] h__law_told_right 7) (c__law_turned : CalK P w K mg base (rhoI mg) "_law_turned" 2 [] h__law_turned 2) : FnG P w K mg base 8 a fd ["script"] (spV ⟨K, mg, (rhoI mg)⟩ 1 [] h_law) :=
  fn_mkV (N := ["script", "k", "deck", "way", "n", "d", "names", "plain", "called", "behind", "busy", "turn", "ahead", "order", "told", "orders", "least", "thing", "one"]) (ps := ["script"]) (k := 7) (g := b_law) [] F ⟨rfl, rfl, rfl, by decide +kernel, rfl, by decide +kernel, by decide +kernel⟩ (by decide) (fun cdv A outer s H E hr V0 => by
    exact
  (vss_cons (vs_for V0 [1, 2, 3, 4, 5, 6, 7, 8, 9, 10, 11, 12, 13, 14, 15, 16] (vi_range1 z.f_range (ve_cb (v_max V0.calm) z.f_max b_max (va_cons ve_int (va_cons (ve_cb (v_min V0.calm) z.f_min b_min (va_cons (ve_scLen (ve_var 0) z.f_len b_len) (va_cons ve_int va_nil))) va_nil)))) (vg_name V0.nd 1) (vss_cons (vs_own V0.nd 2 (ve_call (mi := []) V0 c__law_deck.c (hr.mono (by decide)) (va_F (ve_call (mi := []) V0 c__law_cell_at.c (hr.mono (by decide)) (va_F (ve_var 0) (va_F (ve_var 1) va_nil))) (va_F ve_int va_nil))))
  (vss_cons (vs_asg V0.nd 3 (ve_ix (ve_lst (vd_cons ve_str (vd_cons ve_str (vd_cons ve_str vd_nil)))) (ve_op v_mod (ve_call (mi := [(0, 2)]) V0 c__law_next.c (hr.mono (by decide)) (va_M 2 va_nil)) ve_int)))
  (vss_cons (vs_asg V0.nd 4 (ve_op v_add ve_int (ve_op v_mod (ve_call (mi := [(0, 2)]) V0 c__law_next.c (hr.mono (by decide)) (va_M 2 va_nil)) ve_int)))
  (vss_cons (vs_asg V0.nd 5 (ve_op v_add ve_int (ve_op v_mod (ve_call (mi := [(0, 2)]) V0 c__law_next.c (hr.mono (by decide)) (va_M 2 va_nil)) ve_int)))
  (vss_cons (vs_asg V0.nd 6 (ve_call (mi := [(0, 2)]) V0 c__law_order.c (hr.mono (by decide)) (va_M 2 (va_F (ve_var 4) va_nil))))
  (vss_cons (vs_unp4 V0 7 8 9 10 (ve_lcT V0 [("turn", 11)] (t := (gName 11)) (vi_range1 z.f_range ve_int) (by kernel_rfl) (fun _ _ _ _ _ => pg_name V0.nd rfl (Or.inl rfl)) (sg_name (by decide)) (wg_name (by decide)) (fun s H C cl fp V0 => vc_no) (fun s H C cl fp V0 => (ve_make V0 c_Lister___init__.c (hr.mono (by decide)) (va_F (ve_var 3) (va_F (ve_var 4) (va_F (ve_var 5) va_nil)))))))
  (vss_cons (vs_for V0 [11, 12, 13, 14] (vi_range1 z.f_range (ve_op v_add ve_int (ve_op v_mod (ve_call (mi := [(0, 2)]) V0 c__law_next.c (hr.mono (by decide)) (va_M 2 va_nil)) ve_int))) (vg_name V0.nd 11) (vss_cons (vs_asg V0.nd 12 (ve_methP0 V0 7 rfl c_Lister_orders.c (hr.mono (by decide))))
  (vss_cons (vs_asg V0.nd 13 (ve_call (mi := [(0, 2)]) V0 c__law_free.c (hr.mono (by decide)) (va_M 2 (va_F (ve_var 3) (va_F (ve_var 4) (va_F (ve_var 5) (va_F (ve_var 12) va_nil)))))))
  (vss_cons (vs_asg V0.nd 14 (ve_meth (mi := [(0, 7)]) V0 7 rfl c_Lister_come.c (hr.mono (by decide)) (va_F (ve_var 13) va_nil)))
  (vss_cons (vs_if (vt_not (vt_of (fun _ => rfl) (ve_callP V0 c__law_told_right.c (hr.mono (by decide)) (va_P (ve_var 3) (va_P (ve_var 5) (va_P (ve_var 12) (va_P (ve_var 13) (va_P (ve_var 14) va_nil)))))))) (vss_one (vs_retO ve_bl)) vss_nil)
  (vss_cons (vs_if (vt_cmp (v_ne (by have := V0.room.un; omega)) (ve_meth (mi := [(0, 8)]) V0 8 rfl c_Lister_come.c (hr.mono (by decide)) (va_F (ve_lc V0 [("thing", 17)] (t := (gName 17)) (vi_seq (ve_var 13)) (by kernel_rfl) (fun _ _ _ _ _ => pg_name V0.nd rfl (Or.inl rfl)) (sg_name (by decide)) (wg_name (by decide)) (fun s H C cl fp V0 => vc_no) (fun s H C cl fp V0 => (ve_ix (ve_var 6) (ve_var 17)))) va_nil)) (ve_call (mi := []) V0 c__law_turned.c (hr.mono (by decide)) (va_F (ve_var 14) (va_F (ve_var 6) va_nil)))) (vss_one (vs_retO ve_bl)) vss_nil)
  (vss_cons (vs_if (vt_cmp (v_ne (by have := V0.room.un; omega)) (ve_meth (mi := [(0, 9)]) V0 9 rfl c_Lister_come.c (hr.mono (by decide)) (va_F (ve_rev (ve_var 13)) va_nil)) (ve_cb (v_sortedL V0.u66) z.f_sorted b_sorted (va_cons (ve_lc V0 [("one", 18)] (t := (gName 18)) (vi_seq (ve_var 14)) (by kernel_rfl) (fun _ _ _ _ _ => pg_name V0.nd rfl (Or.inl rfl)) (sg_name (by decide)) (wg_name (by decide)) (fun s H C cl fp V0 => vc_no) (fun s H C cl fp V0 => (ve_rev (ve_var 18)))) va_nil))) (vss_one (vs_retO ve_bl)) vss_nil)
  (vss_cons (vs_if (VW.vt (vw_or (vt_not (vt_of (fun _ => rfl) (ve_call (mi := [(0, 2), (1, 10)]) V0 c__law_dropped_right.c (hr.mono (by decide)) (va_M 2 (va_M 10 va_nil))))) (vw_or (vt_cmp (v_ne (by have := V0.room.un; omega)) (ve_meth (mi := [(0, 10)]) V0 10 rfl c_Lister_come.c (hr.mono (by decide)) (va_F (ve_var 13) va_nil)) (ve_var 14)) (vw_or1 (vt_cmp (v_ne (by have := V0.room.un; omega)) (ve_methP0 V0 10 rfl c_Lister_orders.c (hr.mono (by decide))) (ve_methP0 V0 7 rfl c_Lister_orders.c (hr.mono (by decide)))))))) (vss_one (vs_retO ve_bl)) vss_nil)
  (vss_one (vs_if (VW.vt (vw_and (vt_cmp (v_eq (by have := V0.room.un; omega)) (ve_var 14) (ve_lst vd_nil)) (vw_and1 (vt_cmp (v_eq (by have := V0.room.un; omega)) (ve_op v_mod (ve_call (mi := [(0, 2)]) V0 c__law_next.c (hr.mono (by decide)) (va_M 2 va_nil)) ve_int) ve_int)))) (vss_cons (vs_expr (ve_meth0 (mi := [(0, 10)]) V0 10 rfl c_Lister_undo.c (hr.mono (by decide))))
  (vss_one (vs_if (VW.vt (vw_or (vt_cmp (v_ne (by have := V0.room.un; omega)) (ve_methP0 V0 10 rfl c_Lister_orders.c (hr.mono (by decide))) (ve_var 12)) (vw_or1 (vt_cmp (v_ne (by have := V0.room.un; omega)) (ve_meth (mi := [(0, 10)]) V0 10 rfl c_Lister_come.c (hr.mono (by decide)) (va_F (ve_var 13) va_nil)) (ve_lst vd_nil))))) (vss_one (vs_retO ve_bl)) vss_nil))) vss_nil))))))))))
  (vss_cons (vs_asg V0.nd 15 (ve_methP0 V0 7 rfl c_Lister_orders.c (hr.mono (by decide))))
  (vss_cons (vs_if (VW.vt (vw_or (vt_cmp (v_ne (by have := V0.room.un; omega)) (ve_methP0 V0 8 rfl c_Lister_orders.c (hr.mono (by decide))) (ve_call (mi := []) V0 c__law_turned.c (hr.mono (by decide)) (va_F (ve_var 15) (va_F (ve_var 6) va_nil)))) (vw_or1 (vt_cmp (v_ne (by have := V0.room.un; omega)) (ve_methP0 V0 9 rfl c_Lister_orders.c (hr.mono (by decide))) (ve_cb (v_sortedL V0.u66) z.f_sorted b_sorted (va_cons (ve_lc V0 [("one", 18)] (t := (gName 18)) (vi_seq (ve_var 15)) (by kernel_rfl) (fun _ _ _ _ _ => pg_name V0.nd rfl (Or.inl rfl)) (sg_name (by decide)) (wg_name (by decide)) (fun s H C cl fp V0 => vc_no) (fun s H C cl fp V0 => (ve_rev (ve_var 18)))) va_nil)))))) (vss_one (vs_retO ve_bl)) vss_nil)
  (vss_cons (vs_asg V0.nd 16 (ve_methP0 V0 7 rfl c_Lister_least_apart.c (hr.mono (by decide))))
  (vss_one (vs_if (VW.vt (vw_or (vt_cmp (v_ne (by have := V0.room.un; omega)) (ve_lcI V0 18 [("one", 18)] (vns_cons 8 (vns_cons 9 (vns_cons 10 vns_nil))) (by kernel_rfl) (fun _ _ _ _ _ => pg_name V0.nd rfl (Or.inl rfl)) (by decide) (fun s H C cl fp V0 => (vei_meth V0 18 rfl (c_Lister_least_apart.c) (hr.mono (by decide))))) (ve_op v_mul (ve_lst (vd_cons (ve_var 16) vd_nil)) ve_int)) (vw_or1 (VW.vt (vw_and (vt_cmp v_isNot (ve_var 16) ve_non) (vw_and1 (vt_cmp v_lt (ve_var 16) (ve_var 5)))))))) (vss_one (vs_retO ve_bl)) vss_nil)))))))))))))
  (vss_one (vs_retO ve_bl)))) (by decide)
end
def d_is_whole : He.DefD := ⟨("is_whole", none), "is_whole", "is_whole", defArgs s_is_whole, defBody s_is_whole, defScope s_is_whole, [], []⟩
def d_need_way : He.DefD := ⟨("need_way", none), "need_way", "need_way", defArgs s_need_way, defBody s_need_way, defScope s_need_way, [], []⟩
def d_Lister___init__ : He.DefD := ⟨("Lister", some "__init__"), "__init__", "Lister.__init__", defArgs s_Lister___init__, defBody s_Lister___init__, defScope s_Lister___init__, [], []⟩
def d_turned_back : He.DefD := ⟨("turned_back", none), "turned_back", "turned_back", defArgs s_turned_back, defBody s_turned_back, defScope s_turned_back, [], []⟩
def d_far_by : He.DefD := ⟨("far_by", none), "far_by", "far_by", defArgs s_far_by, defBody s_far_by, defScope s_far_by, [], []⟩
def d_Lister_nearer_than : He.DefD := ⟨("Lister", some "nearer_than"), "nearer_than", "Lister.nearer_than", defArgs s_Lister_nearer_than, defBody s_Lister_nearer_than, defScope s_Lister_nearer_than, [], []⟩
def d_is_order : He.DefD := ⟨("is_order", none), "is_order", "is_order", defArgs s_is_order, defBody s_is_order, defScope s_is_order, [], []⟩
def d_need_order : He.DefD := ⟨("need_order", none), "need_order", "need_order", defArgs s_need_order, defBody s_need_order, defScope s_need_order, [], []⟩
def d_Lister_come : He.DefD := ⟨("Lister", some "come"), "come", "Lister.come", defArgs s_Lister_come, defBody s_Lister_come, defScope s_Lister_come, [], []⟩
def d_Lister_least_apart : He.DefD := ⟨("Lister", some "least_apart"), "least_apart", "Lister.least_apart", defArgs s_Lister_least_apart, defBody s_Lister_least_apart, defScope s_Lister_least_apart, [], []⟩
def d_Lister_orders : He.DefD := ⟨("Lister", some "orders"), "orders", "Lister.orders", defArgs s_Lister_orders, defBody s_Lister_orders, defScope s_Lister_orders, [], []⟩
def d_Lister_undo : He.DefD := ⟨("Lister", some "undo"), "undo", "Lister.undo", defArgs s_Lister_undo, defBody s_Lister_undo, defScope s_Lister_undo, [], []⟩
def d__law_cell_at : He.DefD := ⟨("_law_cell_at", none), "_law_cell_at", "_law_cell_at", defArgs s__law_cell_at, defBody s__law_cell_at, defScope s__law_cell_at, [], []⟩
def d__law_stir : He.DefD := ⟨("_law_stir", none), "_law_stir", "_law_stir", defArgs s__law_stir, defBody s__law_stir, defScope s__law_stir, [], []⟩
def d__law_deck : He.DefD := ⟨("_law_deck", none), "_law_deck", "_law_deck", defArgs s__law_deck, defBody s__law_deck, defScope s__law_deck, [], []⟩
def d_Lister_drop : He.DefD := ⟨("Lister", some "drop"), "drop", "Lister.drop", defArgs s_Lister_drop, defBody s_Lister_drop, defScope s_Lister_drop, [], []⟩
def d__law_next : He.DefD := ⟨("_law_next", none), "_law_next", "_law_next", defArgs s__law_next, defBody s__law_next, defScope s__law_next, [], []⟩
def d__law_dropped_right : He.DefD := ⟨("_law_dropped_right", none), "_law_dropped_right", "_law_dropped_right", defArgs s__law_dropped_right, defBody s__law_dropped_right, defScope s__law_dropped_right, [], []⟩
def d__law_near : He.DefD := ⟨("_law_near", none), "_law_near", "_law_near", defArgs s__law_near, defBody s__law_near, defScope s__law_near, [], []⟩
def d__law_order : He.DefD := ⟨("_law_order", none), "_law_order", "_law_order", defArgs s__law_order, defBody s__law_order, defScope s__law_order, [], []⟩
def d__law_free : He.DefD := ⟨("_law_free", none), "_law_free", "_law_free", defArgs s__law_free, defBody s__law_free, defScope s__law_free, [], []⟩
def d_need_list : He.DefD := ⟨("need_list", none), "need_list", "need_list", defArgs s_need_list, defBody s_need_list, defScope s_need_list, [], []⟩
def d_need_asked : He.DefD := ⟨("need_asked", none), "need_asked", "need_asked", defArgs s_need_asked, defBody s_need_asked, defScope s_need_asked, [], []⟩
def d_nearest_of : He.DefD := ⟨("nearest_of", none), "nearest_of", "nearest_of", defArgs s_nearest_of, defBody s_nearest_of, defScope s_nearest_of, [], []⟩
def d__law_told_right : He.DefD := ⟨("_law_told_right", none), "_law_told_right", "_law_told_right", defArgs s__law_told_right, defBody s__law_told_right, defScope s__law_told_right, [], []⟩
def d__law_turned : He.DefD := ⟨("_law_turned", none), "_law_turned", "_law_turned", defArgs s__law_turned, defBody s__law_turned, defScope s__law_turned, [], []⟩
def d_law : He.DefD := ⟨("law", none), "law", "law", defArgs s_law, defBody s_law, defScope s_law, [], []⟩
def fn : List He.DefD := [d_is_whole, d_need_way, d_Lister___init__, d_turned_back, d_far_by, d_Lister_nearer_than, d_is_order, d_need_order, d_Lister_come, d_Lister_least_apart, d_Lister_orders, d_Lister_undo, d__law_cell_at, d__law_stir, d__law_deck, d_Lister_drop, d__law_next, d__law_dropped_right, d__law_near, d__law_order, d__law_free, d_need_list, d_need_asked, d_nearest_of, d__law_told_right, d__law_turned, d_law]
def fa0 : List He.Fa := [.glo "is_whole", .glo "need_way", .glo "turned_back", .glo "far_by", .glo "is_order", .glo "need_order", .glo "_law_cell_at", .glo "_law_stir", .glo "_law_deck", .glo "_law_next", .glo "_law_dropped_right", .glo "_law_near", .glo "_law_order", .glo "_law_free", .glo "need_list", .glo "need_asked", .glo "nearest_of", .glo "_law_told_right", .glo "_law_turned", .glo "law", .cls "Lister", .glo "Lister", .noat "Lister" "deeds", .noat "Lister" "far", .noat "Lister" "held", .noat "Lister" "things", .noat "Lister" "way", .meth "Lister" "come", .meth "Lister" "drop", .meth "Lister" "least_apart"]
def fa1 : List He.Fa := [.meth "Lister" "nearer_than", .meth "Lister" "orders", .meth "Lister" "undo", .mkr "Lister", .exc "NoFit", .glo "NoFit", .exc "NoNumber", .glo "NoNumber", .exc "NoOrder", .glo "NoOrder", .exc "NoWay", .glo "NoWay", .exc "TooMany", .glo "TooMany", .free "abs", .free "bool", .free "enumerate", .free "int", .free "isinstance", .free "len", .free "list", .free "max", .free "min", .free "range", .free "set", .free "sorted", .free "str", .free "tuple", .free "zip", .int "MOST_HELD" 120]
def fa2 : List He.Fa := [.int "MOST_ORDERS" 120, .int "MOST_THINGS" 12, .int "MOST_THINGS_KEPT" 8]
def fa : List He.Fa := fa0 ++ fa1 ++ fa2
def exf (K : PySem.W.Frag) : Bool := (tupB "WAYS" ["swap", "spot", "shift"] K)
abbrev nm : List Str := (["_wall", "OrderError", "NoOrder", "NoWay", "NoFit", "NoNumber", "TooMany", "MOST_THINGS", "WAYS", "is_whole", "is_order", "need_order", "need_way", "turned_back", "far_by", "MOST_HELD", "MOST_THINGS_KEPT", "Lister", "MOST_ORDERS", "need_list", "need_asked", "nearest_of", "_law_cell_at", "_law_stir", "_law_deck", "_law_next", "_law_order", "_law_near", "_law_free", "_law_turned"] : List Str) ++ (["_law_told_right", "_law_dropped_right"] : List Str)
abbrev R : PySem.W.OpenRow := PySem.W.OpenLaw.row PySem.Challenge.rw_farorders_k76_whole_listers_otherwise
abbrev hk : PySem.W.Hook := He.hookX 5 fa fn [] [] exf
def ob (s : PySem.W.SharedT) : He.AlX := He.obsX 5 fa fn [] [] exf (HandSHeadRun.getT s)
theorem ob_eq (s : PySem.W.SharedT) : ob s = hk.obs s.abs := He.obsX_eq (HandSHeadRun.getT_eq s)
theorem run (w : World) : HandSHeadRun.RunEq R (PySem.W.view R.prog [37]) hk ob 4000 nm w := by
  intro os
  kernel_rfl
theorem facts {P : Program} {w : World} {K : PySem.W.Frag} {h : Heap} {mg : Str → Option Value} {f : Addr} (X : K.In h) (G : h.Ns mainGlobals mg) (hfa : mg ("law" : Str) = some (.ref f)) (c : He.SaysD fa fn K) (cx : exf K = true) :
    ∃ fd : FuncData, (∀ (s : Shared) (v : Value), BindsTo s fd ⟨[v], []⟩ [("script", v)]) ∧ ∀ base : Heap, K.In base → base.Ns mainGlobals mg → FnG P w K mg base 8 f fd ["script"] (spV ⟨K, mg, rhoI mg⟩ 1 [] h_law) := by
  obtain ⟨fd_is_whole, F_is_whole⟩ := c.def_ 0 (d := d_is_whole) rfl
  have g_is_whole := He.glo_ok X G (c.fact 0 (f := .glo "is_whole") rfl)
  obtain ⟨fd_need_way, F_need_way⟩ := c.def_ 1 (d := d_need_way) rfl
  have g_need_way := He.glo_ok X G (c.fact 1 (f := .glo "need_way") rfl)
  obtain ⟨fd_Lister___init__, F_Lister___init__⟩ := c.def_ 2 (d := d_Lister___init__) rfl
  obtain ⟨fd_turned_back, F_turned_back⟩ := c.def_ 3 (d := d_turned_back) rfl
  have g_turned_back := He.glo_ok X G (c.fact 2 (f := .glo "turned_back") rfl)
  obtain ⟨fd_far_by, F_far_by⟩ := c.def_ 4 (d := d_far_by) rfl
  have g_far_by := He.glo_ok X G (c.fact 3 (f := .glo "far_by") rfl)
  obtain ⟨fd_Lister_nearer_than, F_Lister_nearer_than⟩ := c.def_ 5 (d := d_Lister_nearer_than) rfl
  obtain ⟨fd_is_order, F_is_order⟩ := c.def_ 6 (d := d_is_order) rfl
  have g_is_order := He.glo_ok X G (c.fact 4 (f := .glo "is_order") rfl)
  obtain ⟨fd_need_order, F_need_order⟩ := c.def_ 7 (d := d_need_order) rfl
  have g_need_order := He.glo_ok X G (c.fact 5 (f := .glo "need_order") rfl)
  obtain ⟨fd_Lister_come, F_Lister_come⟩ := c.def_ 8 (d := d_Lister_come) rfl
  obtain ⟨fd_Lister_least_apart, F_Lister_least_apart⟩ := c.def_ 9 (d := d_Lister_least_apart) rfl
  obtain ⟨fd_Lister_orders, F_Lister_orders⟩ := c.def_ 10 (d := d_Lister_orders) rfl
  obtain ⟨fd_Lister_undo, F_Lister_undo⟩ := c.def_ 11 (d := d_Lister_undo) rfl
  obtain ⟨fd__law_cell_at, F__law_cell_at⟩ := c.def_ 12 (d := d__law_cell_at) rfl
  have g__law_cell_at := He.glo_ok X G (c.fact 6 (f := .glo "_law_cell_at") rfl)
  obtain ⟨fd__law_stir, F__law_stir⟩ := c.def_ 13 (d := d__law_stir) rfl
  have g__law_stir := He.glo_ok X G (c.fact 7 (f := .glo "_law_stir") rfl)
  obtain ⟨fd__law_deck, F__law_deck⟩ := c.def_ 14 (d := d__law_deck) rfl
  have g__law_deck := He.glo_ok X G (c.fact 8 (f := .glo "_law_deck") rfl)
  obtain ⟨fd_Lister_drop, F_Lister_drop⟩ := c.def_ 15 (d := d_Lister_drop) rfl
  obtain ⟨fd__law_next, F__law_next⟩ := c.def_ 16 (d := d__law_next) rfl
  have g__law_next := He.glo_ok X G (c.fact 9 (f := .glo "_law_next") rfl)
  obtain ⟨fd__law_dropped_right, F__law_dropped_right⟩ := c.def_ 17 (d := d__law_dropped_right) rfl
  have g__law_dropped_right := He.glo_ok X G (c.fact 10 (f := .glo "_law_dropped_right") rfl)
  obtain ⟨fd__law_near, F__law_near⟩ := c.def_ 18 (d := d__law_near) rfl
  have g__law_near := He.glo_ok X G (c.fact 11 (f := .glo "_law_near") rfl)
  obtain ⟨fd__law_order, F__law_order⟩ := c.def_ 19 (d := d__law_order) rfl
  have g__law_order := He.glo_ok X G (c.fact 12 (f := .glo "_law_order") rfl)
  obtain ⟨fd__law_free, F__law_free⟩ := c.def_ 20 (d := d__law_free) rfl
  have g__law_free := He.glo_ok X G (c.fact 13 (f := .glo "_law_free") rfl)
  obtain ⟨fd_need_list, F_need_list⟩ := c.def_ 21 (d := d_need_list) rfl
  have g_need_list := He.glo_ok X G (c.fact 14 (f := .glo "need_list") rfl)
  obtain ⟨fd_need_asked, F_need_asked⟩ := c.def_ 22 (d := d_need_asked) rfl
  have g_need_asked := He.glo_ok X G (c.fact 15 (f := .glo "need_asked") rfl)
  obtain ⟨fd_nearest_of, F_nearest_of⟩ := c.def_ 23 (d := d_nearest_of) rfl
  have g_nearest_of := He.glo_ok X G (c.fact 16 (f := .glo "nearest_of") rfl)
  obtain ⟨fd__law_told_right, F__law_told_right⟩ := c.def_ 24 (d := d__law_told_right) rfl
  have g__law_told_right := He.glo_ok X G (c.fact 17 (f := .glo "_law_told_right") rfl)
  obtain ⟨fd__law_turned, F__law_turned⟩ := c.def_ 25 (d := d__law_turned) rfl
  have g__law_turned := He.glo_ok X G (c.fact 18 (f := .glo "_law_turned") rfl)
  obtain ⟨fd_law, F_law⟩ := c.def_ 26 (d := d_law) rfl
  have g_law := He.glo_ok X G (c.fact 19 (f := .glo "law") rfl)
  have cx' : ((tupB "WAYS" ["swap", "spot", "shift"] K)) = true := cx
  have z : Fc K mg := {
    t_WAYS := tup_ok X G cx'
    c_Lister := ⟨He.glo_ok X G (c.fact 21 (f := .glo "Lister") rfl), He.cls_ok (c.fact 20 (f := .cls "Lister") rfl)⟩
    x_NoFit := xc_ok X G (c.fact 34 (f := .exc "NoFit") rfl) (c.fact 35 (f := .glo "NoFit") rfl)
    x_NoNumber := xc_ok X G (c.fact 36 (f := .exc "NoNumber") rfl) (c.fact 37 (f := .glo "NoNumber") rfl)
    x_NoOrder := xc_ok X G (c.fact 38 (f := .exc "NoOrder") rfl) (c.fact 39 (f := .glo "NoOrder") rfl)
    x_NoWay := xc_ok X G (c.fact 40 (f := .exc "NoWay") rfl) (c.fact 41 (f := .glo "NoWay") rfl)
    x_TooMany := xc_ok X G (c.fact 42 (f := .exc "TooMany") rfl) (c.fact 43 (f := .glo "TooMany") rfl)
    n_Lister_deeds := fld_ok ⟨He.glo_ok X G (c.fact 21 (f := .glo "Lister") rfl), He.cls_ok (c.fact 20 (f := .cls "Lister") rfl)⟩ (He.noat_ok (c.fact 22 (f := .noat "Lister" "deeds") rfl))
    n_Lister_far := fld_ok ⟨He.glo_ok X G (c.fact 21 (f := .glo "Lister") rfl), He.cls_ok (c.fact 20 (f := .cls "Lister") rfl)⟩ (He.noat_ok (c.fact 23 (f := .noat "Lister" "far") rfl))
    n_Lister_held := fld_ok ⟨He.glo_ok X G (c.fact 21 (f := .glo "Lister") rfl), He.cls_ok (c.fact 20 (f := .cls "Lister") rfl)⟩ (He.noat_ok (c.fact 24 (f := .noat "Lister" "held") rfl))
    n_Lister_things := fld_ok ⟨He.glo_ok X G (c.fact 21 (f := .glo "Lister") rfl), He.cls_ok (c.fact 20 (f := .cls "Lister") rfl)⟩ (He.noat_ok (c.fact 25 (f := .noat "Lister" "things") rfl))
    n_Lister_way := fld_ok ⟨He.glo_ok X G (c.fact 21 (f := .glo "Lister") rfl), He.cls_ok (c.fact 20 (f := .cls "Lister") rfl)⟩ (He.noat_ok (c.fact 26 (f := .noat "Lister" "way") rfl))
    f_abs := He.free_ok X G (c.fact 44 (f := .free "abs") rfl)
    f_bool := He.free_ok X G (c.fact 45 (f := .free "bool") rfl)
    f_enumerate := He.free_ok X G (c.fact 46 (f := .free "enumerate") rfl)
    f_int := He.free_ok X G (c.fact 47 (f := .free "int") rfl)
    f_isinstance := He.free_ok X G (c.fact 48 (f := .free "isinstance") rfl)
    f_len := He.free_ok X G (c.fact 49 (f := .free "len") rfl)
    f_list := He.free_ok X G (c.fact 50 (f := .free "list") rfl)
    f_max := He.free_ok X G (c.fact 51 (f := .free "max") rfl)
    f_min := He.free_ok X G (c.fact 52 (f := .free "min") rfl)
    f_range := He.free_ok X G (c.fact 53 (f := .free "range") rfl)
    f_set := He.free_ok X G (c.fact 54 (f := .free "set") rfl)
    f_sorted := He.free_ok X G (c.fact 55 (f := .free "sorted") rfl)
    f_str := He.free_ok X G (c.fact 56 (f := .free "str") rfl)
    f_tuple := He.free_ok X G (c.fact 57 (f := .free "tuple") rfl)
    f_zip := He.free_ok X G (c.fact 58 (f := .free "zip") rfl)
    i_MOST_HELD := He.int_ok X G (c.fact 59 (f := .int "MOST_HELD" 120) rfl)
    i_MOST_ORDERS := He.int_ok X G (c.fact 60 (f := .int "MOST_ORDERS" 120) rfl)
    i_MOST_THINGS := He.int_ok X G (c.fact 61 (f := .int "MOST_THINGS" 12) rfl)
    i_MOST_THINGS_KEPT := He.int_ok X G (c.fact 62 (f := .int "MOST_THINGS_KEPT" 8) rfl)
    m_Lister_come := He.meth_ok (c.fact 27 (f := .meth "Lister" "come") rfl)
    m_Lister_drop := He.meth_ok (c.fact 28 (f := .meth "Lister" "drop") rfl)
    m_Lister_least_apart := He.meth_ok (c.fact 29 (f := .meth "Lister" "least_apart") rfl)
    m_Lister_nearer_than := He.meth_ok (c.fact 30 (f := .meth "Lister" "nearer_than") rfl)
    m_Lister_orders := He.meth_ok (c.fact 31 (f := .meth "Lister" "orders") rfl)
    m_Lister_undo := He.meth_ok (c.fact 32 (f := .meth "Lister" "undo") rfl)
    k_Lister := He.mkr_ok (c.fact 33 (f := .mkr "Lister") rfl)
  }
  have e := hfa.symm.trans g_law
  cases e
  have b := FunD.bindsA (ps := ["script"]) F_law fun _ _ _ _ _ _ us hl => match us, hl with | [_], _ => rfl
  refine ⟨fd_law, fun s v => b s [v] rfl, fun base _ _ => ?_⟩
  have c_is_whole := ok_is_whole (P := P) (w := w) (base := base) F_is_whole g_is_whole z 
  have c_need_way := ok_need_way (P := P) (w := w) (base := base) F_need_way g_need_way z 
  have c_Lister___init__ := ok_Lister___init__ (P := P) (w := w) (base := base) F_Lister___init__ z c_is_whole c_need_way
  have c_turned_back := ok_turned_back (P := P) (w := w) (base := base) F_turned_back g_turned_back z 
  have c_far_by := ok_far_by (P := P) (w := w) (base := base) F_far_by g_far_by z c_turned_back
  have c_Lister_nearer_than := ok_Lister_nearer_than (P := P) (w := w) (base := base) F_Lister_nearer_than z c_far_by
  have c_is_order := ok_is_order (P := P) (w := w) (base := base) F_is_order g_is_order z c_is_whole
  have c_need_order := ok_need_order (P := P) (w := w) (base := base) F_need_order g_need_order z c_is_order
  have c_Lister_come := ok_Lister_come (P := P) (w := w) (base := base) F_Lister_come z c_Lister_nearer_than c_need_order
  have c_Lister_least_apart := ok_Lister_least_apart (P := P) (w := w) (base := base) F_Lister_least_apart z c_far_by
  have c_Lister_orders := ok_Lister_orders (P := P) (w := w) (base := base) F_Lister_orders z 
  have c_Lister_undo := ok_Lister_undo (P := P) (w := w) (base := base) F_Lister_undo z 
  have c__law_cell_at := ok__law_cell_at (P := P) (w := w) (base := base) F__law_cell_at g__law_cell_at z 
  have c__law_stir := ok__law_stir (P := P) (w := w) (base := base) F__law_stir g__law_stir z 
  have c__law_deck := ok__law_deck (P := P) (w := w) (base := base) F__law_deck g__law_deck z c__law_stir
  have c_Lister_drop := ok_Lister_drop (P := P) (w := w) (base := base) F_Lister_drop z c_need_order
  have c__law_next := ok__law_next (P := P) (w := w) (base := base) F__law_next g__law_next z c__law_stir
  have c__law_dropped_right := ok__law_dropped_right (P := P) (w := w) (base := base) F__law_dropped_right g__law_dropped_right z c_Lister_come c_Lister_drop c_Lister_orders c_Lister_undo c__law_next
  have c__law_near := ok__law_near (P := P) (w := w) (base := base) F__law_near g__law_near z c__law_next
  have c__law_order := ok__law_order (P := P) (w := w) (base := base) F__law_order g__law_order z c__law_next
  have c__law_free := ok__law_free (P := P) (w := w) (base := base) F__law_free g__law_free z c__law_near c__law_next c__law_order
  have c_need_list := ok_need_list (P := P) (w := w) (base := base) F_need_list g_need_list z c_is_order
  have c_need_asked := ok_need_asked (P := P) (w := w) (base := base) F_need_asked g_need_asked z c_need_list c_need_order c_need_way
  have c_nearest_of := ok_nearest_of (P := P) (w := w) (base := base) F_nearest_of g_nearest_of z c_far_by c_need_asked
  have c__law_told_right := ok__law_told_right (P := P) (w := w) (base := base) F__law_told_right g__law_told_right z c_nearest_of
  have c__law_turned := ok__law_turned (P := P) (w := w) (base := base) F__law_turned g__law_turned z 
  exact ok_law F_law z c_Lister___init__ c_Lister_come c_Lister_least_apart c_Lister_orders c_Lister_undo c__law_cell_at c__law_deck c__law_dropped_right c__law_free c__law_next c__law_order c__law_told_right c__law_turned
end K76
set_option maxRecDepth 100000
set_option maxHeartbeats 0
open PySem PySem.W PySem.Calls PyProof.Rows
theorem PySem.Challenge.cw_farorders_k76_whole_listers_otherwise_holds : PySem.Challenge.rw_farorders_k76_whole_listers_otherwise.Holds := by
  w_on; o_law
  refine HandSHeadRun.head_any (r := OpenLaw.row PySem.Challenge.rw_farorders_k76_whole_listers_otherwise) (q := view (OpenLaw.row PySem.Challenge.rw_farorders_k76_whole_listers_otherwise).prog [37]) (H := K76.hk) (ob := K76.ob) (M := 4000) (loose := K76.nm) (d := HandSHeadRun.topDef (OpenLaw.row PySem.Challenge.rw_farorders_k76_whole_listers_otherwise).prog 37) (kwd := []) K76.ob_eq
    (by kernel_rfl) (fun s => by kernel_rfl) K76.run (by kernel_rfl) (by kernel_rfl) (by kernel_rfl) (by rfl) (by first | assumption | decide +kernel) (by decide +kernel) ⟨rfl, rfl, rfl, rfl, rfl, by decide +kernel⟩ ?hw ?hc
  case hw => w_witness2
  case hc =>
    refine VL.walk_ofG (l := PySem.Challenge.rw_farorders_k76_whole_listers_otherwise) (n := 63) (k := 8) (x := "script") rfl (by decide) (by kernel_rfl) ⟨rfl, by decide, by decide⟩ (by kernel_rfl) ?F
    intro w mg fa h Y G hmg0
    obtain ⟨K, KX, c⟩ := Y
    have hmg : mg ("law" : PySem.Str) = some (.ref fa) := by
      have e : (HandSHeadRun.topDef (OpenLaw.row PySem.Challenge.rw_farorders_k76_whole_listers_otherwise).prog 37).name = ("law" : PySem.Str) := by kernel_rfl
      rw [← e]
      exact hmg0
    obtain ⟨fd, hb, hF⟩ := K76.facts (P := (PySem.Challenge.rw_farorders_k76_whole_listers_otherwise).prog) (w := w) KX G hmg c.t.d c.more
    exact ⟨K, fd, _, KX, hb, fun H a nums hl _ hS => VL.law_end hS (K76.left nums hl), hF⟩
